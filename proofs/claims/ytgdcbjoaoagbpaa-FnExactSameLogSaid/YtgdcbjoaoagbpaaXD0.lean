/- What a call comes to. -/
import Derived.Test.YtgdcbjoaoagbpaaXT
import Derived.Test.YtgdcbjoaoagbpaaXU
namespace Go.Proofs.Ytgdcbjoaoagbpaa.V
open Go Go.Proofs Go.RowKit
set_option maxRecDepth 100000
theorem law_laws_szStringS {x0 : List (List UInt8)} {x1 : Int} {r : Int} (hF : F_laws_szStringS x0 x1 = some r) : PCalls Try.prog 81 [.lst false 1 (fl (encS false) x0) x0.length, .int .i64 x1] (.int .i64 r) := by
  refine PCalls.of_r k_laws_szStringS rfl ?_
  unfold F_laws_szStringS at hF
  refine RW.sreg ?_
  refine rl.run 1 rfl ?_
  refine rl.done ?_
  refine RW.sreg ?_
  refine rl.run 5 rfl ?_
  refine rl.done ?_
  refine RW.seq ?_
  refine RW.sreg ?_
  refine rl.run 1 rfl ?_
  refine rl.gen rfl rfl fun b hb => ?_
  cases b
  · have h1 := iteBF hF hb
    refine rl.done ?_
    refine RW.cond_f rfl ?_
    refine RW.skip ?_
    refine RW.seq ?_
    refine RW.sreg ?_
    refine rl.run 1 rfl ?_
    refine rl.done ?_
    obtain ⟨y4, ey4, h3⟩ := bindS h1
    refine RW.cutq (σ := Int) (fun y2 => [(1, .int .i64 y2)]) (fun y2 => []) (fun y => y4 = .inr y) (fun _ _ _ _ g h => RW.gh g h) ?_ ?_
    · refine RW.blk ?_
      refine RW.iter (σ := Int × Int) ey4 (fun s1 => [(0, .lst false 1 (fl (encS false) x0) x0.length), (1, .int .i64 s1.1), (5, .int .i64 s1.2)]) (fun s1 => []) (Gh.ren0 [] .nil rfl (.cons rfl (.dat (ekS.rlst)) (.cons rfl (.dat .int) (.cons rfl (.dat .int) .nil)))) (fun s1 B o hS2 hB2 hE2 => ?_)
      unfold S_laws_szStringS_1 at hS2
      refine RW.seq ?_
      refine RW.sreg ?_
      refine rl.run 3 rfl ?_
      refine rl.gen rfl rfl fun b hb => ?_
      cases b
      · have h4 := iteBF hS2 hb
        refine rl.done ?_
        refine RW.cond_f rfl ?_
        refine RW.exit ?_
        refine blkA_eq ?_
        cases h4
        exact ⟨_, (hE2 _ rfl).symm, (Gh.ren0 [] .nil rfl (.cons rfl (.dat .int) .nil))⟩
      · have h5 := iteBT hS2 hb
        refine rl.done ?_
        refine RW.cond_t rfl ?_
        refine RW.skip ?_
        refine RW.seq ?_
        refine RW.blk ?_
        refine RW.sreg ?_
        refine rl.run 3 rfl ?_
        obtain ⟨v3, e3, h6⟩ := bindS h5
        refine rl.op (x_ia_lst (enc := encS) (o := false) rfl rfl rfl e3) ?_
        refine rl.op (x_ld_el (off' := 0) ekS rfl e3 rfl rfl rfl) ?_
        refine rl.run 3 rfl ?_
        refine rl.done ?_
        refine RW.keep [0, 1, 5] (a' := [(0, .lst false 1 (fl (encS false) x0) x0.length), (1, .int .i64 (w64 (s1.1 - (v3.length : Int)))), (5, .int .i64 s1.2)]) (H' := []) rfl rfl ?_
        refine RW.sreg ?_
        refine rl.run 1 rfl ?_
        refine rl.gen rfl rfl fun b hb => ?_
        cases b
        · have h7 := iteBF h6 hb
          refine rl.done ?_
          refine RW.cond_f rfl ?_
          refine RW.skip ?_
          refine RW.reg ?_
          refine rl.run 3 rfl ?_
          refine rl.done ?_
          cases h7
          exact hB2 _ rfl _ _ (Gh.ren0 [] .nil rfl (.cons rfl (.dat (ekS.rlst)) (.cons rfl (.dat .int) (.cons rfl (.dat .int) .nil))))
        · have h8 := iteBT h6 hb
          refine rl.done ?_
          refine RW.cond_t rfl ?_
          refine RW.sreg ?_
          refine rl.run 1 rfl ?_
          refine rl.done ?_
          refine RW.ret ?_
          cases h8
          have h9 := elimL h3 (hE2 _ rfl)
          cases h9
          exact RRet.mk rfl .int (by first | decide | simp)
    · intro y2 hC
      have h3 := elimR h3 hC
      refine RW.sreg ?_
      refine rl.run 2 rfl ?_
      refine rl.done ?_
      refine RW.ret ?_
      cases h3
      exact RRet.mk rfl .int (by first | decide | simp)
  · have h10 := iteBT hF hb
    refine rl.done ?_
    refine RW.cond_t rfl ?_
    refine RW.sreg ?_
    refine rl.run 1 rfl ?_
    refine rl.done ?_
    refine RW.ret ?_
    cases h10
    exact RRet.mk rfl .int (by first | decide | simp)
theorem law_laws_szWrite {x0 : TWrite} {x1 : Int} {r : Int} (hF : F_laws_szWrite x0 x1 = some r) : PCalls Try.prog 146 [.agg (enc_TWrite false x0), .int .i64 x1] (.int .i64 r) := by
  refine PCalls.of_r k_laws_szWrite rfl ?_
  unfold F_laws_szWrite at hF
  refine RW.sreg ?_
  refine rl.run 2 rfl ?_
  refine rl.done ?_
  refine RW.sreg ?_
  refine rl.run 6 rfl ?_
  refine rl.done ?_
  refine RW.seq ?_
  refine RW.sreg ?_
  refine rl.run 1 rfl ?_
  refine rl.gen rfl rfl fun b hb => ?_
  cases b
  · have h1 := iteBF hF hb
    refine rl.done ?_
    refine RW.cond_f rfl ?_
    refine RW.skip ?_
    refine RW.sreg ?_
    refine rl.run 2 rfl ?_
    refine rl.done ?_
    refine RW.keep [4] (a' := [(4, .int .i64 (w64 (x1 - (x0.Text.length : Int))))]) (H' := [some ⟨[.int .i64 x0.At, .str x0.Text], 0⟩]) rfl rfl ?_
    refine RW.ret ?_
    cases h1
    exact RRet.mk rfl .int (by first | decide | simp)
  · have h2 := iteBT hF hb
    refine rl.done ?_
    refine RW.cond_t rfl ?_
    refine RW.sreg ?_
    refine rl.run 1 rfl ?_
    refine rl.done ?_
    refine RW.ret ?_
    cases h2
    exact RRet.mk rfl .int (by first | decide | simp)
theorem law_laws_szWriteS {x0 : List TWrite} {x1 : Int} {r : Int} (hF : F_laws_szWriteS x0 x1 = some r) : PCalls Try.prog 82 [.lst false 2 (fl (enc_TWrite false) x0) x0.length, .int .i64 x1] (.int .i64 r) := by
  refine PCalls.of_r k_laws_szWriteS rfl ?_
  unfold F_laws_szWriteS at hF
  refine RW.sreg ?_
  refine rl.run 1 rfl ?_
  refine rl.done ?_
  refine RW.sreg ?_
  refine rl.run 5 rfl ?_
  refine rl.done ?_
  refine RW.seq ?_
  refine RW.sreg ?_
  refine rl.run 1 rfl ?_
  refine rl.gen rfl rfl fun b hb => ?_
  cases b
  · have h1 := iteBF hF hb
    refine rl.done ?_
    refine RW.cond_f rfl ?_
    refine RW.skip ?_
    refine RW.seq ?_
    refine RW.sreg ?_
    refine rl.run 1 rfl ?_
    refine rl.done ?_
    obtain ⟨y5, ey5, h3⟩ := bindS h1
    refine RW.cutq (σ := Int) (fun y2 => [(1, .int .i64 y2)]) (fun y2 => []) (fun y => y5 = .inr y) (fun _ _ _ _ g h => RW.gh g h) ?_ ?_
    · refine RW.blk ?_
      refine RW.iter (σ := Int × Int) ey5 (fun s1 => [(0, .lst false 2 (fl (enc_TWrite false) x0) x0.length), (1, .int .i64 s1.1), (5, .int .i64 s1.2)]) (fun s1 => []) (Gh.ren0 [] .nil rfl (.cons rfl (.dat (ek_TWrite.rlst)) (.cons rfl (.dat .int) (.cons rfl (.dat .int) .nil)))) (fun s1 B o hS2 hB2 hE2 => ?_)
      unfold S_laws_szWriteS_1 at hS2
      refine RW.seq ?_
      refine RW.sreg ?_
      refine rl.run 3 rfl ?_
      refine rl.gen rfl rfl fun b hb => ?_
      cases b
      · have h4 := iteBF hS2 hb
        refine rl.done ?_
        refine RW.cond_f rfl ?_
        refine RW.exit ?_
        refine blkA_eq ?_
        cases h4
        exact ⟨_, (hE2 _ rfl).symm, (Gh.ren0 [] .nil rfl (.cons rfl (.dat .int) .nil))⟩
      · have h5 := iteBT hS2 hb
        refine rl.done ?_
        refine RW.cond_t rfl ?_
        refine RW.skip ?_
        refine RW.seq ?_
        refine RW.blk ?_
        refine RW.sreg ?_
        refine rl.run 2 rfl ?_
        obtain ⟨v3, e3, h6⟩ := bindS h5
        refine rl.op (x_ia_lst (enc := enc_TWrite) (o := false) rfl rfl rfl e3) ?_
        refine rl.op (x_ld_ela (off' := 0) (vs := (enc_TWrite false v3)) ek_TWrite rfl e3 rfl rfl rfl) ?_
        refine rl.run 1 rfl ?_
        obtain ⟨v4, e4, h7⟩ := bindS h6
        refine rl.call rfl rfl rfl (CallW.val (r' := .int .i64 v4) ok_laws_szWrite (law_laws_szWrite e4) (.cons (.dat (.agg (ek_TWrite.dat false _))) (.cons .int .nil)) .refl ?_)
        refine rl.run 1 rfl ?_
        refine rl.done ?_
        refine RW.sreg ?_
        refine rl.run 1 rfl ?_
        refine rl.gen rfl rfl fun b hb => ?_
        cases b
        · have h8 := iteBF h7 hb
          refine rl.done ?_
          refine RW.keep [0, 1, 5, 25] (a' := [(0, .lst false 2 (fl (enc_TWrite false) x0) x0.length), (1, .int .i64 v4), (5, .int .i64 s1.2), (25, .bool false)]) (H' := []) rfl rfl ?_
          refine RW.cond_f rfl ?_
          refine RW.skip ?_
          refine RW.reg ?_
          refine rl.run 3 rfl ?_
          refine rl.done ?_
          cases h8
          exact hB2 _ rfl _ _ (Gh.ren0 [] .nil rfl (.cons rfl (.dat (ek_TWrite.rlst)) (.cons rfl (.dat .int) (.cons rfl (.dat .int) .nil))))
        · have h9 := iteBT h7 hb
          refine rl.done ?_
          refine RW.keep [0, 1, 5, 25] (a' := [(0, .lst false 2 (fl (enc_TWrite false) x0) x0.length), (1, .int .i64 v4), (5, .int .i64 s1.2), (25, .bool true)]) (H' := []) rfl rfl ?_
          refine RW.cond_t rfl ?_
          refine RW.sreg ?_
          refine rl.run 1 rfl ?_
          refine rl.done ?_
          refine RW.ret ?_
          cases h9
          have h10 := elimL h3 (hE2 _ rfl)
          cases h10
          exact RRet.mk rfl .int (by first | decide | simp)
    · intro y2 hC
      have h3 := elimR h3 hC
      refine RW.sreg ?_
      refine rl.run 2 rfl ?_
      refine rl.done ?_
      refine RW.ret ?_
      cases h3
      exact RRet.mk rfl .int (by first | decide | simp)
  · have h11 := iteBT hF hb
    refine rl.done ?_
    refine RW.cond_t rfl ?_
    refine RW.sreg ?_
    refine rl.run 1 rfl ?_
    refine rl.done ?_
    refine RW.ret ?_
    cases h11
    exact RRet.mk rfl .int (by first | decide | simp)
theorem law_laws_szDisk {x0 : TDisk} {x1 : Int} {r : Int} (hF : F_laws_szDisk x0 x1 = some r) : PCalls Try.prog 40 [.agg (enc_TDisk false x0), .int .i64 x1] (.int .i64 r) := by
  refine PCalls.of_r k_laws_szDisk rfl ?_
  unfold F_laws_szDisk at hF
  refine RW.sreg ?_
  refine rl.run 2 rfl ?_
  refine rl.done ?_
  refine RW.sreg ?_
  refine rl.run 3 rfl ?_
  obtain ⟨v1, e1, h1⟩ := bindS hF
  refine rl.call rfl rfl rfl (CallW.val (r' := .int .i64 v1) ok_laws_szStringS (law_laws_szStringS e1) (.cons (.lst ekS) (.cons .int .nil)) .refl ?_)
  refine rl.run 1 rfl ?_
  refine rl.done ?_
  refine RW.seq ?_
  refine RW.sreg ?_
  refine rl.run 1 rfl ?_
  refine rl.gen rfl rfl fun b hb => ?_
  cases b
  · have h2 := iteBF h1 hb
    refine rl.done ?_
    refine RW.cond_f rfl ?_
    refine RW.skip ?_
    refine RW.sreg ?_
    refine rl.run 3 rfl ?_
    obtain ⟨v2, e2, h3⟩ := bindS h2
    refine rl.call rfl rfl rfl (CallW.val (r' := .int .i64 v2) ok_laws_szWriteS (law_laws_szWriteS e2) (.cons (.lst ek_TWrite) (.cons .int .nil)) .refl ?_)
    refine rl.run 1 rfl ?_
    refine rl.done ?_
    refine RW.keep [1] (a' := [(1, .int .i64 v2)]) (H' := [some ⟨[.lst false 1 (fl (encS false) x0.Sectors) x0.Sectors.length, .lst false 2 (fl (enc_TWrite false) x0.Cache) x0.Cache.length], 0⟩]) rfl rfl ?_
    refine RW.seq ?_
    refine RW.sreg ?_
    refine rl.run 1 rfl ?_
    refine rl.gen rfl rfl fun b hb => ?_
    cases b
    · have h4 := iteBF h3 hb
      refine rl.done ?_
      refine RW.cond_f rfl ?_
      refine RW.skip ?_
      refine RW.sreg ?_
      refine rl.run 2 rfl ?_
      refine rl.done ?_
      refine RW.ret ?_
      cases h4
      exact RRet.mk rfl .int (by first | decide | simp)
    · have h5 := iteBT h3 hb
      refine rl.done ?_
      refine RW.cond_t rfl ?_
      refine RW.sreg ?_
      refine rl.run 1 rfl ?_
      refine rl.done ?_
      refine RW.ret ?_
      cases h5
      exact RRet.mk rfl .int (by first | decide | simp)
  · have h6 := iteBT h1 hb
    refine rl.done ?_
    refine RW.cond_t rfl ?_
    refine RW.sreg ?_
    refine rl.run 1 rfl ?_
    refine rl.done ?_
    refine RW.ret ?_
    cases h6
    exact RRet.mk rfl .int (by first | decide | simp)
theorem law_laws_szRec {x0 : TRec} {x1 : Int} {r : Int} (hF : F_laws_szRec x0 x1 = some r) : PCalls Try.prog 123 [.agg (enc_TRec false x0), .int .i64 x1] (.int .i64 r) := by
  refine PCalls.of_r k_laws_szRec rfl ?_
  unfold F_laws_szRec at hF
  refine RW.sreg ?_
  refine rl.run 2 rfl ?_
  refine rl.done ?_
  refine RW.sreg ?_
  refine rl.run 6 rfl ?_
  refine rl.done ?_
  refine RW.seq ?_
  refine RW.sreg ?_
  refine rl.run 1 rfl ?_
  refine rl.gen rfl rfl fun b hb => ?_
  cases b
  · have h1 := iteBF hF hb
    refine rl.done ?_
    refine RW.cond_f rfl ?_
    refine RW.skip ?_
    refine RW.sreg ?_
    refine rl.run 6 rfl ?_
    refine rl.done ?_
    refine RW.keep [1, 2] (a' := [(1, .int .i64 (w64 ((w64 (x1 - (x0.User.length : Int))) - (x0.Name.length : Int)))), (2, .ptr 0 0)]) (H' := [some ⟨[.int .i64 x0.Kind, .int .i64 x0.Valid, .int .i64 x0.Uid, .int .i64 x0.Next, .int .i64 x0.Flags, .str x0.User, .str x0.Name, .str x0.Text], 0⟩]) rfl rfl ?_
    refine RW.seq ?_
    refine RW.sreg ?_
    refine rl.run 1 rfl ?_
    refine rl.gen rfl rfl fun b hb => ?_
    cases b
    · have h2 := iteBF h1 hb
      refine rl.done ?_
      refine RW.cond_f rfl ?_
      refine RW.skip ?_
      refine RW.sreg ?_
      refine rl.run 6 rfl ?_
      refine rl.done ?_
      refine RW.seq ?_
      refine RW.sreg ?_
      refine rl.run 1 rfl ?_
      refine rl.gen rfl rfl fun b hb => ?_
      cases b
      · have h3 := iteBF h2 hb
        refine rl.done ?_
        refine RW.cond_f rfl ?_
        refine RW.skip ?_
        refine RW.sreg ?_
        refine rl.run 2 rfl ?_
        refine rl.done ?_
        refine RW.keep [4] (a' := [(4, .int .i64 (w64 ((w64 ((w64 (x1 - (x0.User.length : Int))) - (x0.Name.length : Int))) - (x0.Text.length : Int))))]) (H' := [some ⟨[.int .i64 x0.Kind, .int .i64 x0.Valid, .int .i64 x0.Uid, .int .i64 x0.Next, .int .i64 x0.Flags, .str x0.User, .str x0.Name, .str x0.Text], 0⟩]) rfl rfl ?_
        refine RW.ret ?_
        cases h3
        exact RRet.mk rfl .int (by first | decide | simp)
      · have h4 := iteBT h2 hb
        refine rl.done ?_
        refine RW.cond_t rfl ?_
        refine RW.sreg ?_
        refine rl.run 1 rfl ?_
        refine rl.done ?_
        refine RW.keep [4] (a' := [(4, .int .i64 (-1))]) (H' := [some ⟨[.int .i64 x0.Kind, .int .i64 x0.Valid, .int .i64 x0.Uid, .int .i64 x0.Next, .int .i64 x0.Flags, .str x0.User, .str x0.Name, .str x0.Text], 0⟩]) rfl rfl ?_
        refine RW.ret ?_
        cases h4
        exact RRet.mk rfl .int (by first | decide | simp)
    · have h5 := iteBT h1 hb
      refine rl.done ?_
      refine RW.cond_t rfl ?_
      refine RW.sreg ?_
      refine rl.run 1 rfl ?_
      refine rl.done ?_
      refine RW.ret ?_
      cases h5
      exact RRet.mk rfl .int (by first | decide | simp)
  · have h6 := iteBT hF hb
    refine rl.done ?_
    refine RW.cond_t rfl ?_
    refine RW.sreg ?_
    refine rl.run 1 rfl ?_
    refine rl.done ?_
    refine RW.ret ?_
    cases h6
    exact RRet.mk rfl .int (by first | decide | simp)
theorem law_laws_szItem {x0 : TItem} {x1 : Int} {r : Int} (hF : F_laws_szItem x0 x1 = some r) : PCalls Try.prog 67 [.agg (enc_TItem false x0), .int .i64 x1] (.int .i64 r) := by
  refine PCalls.of_r k_laws_szItem rfl ?_
  unfold F_laws_szItem at hF
  refine RW.sreg ?_
  refine rl.run 2 rfl ?_
  refine rl.done ?_
  refine RW.sreg ?_
  refine rl.run 3 rfl ?_
  obtain ⟨v1, e1, h1⟩ := bindS hF
  refine rl.call rfl rfl rfl (CallW.val (r' := .int .i64 v1) ok_laws_szRec (law_laws_szRec e1) (.cons (DFL.agg (.cons .int (.cons .int (.cons .int (.cons .int (.cons .int (.cons .str (.cons .str (.cons .str .nil))))))))) (.cons .int .nil)) .refl ?_)
  refine rl.run 1 rfl ?_
  refine rl.done ?_
  refine RW.seq ?_
  refine RW.sreg ?_
  refine rl.run 1 rfl ?_
  refine rl.gen rfl rfl fun b hb => ?_
  cases b
  · have h2 := iteBF h1 hb
    refine rl.done ?_
    refine RW.cond_f rfl ?_
    refine RW.skip ?_
    refine RW.sreg ?_
    refine rl.run 2 rfl ?_
    refine rl.done ?_
    refine RW.ret ?_
    cases h2
    exact RRet.mk rfl .int (by first | decide | simp)
  · have h3 := iteBT h1 hb
    refine rl.done ?_
    refine RW.cond_t rfl ?_
    refine RW.sreg ?_
    refine rl.run 1 rfl ?_
    refine rl.done ?_
    refine RW.ret ?_
    cases h3
    exact RRet.mk rfl .int (by first | decide | simp)
theorem law_laws_szItemS {x0 : List TItem} {x1 : Int} {r : Int} (hF : F_laws_szItemS x0 x1 = some r) : PCalls Try.prog 17 [.lst false 9 (fl (enc_TItem false) x0) x0.length, .int .i64 x1] (.int .i64 r) := by
  refine PCalls.of_r k_laws_szItemS rfl ?_
  unfold F_laws_szItemS at hF
  refine RW.sreg ?_
  refine rl.run 1 rfl ?_
  refine rl.done ?_
  refine RW.sreg ?_
  refine rl.run 5 rfl ?_
  refine rl.done ?_
  refine RW.seq ?_
  refine RW.sreg ?_
  refine rl.run 1 rfl ?_
  refine rl.gen rfl rfl fun b hb => ?_
  cases b
  · have h1 := iteBF hF hb
    refine rl.done ?_
    refine RW.cond_f rfl ?_
    refine RW.skip ?_
    refine RW.seq ?_
    refine RW.sreg ?_
    refine rl.run 1 rfl ?_
    refine rl.done ?_
    obtain ⟨y5, ey5, h3⟩ := bindS h1
    refine RW.cutq (σ := Int) (fun y2 => [(1, .int .i64 y2)]) (fun y2 => []) (fun y => y5 = .inr y) (fun _ _ _ _ g h => RW.gh g h) ?_ ?_
    · refine RW.blk ?_
      refine RW.iter (σ := Int × Int) ey5 (fun s1 => [(0, .lst false 9 (fl (enc_TItem false) x0) x0.length), (1, .int .i64 s1.1), (5, .int .i64 s1.2)]) (fun s1 => []) (Gh.ren0 [] .nil rfl (.cons rfl (.dat (ek_TItem.rlst)) (.cons rfl (.dat .int) (.cons rfl (.dat .int) .nil)))) (fun s1 B o hS2 hB2 hE2 => ?_)
      unfold S_laws_szItemS_1 at hS2
      refine RW.seq ?_
      refine RW.sreg ?_
      refine rl.run 3 rfl ?_
      refine rl.gen rfl rfl fun b hb => ?_
      cases b
      · have h4 := iteBF hS2 hb
        refine rl.done ?_
        refine RW.cond_f rfl ?_
        refine RW.exit ?_
        refine blkA_eq ?_
        cases h4
        exact ⟨_, (hE2 _ rfl).symm, (Gh.ren0 [] .nil rfl (.cons rfl (.dat .int) .nil))⟩
      · have h5 := iteBT hS2 hb
        refine rl.done ?_
        refine RW.cond_t rfl ?_
        refine RW.skip ?_
        refine RW.seq ?_
        refine RW.blk ?_
        refine RW.sreg ?_
        refine rl.run 2 rfl ?_
        obtain ⟨v3, e3, h6⟩ := bindS h5
        refine rl.op (x_ia_lst (enc := enc_TItem) (o := false) rfl rfl rfl e3) ?_
        refine rl.op (x_ld_ela (off' := 0) (vs := (enc_TItem false v3)) ek_TItem rfl e3 rfl rfl rfl) ?_
        refine rl.run 1 rfl ?_
        obtain ⟨v4, e4, h7⟩ := bindS h6
        refine rl.call rfl rfl rfl (CallW.val (r' := .int .i64 v4) ok_laws_szItem (law_laws_szItem e4) (.cons (.dat (.agg (ek_TItem.dat false _))) (.cons .int .nil)) .refl ?_)
        refine rl.run 1 rfl ?_
        refine rl.done ?_
        refine RW.sreg ?_
        refine rl.run 1 rfl ?_
        refine rl.gen rfl rfl fun b hb => ?_
        cases b
        · have h8 := iteBF h7 hb
          refine rl.done ?_
          refine RW.keep [0, 1, 5, 25] (a' := [(0, .lst false 9 (fl (enc_TItem false) x0) x0.length), (1, .int .i64 v4), (5, .int .i64 s1.2), (25, .bool false)]) (H' := []) rfl rfl ?_
          refine RW.cond_f rfl ?_
          refine RW.skip ?_
          refine RW.reg ?_
          refine rl.run 3 rfl ?_
          refine rl.done ?_
          cases h8
          exact hB2 _ rfl _ _ (Gh.ren0 [] .nil rfl (.cons rfl (.dat (ek_TItem.rlst)) (.cons rfl (.dat .int) (.cons rfl (.dat .int) .nil))))
        · have h9 := iteBT h7 hb
          refine rl.done ?_
          refine RW.keep [0, 1, 5, 25] (a' := [(0, .lst false 9 (fl (enc_TItem false) x0) x0.length), (1, .int .i64 v4), (5, .int .i64 s1.2), (25, .bool true)]) (H' := []) rfl rfl ?_
          refine RW.cond_t rfl ?_
          refine RW.sreg ?_
          refine rl.run 1 rfl ?_
          refine rl.done ?_
          refine RW.ret ?_
          cases h9
          have h10 := elimL h3 (hE2 _ rfl)
          cases h10
          exact RRet.mk rfl .int (by first | decide | simp)
    · intro y2 hC
      have h3 := elimR h3 hC
      refine RW.sreg ?_
      refine rl.run 2 rfl ?_
      refine rl.done ?_
      refine RW.ret ?_
      cases h3
      exact RRet.mk rfl .int (by first | decide | simp)
  · have h11 := iteBT hF hb
    refine rl.done ?_
    refine RW.cond_t rfl ?_
    refine RW.sreg ?_
    refine rl.run 1 rfl ?_
    refine rl.done ?_
    refine RW.ret ?_
    cases h11
    exact RRet.mk rfl .int (by first | decide | simp)
theorem law_laws_szSeg {x0 : TSeg} {x1 : Int} {r : Int} (hF : F_laws_szSeg x0 x1 = some r) : PCalls Try.prog 120 [.agg (enc_TSeg false x0), .int .i64 x1] (.int .i64 r) := by
  refine PCalls.of_r k_laws_szSeg rfl ?_
  unfold F_laws_szSeg at hF
  refine RW.sreg ?_
  refine rl.run 2 rfl ?_
  refine rl.done ?_
  refine RW.sreg ?_
  refine rl.run 3 rfl ?_
  obtain ⟨v1, e1, h1⟩ := bindS hF
  refine rl.call rfl rfl rfl (CallW.val (r' := .int .i64 v1) ok_laws_szItemS (law_laws_szItemS e1) (.cons (.lst ek_TItem) (.cons .int .nil)) .refl ?_)
  refine rl.run 1 rfl ?_
  refine rl.done ?_
  refine RW.seq ?_
  refine RW.sreg ?_
  refine rl.run 1 rfl ?_
  refine rl.gen rfl rfl fun b hb => ?_
  cases b
  · have h2 := iteBF h1 hb
    refine rl.done ?_
    refine RW.cond_f rfl ?_
    refine RW.skip ?_
    refine RW.sreg ?_
    refine rl.run 2 rfl ?_
    refine rl.done ?_
    refine RW.ret ?_
    cases h2
    exact RRet.mk rfl .int (by first | decide | simp)
  · have h3 := iteBT h1 hb
    refine rl.done ?_
    refine RW.cond_t rfl ?_
    refine RW.sreg ?_
    refine rl.run 1 rfl ?_
    refine rl.done ?_
    refine RW.ret ?_
    cases h3
    exact RRet.mk rfl .int (by first | decide | simp)
theorem law_laws_szSegS {x0 : List TSeg} {x1 : Int} {r : Int} (hF : F_laws_szSegS x0 x1 = some r) : PCalls Try.prog 61 [.lst false 4 (fl (enc_TSeg false) x0) x0.length, .int .i64 x1] (.int .i64 r) := by
  refine PCalls.of_r k_laws_szSegS rfl ?_
  unfold F_laws_szSegS at hF
  refine RW.sreg ?_
  refine rl.run 1 rfl ?_
  refine rl.done ?_
  refine RW.sreg ?_
  refine rl.run 5 rfl ?_
  refine rl.done ?_
  refine RW.seq ?_
  refine RW.sreg ?_
  refine rl.run 1 rfl ?_
  refine rl.gen rfl rfl fun b hb => ?_
  cases b
  · have h1 := iteBF hF hb
    refine rl.done ?_
    refine RW.cond_f rfl ?_
    refine RW.skip ?_
    refine RW.seq ?_
    refine RW.sreg ?_
    refine rl.run 1 rfl ?_
    refine rl.done ?_
    obtain ⟨y5, ey5, h3⟩ := bindS h1
    refine RW.cutq (σ := Int) (fun y2 => [(1, .int .i64 y2)]) (fun y2 => []) (fun y => y5 = .inr y) (fun _ _ _ _ g h => RW.gh g h) ?_ ?_
    · refine RW.blk ?_
      refine RW.iter (σ := Int × Int) ey5 (fun s1 => [(0, .lst false 4 (fl (enc_TSeg false) x0) x0.length), (1, .int .i64 s1.1), (5, .int .i64 s1.2)]) (fun s1 => []) (Gh.ren0 [] .nil rfl (.cons rfl (.dat (ek_TSeg.rlst)) (.cons rfl (.dat .int) (.cons rfl (.dat .int) .nil)))) (fun s1 B o hS2 hB2 hE2 => ?_)
      unfold S_laws_szSegS_1 at hS2
      refine RW.seq ?_
      refine RW.sreg ?_
      refine rl.run 3 rfl ?_
      refine rl.gen rfl rfl fun b hb => ?_
      cases b
      · have h4 := iteBF hS2 hb
        refine rl.done ?_
        refine RW.cond_f rfl ?_
        refine RW.exit ?_
        refine blkA_eq ?_
        cases h4
        exact ⟨_, (hE2 _ rfl).symm, (Gh.ren0 [] .nil rfl (.cons rfl (.dat .int) .nil))⟩
      · have h5 := iteBT hS2 hb
        refine rl.done ?_
        refine RW.cond_t rfl ?_
        refine RW.skip ?_
        refine RW.seq ?_
        refine RW.blk ?_
        refine RW.sreg ?_
        refine rl.run 2 rfl ?_
        obtain ⟨v3, e3, h6⟩ := bindS h5
        refine rl.op (x_ia_lst (enc := enc_TSeg) (o := false) rfl rfl rfl e3) ?_
        refine rl.op (x_ld_ela (off' := 0) (vs := (enc_TSeg false v3)) ek_TSeg rfl e3 rfl rfl rfl) ?_
        refine rl.run 1 rfl ?_
        obtain ⟨v4, e4, h7⟩ := bindS h6
        refine rl.call rfl rfl rfl (CallW.val (r' := .int .i64 v4) ok_laws_szSeg (law_laws_szSeg e4) (.cons (.dat (.agg (ek_TSeg.dat false _))) (.cons .int .nil)) .refl ?_)
        refine rl.run 1 rfl ?_
        refine rl.done ?_
        refine RW.sreg ?_
        refine rl.run 1 rfl ?_
        refine rl.gen rfl rfl fun b hb => ?_
        cases b
        · have h8 := iteBF h7 hb
          refine rl.done ?_
          refine RW.keep [0, 1, 5, 25] (a' := [(0, .lst false 4 (fl (enc_TSeg false) x0) x0.length), (1, .int .i64 v4), (5, .int .i64 s1.2), (25, .bool false)]) (H' := []) rfl rfl ?_
          refine RW.cond_f rfl ?_
          refine RW.skip ?_
          refine RW.reg ?_
          refine rl.run 3 rfl ?_
          refine rl.done ?_
          cases h8
          exact hB2 _ rfl _ _ (Gh.ren0 [] .nil rfl (.cons rfl (.dat (ek_TSeg.rlst)) (.cons rfl (.dat .int) (.cons rfl (.dat .int) .nil))))
        · have h9 := iteBT h7 hb
          refine rl.done ?_
          refine RW.keep [0, 1, 5, 25] (a' := [(0, .lst false 4 (fl (enc_TSeg false) x0) x0.length), (1, .int .i64 v4), (5, .int .i64 s1.2), (25, .bool true)]) (H' := []) rfl rfl ?_
          refine RW.cond_t rfl ?_
          refine RW.sreg ?_
          refine rl.run 1 rfl ?_
          refine rl.done ?_
          refine RW.ret ?_
          cases h9
          have h10 := elimL h3 (hE2 _ rfl)
          cases h10
          exact RRet.mk rfl .int (by first | decide | simp)
    · intro y2 hC
      have h3 := elimR h3 hC
      refine RW.sreg ?_
      refine rl.run 2 rfl ?_
      refine rl.done ?_
      refine RW.ret ?_
      cases h3
      exact RRet.mk rfl .int (by first | decide | simp)
  · have h11 := iteBT hF hb
    refine rl.done ?_
    refine RW.cond_t rfl ?_
    refine RW.sreg ?_
    refine rl.run 1 rfl ?_
    refine rl.done ?_
    refine RW.ret ?_
    cases h11
    exact RRet.mk rfl .int (by first | decide | simp)
theorem law_laws_szLog {x0 : TLog} {x1 : Int} {r : Int} (hF : F_laws_szLog x0 x1 = some r) : PCalls Try.prog 12 [.agg (enc_TLog false x0), .int .i64 x1] (.int .i64 r) := by
  refine PCalls.of_r k_laws_szLog rfl ?_
  unfold F_laws_szLog at hF
  refine RW.sreg ?_
  refine rl.run 2 rfl ?_
  refine rl.done ?_
  refine RW.sreg ?_
  refine rl.run 3 rfl ?_
  obtain ⟨v1, e1, h1⟩ := bindS hF
  refine rl.call rfl rfl rfl (CallW.val (r' := .int .i64 v1) ok_laws_szDisk (law_laws_szDisk e1) (.cons (DFL.agg (.cons (.lst ekS) (.cons (.lst ek_TWrite) .nil))) (.cons .int .nil)) .refl ?_)
  refine rl.run 1 rfl ?_
  refine rl.done ?_
  refine RW.seq ?_
  refine RW.sreg ?_
  refine rl.run 1 rfl ?_
  refine rl.gen rfl rfl fun b hb => ?_
  cases b
  · have h2 := iteBF h1 hb
    refine rl.done ?_
    refine RW.cond_f rfl ?_
    refine RW.skip ?_
    refine RW.sreg ?_
    refine rl.run 3 rfl ?_
    obtain ⟨v2, e2, h3⟩ := bindS h2
    refine rl.call rfl rfl rfl (CallW.val (r' := .int .i64 v2) ok_laws_szSegS (law_laws_szSegS e2) (.cons (.lst ek_TSeg) (.cons .int .nil)) .refl ?_)
    refine rl.run 1 rfl ?_
    refine rl.done ?_
    refine RW.keep [1] (a' := [(1, .int .i64 v2)]) (H' := [some ⟨[.lst false 1 (fl (encS false) x0.Disk.Sectors) x0.Disk.Sectors.length, .lst false 2 (fl (enc_TWrite false) x0.Disk.Cache) x0.Disk.Cache.length, .int .i64 x0.Segs, .lst false 4 (fl (enc_TSeg false) x0.Used) x0.Used.length, .int .i64 x0.NextGen, .int .i64 x0.NextSeq, .int .i64 x0.Stamp, .int .i64 x0.NextValid], 0⟩]) rfl rfl ?_
    refine RW.seq ?_
    refine RW.sreg ?_
    refine rl.run 1 rfl ?_
    refine rl.gen rfl rfl fun b hb => ?_
    cases b
    · have h4 := iteBF h3 hb
      refine rl.done ?_
      refine RW.cond_f rfl ?_
      refine RW.skip ?_
      refine RW.sreg ?_
      refine rl.run 2 rfl ?_
      refine rl.done ?_
      refine RW.ret ?_
      cases h4
      exact RRet.mk rfl .int (by first | decide | simp)
    · have h5 := iteBT h3 hb
      refine rl.done ?_
      refine RW.cond_t rfl ?_
      refine RW.sreg ?_
      refine rl.run 1 rfl ?_
      refine rl.done ?_
      refine RW.ret ?_
      cases h5
      exact RRet.mk rfl .int (by first | decide | simp)
  · have h6 := iteBT h1 hb
    refine rl.done ?_
    refine RW.cond_t rfl ?_
    refine RW.sreg ?_
    refine rl.run 1 rfl ?_
    refine rl.done ?_
    refine RW.ret ?_
    cases h6
    exact RRet.mk rfl .int (by first | decide | simp)
theorem law_spec_l09Same {x0 : TSeg} {x1 : TSeg} {r : Bool} (hF : F_spec_l09Same x0 x1 = some r) : PCalls Try.prog 62 [.agg (enc_TSeg false x0), .agg (enc_TSeg false x1)] (.bool r) := by
  refine PCalls.of_r k_spec_l09Same rfl ?_
  unfold F_spec_l09Same at hF
  refine RW.sreg ?_
  refine rl.run 3 rfl ?_
  refine rl.done ?_
  refine RW.seq ?_
  refine RW.seq ?_
  obtain ⟨y1, ey1, h1⟩ := bindS hF
  refine RW.cutq (σ := Bool) (fun y1 => [(2, .ptr 0 0), (3, .ptr 1 0), (33, .bool y1)]) (fun y1 => [some ⟨[.int .i64 x0.No, .int .i64 x0.Gen, .int .i64 x0.End, .lst false 9 (fl (enc_TItem false) x0.Items) x0.Items.length], 0⟩, some ⟨[.int .i64 x1.No, .int .i64 x1.Gen, .int .i64 x1.End, .lst false 9 (fl (enc_TItem false) x1.Items) x1.Items.length], 0⟩]) (fun y => y1 = y) (fun _ _ _ _ g h => RW.gh g h) ?_ ?_
  · refine RW.reg ?_
    refine rl.run 4 rfl ?_
    refine rl.gen rfl rfl fun b hb => ?_
    cases b
    · have h2 := iteBF ey1 hb
      refine rl.run 5 rfl ?_
      refine rl.gen rfl rfl fun b hb => ?_
      cases b
      · have h3 := iteBF h2 hb
        refine rl.run 6 rfl ?_
        refine rl.gen rfl rfl fun b hb => ?_
        cases b
        · have h4 := iteBF h3 hb
          refine rl.run 8 rfl ?_
          refine rl.gen rfl rfl fun b hb => ?_
          cases b
          · have h5 := iteBF h4 hb
            refine rl.run 1 rfl ?_
            refine rl.done ?_
            cases h5
            exact ⟨_, rfl, (Gh.ren0 [0, 1] (.cells rfl rfl (.keep .int (.keep .int (.keep .int (.keep (ek_TItem.rlst) .nil)))) (.cells rfl rfl (.keep .int (.keep .int (.keep .int (.keep (ek_TItem.rlst) .nil)))) .nil)) rfl (.cons rfl (.ptr rfl) (.cons rfl (.ptr rfl) (.cons rfl (.dat .bool) .nil))))⟩
          · have h6 := iteBT h4 hb
            refine rl.run 1 rfl ?_
            refine rl.done ?_
            cases h6
            exact ⟨_, rfl, (Gh.ren0 [0, 1] (.cells rfl rfl (.keep .int (.keep .int (.keep .int (.keep (ek_TItem.rlst) .nil)))) (.cells rfl rfl (.keep .int (.keep .int (.keep .int (.keep (ek_TItem.rlst) .nil)))) .nil)) rfl (.cons rfl (.ptr rfl) (.cons rfl (.ptr rfl) (.cons rfl (.dat .bool) .nil))))⟩
        · have h7 := iteBT h3 hb
          refine rl.run 10 rfl ?_
          refine rl.done ?_
          cases h7
          exact ⟨_, rfl, (Gh.ren0 [0, 1] (.cells rfl rfl (.keep .int (.keep .int (.keep .int (.keep (ek_TItem.rlst) .nil)))) (.cells rfl rfl (.keep .int (.keep .int (.keep .int (.keep (ek_TItem.rlst) .nil)))) .nil)) rfl (.cons rfl (.ptr rfl) (.cons rfl (.ptr rfl) (.cons rfl (.dat .bool) .nil))))⟩
      · have h8 := iteBT h2 hb
        refine rl.run 17 rfl ?_
        refine rl.done ?_
        cases h8
        exact ⟨_, rfl, (Gh.ren0 [0, 1] (.cells rfl rfl (.keep .int (.keep .int (.keep .int (.keep (ek_TItem.rlst) .nil)))) (.cells rfl rfl (.keep .int (.keep .int (.keep .int (.keep (ek_TItem.rlst) .nil)))) .nil)) rfl (.cons rfl (.ptr rfl) (.cons rfl (.ptr rfl) (.cons rfl (.dat .bool) .nil))))⟩
    · have h9 := iteBT ey1 hb
      refine rl.run 23 rfl ?_
      refine rl.done ?_
      cases h9
      exact ⟨_, rfl, (Gh.ren0 [0, 1] (.cells rfl rfl (.keep .int (.keep .int (.keep .int (.keep (ek_TItem.rlst) .nil)))) (.cells rfl rfl (.keep .int (.keep .int (.keep .int (.keep (ek_TItem.rlst) .nil)))) .nil)) rfl (.cons rfl (.ptr rfl) (.cons rfl (.ptr rfl) (.cons rfl (.dat .bool) .nil))))⟩
  · intro y hC
    subst hC
    cases hb : y1
    · have h10 := iteBF h1 hb
      refine RW.cond_f rfl ?_
      refine RW.skip ?_
      refine RW.seq ?_
      refine RW.sreg ?_
      refine rl.run 1 rfl ?_
      refine rl.done ?_
      obtain ⟨y6, ey6, h12⟩ := bindS h10
      refine RW.cutq (σ := Unit) (fun y3 => []) (fun y3 => []) (fun y => y6 = .inr y) (fun _ _ _ _ g h => RW.gh g h) ?_ ?_
      · refine RW.blk ?_
        refine RW.iter (σ := Int) ey6 (fun s2 => [(2, .ptr 0 0), (3, .ptr 1 0), (5, .int .i64 s2)]) (fun s2 => [some ⟨[.int .i64 x0.No, .int .i64 x0.Gen, .int .i64 x0.End, .lst false 9 (fl (enc_TItem false) x0.Items) x0.Items.length], 0⟩, some ⟨[.int .i64 x1.No, .int .i64 x1.Gen, .int .i64 x1.End, .lst false 9 (fl (enc_TItem false) x1.Items) x1.Items.length], 0⟩]) (Gh.ren0 [0, 1] (.cells rfl rfl (.keep .int (.keep .int (.keep .int (.keep (ek_TItem.rlst) .nil)))) (.cells rfl rfl (.keep .int (.keep .int (.keep .int (.keep (ek_TItem.rlst) .nil)))) .nil)) rfl (.cons rfl (.ptr rfl) (.cons rfl (.ptr rfl) (.cons rfl (.dat .int) .nil)))) (fun s2 B o hS11 hB11 hE11 => ?_)
        unfold S_spec_l09Same_1 at hS11
        refine RW.seq ?_
        refine RW.sreg ?_
        refine rl.run 4 rfl ?_
        refine rl.gen rfl rfl fun b hb => ?_
        cases b
        · have h13 := iteBF hS11 hb
          refine rl.done ?_
          refine RW.cond_f rfl ?_
          refine RW.exit ?_
          refine blkA_eq ?_
          cases h13
          exact ⟨_, (hE11 _ rfl).symm, (Gh.ren0 [] .nil rfl .nil)⟩
        · have h14 := iteBT hS11 hb
          refine rl.done ?_
          refine RW.cond_t rfl ?_
          refine RW.skip ?_
          refine RW.seq ?_
          refine RW.blk ?_
          refine RW.sdrw ?_
          refine rdraw.op rfl rfl ?_
          refine rdraw.op rfl rfl ?_
          refine rdraw.op rfl rfl ?_
          obtain ⟨v4, e4, h15⟩ := bindS h14
          refine rdraw.op rfl (x_ia_lst (enc := enc_TItem) (o := false) rfl rfl rfl e4) ?_
          refine rdraw.op rfl (x_ld_ela (off' := 0) (vs := (enc_TItem false v4)) ek_TItem rfl e4 rfl rfl rfl) ?_
          refine rdraw.op rfl rfl ?_
          refine rdraw.op rfl rfl ?_
          refine rdraw.op rfl rfl ?_
          obtain ⟨v5, e5, h16⟩ := bindS h15
          refine rdraw.op rfl (x_ia_lst (enc := enc_TItem) (o := false) rfl rfl rfl e5) ?_
          refine rdraw.op rfl (x_ld_ela (off' := 0) (vs := (enc_TItem false v5)) ek_TItem rfl e5 rfl rfl rfl) ?_
          refine rdraw.gen rfl rfl fun b hb => ?_
          cases b
          · have h17 := iteBF h16 hb
            refine rdraw.done ?_
            refine RW.keep [2, 3, 5, 51] (a' := [(2, .ptr 0 0), (3, .ptr 1 0), (5, .int .i64 s2), (51, .bool false)]) (H' := [some ⟨[.int .i64 x0.No, .int .i64 x0.Gen, .int .i64 x0.End, .lst false 9 (fl (enc_TItem false) x0.Items) x0.Items.length], 0⟩, some ⟨[.int .i64 x1.No, .int .i64 x1.Gen, .int .i64 x1.End, .lst false 9 (fl (enc_TItem false) x1.Items) x1.Items.length], 0⟩]) rfl rfl ?_
            refine RW.cond_f rfl ?_
            refine RW.skip ?_
            refine RW.reg ?_
            refine rl.run 3 rfl ?_
            refine rl.done ?_
            cases h17
            exact hB11 _ rfl _ _ (Gh.ren0 [0, 1] (.cells rfl rfl (.keep .int (.keep .int (.keep .int (.keep (ek_TItem.rlst) .nil)))) (.cells rfl rfl (.keep .int (.keep .int (.keep .int (.keep (ek_TItem.rlst) .nil)))) .nil)) rfl (.cons rfl (.ptr rfl) (.cons rfl (.ptr rfl) (.cons rfl (.dat .int) .nil))))
          · have h18 := iteBT h16 hb
            refine rdraw.done ?_
            refine RW.keep [2, 3, 5, 51] (a' := [(2, .ptr 0 0), (3, .ptr 1 0), (5, .int .i64 s2), (51, .bool true)]) (H' := [some ⟨[.int .i64 x0.No, .int .i64 x0.Gen, .int .i64 x0.End, .lst false 9 (fl (enc_TItem false) x0.Items) x0.Items.length], 0⟩, some ⟨[.int .i64 x1.No, .int .i64 x1.Gen, .int .i64 x1.End, .lst false 9 (fl (enc_TItem false) x1.Items) x1.Items.length], 0⟩]) rfl rfl ?_
            refine RW.cond_t rfl ?_
            refine RW.sreg ?_
            refine rl.run 1 rfl ?_
            refine rl.done ?_
            refine RW.ret ?_
            cases h18
            have h19 := elimL h12 (hE11 _ rfl)
            cases h19
            exact RRet.mk rfl .bool (by first | decide | simp)
      · intro y3 hC
        have h12 := elimR h12 hC
        refine RW.sreg ?_
        refine rl.run 1 rfl ?_
        refine rl.done ?_
        refine RW.ret ?_
        cases h12
        exact RRet.mk rfl .bool (by first | decide | simp)
    · have h20 := iteBT h1 hb
      refine RW.cond_t rfl ?_
      refine RW.sreg ?_
      refine rl.run 1 rfl ?_
      refine rl.done ?_
      refine RW.ret ?_
      cases h20
      exact RRet.mk rfl .bool (by first | decide | simp)
theorem law_spec_SameLog {x0 : TLog} {x1 : TLog} {r : Bool} (hF : F_spec_SameLog x0 x1 = some r) : PCalls Try.prog 13 [.agg (enc_TLog false x0), .agg (enc_TLog false x1)] (.bool r) := by
  refine PCalls.of_r k_spec_SameLog rfl ?_
  unfold F_spec_SameLog at hF
  refine RW.sreg ?_
  refine rl.run 3 rfl ?_
  refine rl.done ?_
  refine RW.seq ?_
  refine RW.seq ?_
  obtain ⟨y1, ey1, h1⟩ := bindS hF
  refine RW.cutq (σ := Bool) (fun y1 => [(2, .ptr 0 0), (3, .ptr 1 0), (33, .bool y1)]) (fun y1 => [some ⟨[.lst false 1 (fl (encS false) x0.Disk.Sectors) x0.Disk.Sectors.length, .lst false 2 (fl (enc_TWrite false) x0.Disk.Cache) x0.Disk.Cache.length, .int .i64 x0.Segs, .lst false 4 (fl (enc_TSeg false) x0.Used) x0.Used.length, .int .i64 x0.NextGen, .int .i64 x0.NextSeq, .int .i64 x0.Stamp, .int .i64 x0.NextValid], 0⟩, some ⟨[.lst false 1 (fl (encS false) x1.Disk.Sectors) x1.Disk.Sectors.length, .lst false 2 (fl (enc_TWrite false) x1.Disk.Cache) x1.Disk.Cache.length, .int .i64 x1.Segs, .lst false 4 (fl (enc_TSeg false) x1.Used) x1.Used.length, .int .i64 x1.NextGen, .int .i64 x1.NextSeq, .int .i64 x1.Stamp, .int .i64 x1.NextValid], 0⟩]) (fun y => y1 = y) (fun _ _ _ _ g h => RW.gh g h) ?_ ?_
  · refine RW.reg ?_
    refine rl.run 6 rfl ?_
    refine rl.gen rfl rfl fun b hb => ?_
    cases b
    · have h2 := iteBF ey1 hb
      refine rl.run 5 rfl ?_
      refine rl.gen rfl rfl fun b hb => ?_
      cases b
      · have h3 := iteBF h2 hb
        refine rl.run 6 rfl ?_
        refine rl.gen rfl rfl fun b hb => ?_
        cases b
        · have h4 := iteBF h3 hb
          refine rl.run 6 rfl ?_
          refine rl.gen rfl rfl fun b hb => ?_
          cases b
          · have h5 := iteBF h4 hb
            refine rl.run 1 rfl ?_
            refine rl.done ?_
            cases h5
            exact ⟨_, rfl, (Gh.ren0 [0, 1] (.cells rfl rfl (.keep (ekS.rlst) (.keep (ek_TWrite.rlst) (.keep .int (.keep (ek_TSeg.rlst) (.keep .int (.keep .int (.keep .int (.keep .int .nil)))))))) (.cells rfl rfl (.keep (ekS.rlst) (.keep (ek_TWrite.rlst) (.keep .int (.keep (ek_TSeg.rlst) (.keep .int (.keep .int (.keep .int (.keep .int .nil)))))))) .nil)) rfl (.cons rfl (.ptr rfl) (.cons rfl (.ptr rfl) (.cons rfl (.dat .bool) .nil))))⟩
          · have h6 := iteBT h4 hb
            refine rl.run 1 rfl ?_
            refine rl.done ?_
            cases h6
            exact ⟨_, rfl, (Gh.ren0 [0, 1] (.cells rfl rfl (.keep (ekS.rlst) (.keep (ek_TWrite.rlst) (.keep .int (.keep (ek_TSeg.rlst) (.keep .int (.keep .int (.keep .int (.keep .int .nil)))))))) (.cells rfl rfl (.keep (ekS.rlst) (.keep (ek_TWrite.rlst) (.keep .int (.keep (ek_TSeg.rlst) (.keep .int (.keep .int (.keep .int (.keep .int .nil)))))))) .nil)) rfl (.cons rfl (.ptr rfl) (.cons rfl (.ptr rfl) (.cons rfl (.dat .bool) .nil))))⟩
        · have h7 := iteBT h3 hb
          refine rl.run 8 rfl ?_
          refine rl.done ?_
          cases h7
          exact ⟨_, rfl, (Gh.ren0 [0, 1] (.cells rfl rfl (.keep (ekS.rlst) (.keep (ek_TWrite.rlst) (.keep .int (.keep (ek_TSeg.rlst) (.keep .int (.keep .int (.keep .int (.keep .int .nil)))))))) (.cells rfl rfl (.keep (ekS.rlst) (.keep (ek_TWrite.rlst) (.keep .int (.keep (ek_TSeg.rlst) (.keep .int (.keep .int (.keep .int (.keep .int .nil)))))))) .nil)) rfl (.cons rfl (.ptr rfl) (.cons rfl (.ptr rfl) (.cons rfl (.dat .bool) .nil))))⟩
      · have h8 := iteBT h2 hb
        refine rl.run 15 rfl ?_
        refine rl.done ?_
        cases h8
        exact ⟨_, rfl, (Gh.ren0 [0, 1] (.cells rfl rfl (.keep (ekS.rlst) (.keep (ek_TWrite.rlst) (.keep .int (.keep (ek_TSeg.rlst) (.keep .int (.keep .int (.keep .int (.keep .int .nil)))))))) (.cells rfl rfl (.keep (ekS.rlst) (.keep (ek_TWrite.rlst) (.keep .int (.keep (ek_TSeg.rlst) (.keep .int (.keep .int (.keep .int (.keep .int .nil)))))))) .nil)) rfl (.cons rfl (.ptr rfl) (.cons rfl (.ptr rfl) (.cons rfl (.dat .bool) .nil))))⟩
    · have h9 := iteBT ey1 hb
      refine rl.run 21 rfl ?_
      refine rl.done ?_
      cases h9
      exact ⟨_, rfl, (Gh.ren0 [0, 1] (.cells rfl rfl (.keep (ekS.rlst) (.keep (ek_TWrite.rlst) (.keep .int (.keep (ek_TSeg.rlst) (.keep .int (.keep .int (.keep .int (.keep .int .nil)))))))) (.cells rfl rfl (.keep (ekS.rlst) (.keep (ek_TWrite.rlst) (.keep .int (.keep (ek_TSeg.rlst) (.keep .int (.keep .int (.keep .int (.keep .int .nil)))))))) .nil)) rfl (.cons rfl (.ptr rfl) (.cons rfl (.ptr rfl) (.cons rfl (.dat .bool) .nil))))⟩
  · intro y hC
    subst hC
    cases hb : y1
    · have h10 := iteBF h1 hb
      refine RW.cond_f rfl ?_
      refine RW.skip ?_
      refine RW.seq ?_
      refine RW.sreg ?_
      refine rl.run 1 rfl ?_
      refine rl.done ?_
      obtain ⟨y7, ey7, h12⟩ := bindS h10
      refine RW.cutq (σ := Unit) (fun y3 => []) (fun y3 => []) (fun y => y7 = .inr y) (fun _ _ _ _ g h => RW.gh g h) ?_ ?_
      · refine RW.blk ?_
        refine RW.iter (σ := Int) ey7 (fun s2 => [(2, .ptr 0 0), (3, .ptr 1 0), (5, .int .i64 s2)]) (fun s2 => [some ⟨[.lst false 1 (fl (encS false) x0.Disk.Sectors) x0.Disk.Sectors.length, .lst false 2 (fl (enc_TWrite false) x0.Disk.Cache) x0.Disk.Cache.length, .int .i64 x0.Segs, .lst false 4 (fl (enc_TSeg false) x0.Used) x0.Used.length, .int .i64 x0.NextGen, .int .i64 x0.NextSeq, .int .i64 x0.Stamp, .int .i64 x0.NextValid], 0⟩, some ⟨[.lst false 1 (fl (encS false) x1.Disk.Sectors) x1.Disk.Sectors.length, .lst false 2 (fl (enc_TWrite false) x1.Disk.Cache) x1.Disk.Cache.length, .int .i64 x1.Segs, .lst false 4 (fl (enc_TSeg false) x1.Used) x1.Used.length, .int .i64 x1.NextGen, .int .i64 x1.NextSeq, .int .i64 x1.Stamp, .int .i64 x1.NextValid], 0⟩]) (Gh.ren0 [0, 1] (.cells rfl rfl (.keep (ekS.rlst) (.keep (ek_TWrite.rlst) (.keep .int (.keep (ek_TSeg.rlst) (.keep .int (.keep .int (.keep .int (.keep .int .nil)))))))) (.cells rfl rfl (.keep (ekS.rlst) (.keep (ek_TWrite.rlst) (.keep .int (.keep (ek_TSeg.rlst) (.keep .int (.keep .int (.keep .int (.keep .int .nil)))))))) .nil)) rfl (.cons rfl (.ptr rfl) (.cons rfl (.ptr rfl) (.cons rfl (.dat .int) .nil)))) (fun s2 B o hS11 hB11 hE11 => ?_)
        unfold S_spec_SameLog_1 at hS11
        refine RW.seq ?_
        refine RW.sreg ?_
        refine rl.run 4 rfl ?_
        refine rl.gen rfl rfl fun b hb => ?_
        cases b
        · have h13 := iteBF hS11 hb
          refine rl.done ?_
          refine RW.cond_f rfl ?_
          refine RW.exit ?_
          refine blkA_eq ?_
          cases h13
          exact ⟨_, (hE11 _ rfl).symm, (Gh.ren0 [] .nil rfl .nil)⟩
        · have h14 := iteBT hS11 hb
          refine rl.done ?_
          refine RW.cond_t rfl ?_
          refine RW.skip ?_
          refine RW.seq ?_
          refine RW.blk ?_
          refine RW.sdrw ?_
          refine rdraw.op rfl rfl ?_
          refine rdraw.op rfl rfl ?_
          refine rdraw.op rfl rfl ?_
          obtain ⟨v4, e4, h15⟩ := bindS h14
          refine rdraw.op rfl (x_ia_lst (enc := enc_TSeg) (o := false) rfl rfl rfl e4) ?_
          refine rdraw.op rfl (x_ld_ela (off' := 0) (vs := (enc_TSeg false v4)) ek_TSeg rfl e4 rfl rfl rfl) ?_
          refine rdraw.op rfl rfl ?_
          refine rdraw.op rfl rfl ?_
          refine rdraw.op rfl rfl ?_
          obtain ⟨v5, e5, h16⟩ := bindS h15
          refine rdraw.op rfl (x_ia_lst (enc := enc_TSeg) (o := false) rfl rfl rfl e5) ?_
          refine rdraw.op rfl (x_ld_ela (off' := 0) (vs := (enc_TSeg false v5)) ek_TSeg rfl e5 rfl rfl rfl) ?_
          obtain ⟨v6, e6, h17⟩ := bindS h16
          refine rdraw.call rfl rfl rfl (CallW.val (r' := .bool v6) ok_spec_l09Same (law_spec_l09Same e6) (.cons (.dat (.agg (ek_TSeg.dat false _))) (.cons (.dat (.agg (ek_TSeg.dat false _))) .nil)) .refl ⟨rfl, ?_⟩)
          cases hb : v6
          · have h18 := iteBF h17 hb
            refine rdraw.op rfl rfl ?_
            refine rdraw.done ?_
            refine RW.keep [2, 3, 5, 52] (a' := [(2, .ptr 0 0), (3, .ptr 1 0), (5, .int .i64 s2), (52, .bool true)]) (H' := [some ⟨[.lst false 1 (fl (encS false) x0.Disk.Sectors) x0.Disk.Sectors.length, .lst false 2 (fl (enc_TWrite false) x0.Disk.Cache) x0.Disk.Cache.length, .int .i64 x0.Segs, .lst false 4 (fl (enc_TSeg false) x0.Used) x0.Used.length, .int .i64 x0.NextGen, .int .i64 x0.NextSeq, .int .i64 x0.Stamp, .int .i64 x0.NextValid], 0⟩, some ⟨[.lst false 1 (fl (encS false) x1.Disk.Sectors) x1.Disk.Sectors.length, .lst false 2 (fl (enc_TWrite false) x1.Disk.Cache) x1.Disk.Cache.length, .int .i64 x1.Segs, .lst false 4 (fl (enc_TSeg false) x1.Used) x1.Used.length, .int .i64 x1.NextGen, .int .i64 x1.NextSeq, .int .i64 x1.Stamp, .int .i64 x1.NextValid], 0⟩]) rfl rfl ?_
            refine RW.cond_t rfl ?_
            refine RW.sreg ?_
            refine rl.run 1 rfl ?_
            refine rl.done ?_
            refine RW.ret ?_
            cases h18
            have h19 := elimL h12 (hE11 _ rfl)
            cases h19
            exact RRet.mk rfl .bool (by first | decide | simp)
          · have h20 := iteBT h17 hb
            refine rdraw.op rfl rfl ?_
            refine rdraw.done ?_
            refine RW.keep [2, 3, 5, 52] (a' := [(2, .ptr 0 0), (3, .ptr 1 0), (5, .int .i64 s2), (52, .bool false)]) (H' := [some ⟨[.lst false 1 (fl (encS false) x0.Disk.Sectors) x0.Disk.Sectors.length, .lst false 2 (fl (enc_TWrite false) x0.Disk.Cache) x0.Disk.Cache.length, .int .i64 x0.Segs, .lst false 4 (fl (enc_TSeg false) x0.Used) x0.Used.length, .int .i64 x0.NextGen, .int .i64 x0.NextSeq, .int .i64 x0.Stamp, .int .i64 x0.NextValid], 0⟩, some ⟨[.lst false 1 (fl (encS false) x1.Disk.Sectors) x1.Disk.Sectors.length, .lst false 2 (fl (enc_TWrite false) x1.Disk.Cache) x1.Disk.Cache.length, .int .i64 x1.Segs, .lst false 4 (fl (enc_TSeg false) x1.Used) x1.Used.length, .int .i64 x1.NextGen, .int .i64 x1.NextSeq, .int .i64 x1.Stamp, .int .i64 x1.NextValid], 0⟩]) rfl rfl ?_
            refine RW.cond_f rfl ?_
            refine RW.skip ?_
            refine RW.reg ?_
            refine rl.run 3 rfl ?_
            refine rl.done ?_
            cases h20
            exact hB11 _ rfl _ _ (Gh.ren0 [0, 1] (.cells rfl rfl (.keep (ekS.rlst) (.keep (ek_TWrite.rlst) (.keep .int (.keep (ek_TSeg.rlst) (.keep .int (.keep .int (.keep .int (.keep .int .nil)))))))) (.cells rfl rfl (.keep (ekS.rlst) (.keep (ek_TWrite.rlst) (.keep .int (.keep (ek_TSeg.rlst) (.keep .int (.keep .int (.keep .int (.keep .int .nil)))))))) .nil)) rfl (.cons rfl (.ptr rfl) (.cons rfl (.ptr rfl) (.cons rfl (.dat .int) .nil))))
      · intro y3 hC
        have h12 := elimR h12 hC
        refine RW.sreg ?_
        refine rl.run 1 rfl ?_
        refine rl.done ?_
        refine RW.ret ?_
        cases h12
        exact RRet.mk rfl .bool (by first | decide | simp)
    · have h21 := iteBT h1 hb
      refine RW.cond_t rfl ?_
      refine RW.sreg ?_
      refine rl.run 1 rfl ?_
      refine rl.done ?_
      refine RW.ret ?_
      cases h21
      exact RRet.mk rfl .bool (by first | decide | simp)
theorem law_laws_toStringS {x0 : List (List UInt8)} {r : List (List UInt8)} (hF : F_laws_toStringS x0 = some r) : PCalls Try.prog 85 [.lst false 1 (fl (encS false) x0) x0.length] (.lst true 1 (fl (encS true) r) r.length) := by
  refine PCalls.of_r k_laws_toStringS rfl ?_
  unfold F_laws_toStringS at hF
  refine RW.sreg ?_
  refine rl.run 1 rfl ?_
  refine rl.done ?_
  refine RW.sreg ?_
  refine rl.run 2 rfl ?_
  obtain ⟨v1, e1, h1⟩ := bindS hF
  refine rl.op (x_ms ekS rfl rfl e1 rfl) ?_
  refine rl.run 1 rfl ?_
  refine rl.done ?_
  refine RW.seq ?_
  refine RW.sreg ?_
  refine rl.run 1 rfl ?_
  refine rl.done ?_
  obtain ⟨y7, ey7, h3⟩ := bindS h1
  refine RW.cutq (σ := (List (List UInt8))) (fun y3 => [(3, .sl 0 0 y3.length)]) (fun y3 => [some ⟨fl (encS true) y3, 1⟩]) (fun y => y7 = y) (fun _ _ _ _ g h => RW.gh g h) ?_ ?_
  · refine RW.blk ?_
    refine RW.iter (σ := Int × (List (List UInt8))) ey7 (fun s2 => [(0, .lst false 1 (fl (encS false) x0) x0.length), (3, .sl 0 0 s2.2.length), (4, .int .i64 s2.1)]) (fun s2 => [some ⟨fl (encS true) s2.2, 1⟩]) (Gh.ren0 [0] (.same rfl (ekS.fref _ _) .nil) rfl (.cons rfl (.dat (ekS.rlst)) (.cons rfl (.slq rfl rfl) (.cons rfl (.dat .int) .nil)))) (fun s2 B o hS2 hB2 hE2 => ?_)
    unfold S_laws_toStringS_1 at hS2
    refine RW.seq ?_
    refine RW.sreg ?_
    refine rl.run 3 rfl ?_
    refine rl.gen rfl rfl fun b hb => ?_
    cases b
    · have h4 := iteBF hS2 hb
      refine rl.done ?_
      refine RW.cond_f rfl ?_
      refine RW.exit ?_
      refine blkA_eq ?_
      cases h4
      exact ⟨_, (hE2 _ rfl).symm, (Gh.ren0 [0] (.same rfl (ekS.fref _ _) .nil) rfl (.cons rfl (.slq rfl rfl) .nil))⟩
    · have h5 := iteBT hS2 hb
      refine rl.done ?_
      refine RW.cond_t rfl ?_
      refine RW.skip ?_
      refine RW.seq ?_
      refine RW.blk ?_
      refine RW.reg ?_
      refine rl.run 4 rfl ?_
      obtain ⟨v4, e4, h6⟩ := bindS h5
      refine rl.op (x_ia_lst (enc := encS) (o := false) rfl rfl rfl e4) ?_
      refine rl.op (x_ld_el (off' := 0) ekS rfl e4 rfl rfl rfl) ?_
      obtain ⟨v5, e5, h7⟩ := bindS h6
      refine rl.op (x_ia_sl rfl rfl rfl rfl e5) ?_
      obtain ⟨v6, e6, h8⟩ := bindS h7
      refine rl.op0 (x_st_sl' (off' := 0) (o := true) (e' := v4) ekS e5 rfl rfl rfl rfl rfl rfl rfl rfl rfl e6) ?_
      refine rl.done ?_
      refine RW.reg ?_
      refine rl.run 3 rfl ?_
      refine rl.done ?_
      cases h8
      exact hB2 _ rfl _ _ (Gh.ren0 [0] (.same rfl (ekS.fref _ _) .nil) rfl (.cons rfl (.dat (ekS.rlst)) (.cons rfl (.slq rfl (set'_len e6)) (.cons rfl (.dat .int) .nil))))
  · intro y3 hC
    subst hC
    refine RW.sreg ?_
    refine rl.run 2 rfl ?_
    refine rl.done ?_
    refine RW.ret ?_
    cases h3
    exact RRet.mk rfl (OutR.ownq ekS rfl rfl) (by first | decide | simp)
theorem law_laws_toWrite {x0 : TWrite} {r : TWrite} (hF : F_laws_toWrite x0 = some r) : PCalls Try.prog 151 [.agg (enc_TWrite false x0)] (.agg (enc_TWrite true r)) := by
  refine PCalls.of_r k_laws_toWrite rfl ?_
  unfold F_laws_toWrite at hF
  refine RW.sreg ?_
  refine rl.run 2 rfl ?_
  refine rl.done ?_
  refine RW.sreg ?_
  refine rl.run 1 rfl ?_
  refine rl.done ?_
  refine RW.sreg ?_
  refine rl.run 4 rfl ?_
  refine rl.done ?_
  refine RW.sreg ?_
  refine rl.run 4 rfl ?_
  refine rl.done ?_
  refine RW.sreg ?_
  refine rl.run 2 rfl ?_
  refine rl.done ?_
  refine RW.ret ?_
  cases hF
  exact RRet.mk rfl (OutL.agg (.cons .int rfl (.cons .str rfl .nil))) (by first | decide | simp)
theorem law_laws_toWriteS {x0 : List TWrite} {r : List TWrite} (hF : F_laws_toWriteS x0 = some r) : PCalls Try.prog 86 [.lst false 2 (fl (enc_TWrite false) x0) x0.length] (.lst true 2 (fl (enc_TWrite true) r) r.length) := by
  refine PCalls.of_r k_laws_toWriteS rfl ?_
  unfold F_laws_toWriteS at hF
  refine RW.sreg ?_
  refine rl.run 1 rfl ?_
  refine rl.done ?_
  refine RW.sreg ?_
  refine rl.run 2 rfl ?_
  obtain ⟨v1, e1, h1⟩ := bindS hF
  refine rl.op (x_ms ek_TWrite rfl rfl e1 rfl) ?_
  refine rl.run 1 rfl ?_
  refine rl.done ?_
  refine RW.seq ?_
  refine RW.sreg ?_
  refine rl.run 1 rfl ?_
  refine rl.done ?_
  obtain ⟨y8, ey8, h3⟩ := bindS h1
  refine RW.cutq (σ := (List TWrite)) (fun y3 => [(3, .sl 0 0 y3.length)]) (fun y3 => [some ⟨fl (enc_TWrite true) y3, 2⟩]) (fun y => y8 = y) (fun _ _ _ _ g h => RW.gh g h) ?_ ?_
  · refine RW.blk ?_
    refine RW.iter (σ := Int × (List TWrite)) ey8 (fun s2 => [(0, .lst false 2 (fl (enc_TWrite false) x0) x0.length), (3, .sl 0 0 s2.2.length), (4, .int .i64 s2.1)]) (fun s2 => [some ⟨fl (enc_TWrite true) s2.2, 2⟩]) (Gh.ren0 [0] (.same rfl (ek_TWrite.fref _ _) .nil) rfl (.cons rfl (.dat (ek_TWrite.rlst)) (.cons rfl (.slq rfl rfl) (.cons rfl (.dat .int) .nil)))) (fun s2 B o hS2 hB2 hE2 => ?_)
    unfold S_laws_toWriteS_1 at hS2
    refine RW.seq ?_
    refine RW.sreg ?_
    refine rl.run 3 rfl ?_
    refine rl.gen rfl rfl fun b hb => ?_
    cases b
    · have h4 := iteBF hS2 hb
      refine rl.done ?_
      refine RW.cond_f rfl ?_
      refine RW.exit ?_
      refine blkA_eq ?_
      cases h4
      exact ⟨_, (hE2 _ rfl).symm, (Gh.ren0 [0] (.same rfl (ek_TWrite.fref _ _) .nil) rfl (.cons rfl (.slq rfl rfl) .nil))⟩
    · have h5 := iteBT hS2 hb
      refine rl.done ?_
      refine RW.cond_t rfl ?_
      refine RW.skip ?_
      refine RW.seq ?_
      refine RW.blk ?_
      refine RW.reg ?_
      refine rl.run 4 rfl ?_
      obtain ⟨v4, e4, h6⟩ := bindS h5
      refine rl.op (x_ia_lst (enc := enc_TWrite) (o := false) rfl rfl rfl e4) ?_
      refine rl.op (x_ld_ela (off' := 0) (vs := (enc_TWrite false v4)) ek_TWrite rfl e4 rfl rfl rfl) ?_
      obtain ⟨v5, e5, h7⟩ := bindS h6
      refine rl.call rfl rfl rfl (CallW.val (r' := .agg (enc_TWrite false v5)) ok_laws_toWrite (law_laws_toWrite e5) (.cons (.dat (.agg (ek_TWrite.dat false _))) .nil) .refl ?_)
      obtain ⟨v6, e6, h8⟩ := bindS h7
      refine rl.op (x_ia_sl rfl rfl rfl rfl e6) ?_
      obtain ⟨v7, e7, h9⟩ := bindS h8
      refine rl.op0 (x_st_sl' (off' := 0) (o := true) (e' := v5) ek_TWrite e6 rfl rfl rfl rfl rfl rfl rfl rfl rfl e7) ?_
      refine rl.done ?_
      refine RW.reg ?_
      refine rl.run 3 rfl ?_
      refine rl.done ?_
      cases h9
      exact hB2 _ rfl _ _ (Gh.ren0 [0] (.same rfl (ek_TWrite.fref _ _) .nil) rfl (.cons rfl (.dat (ek_TWrite.rlst)) (.cons rfl (.slq rfl (set'_len e7)) (.cons rfl (.dat .int) .nil))))
  · intro y3 hC
    subst hC
    refine RW.sreg ?_
    refine rl.run 2 rfl ?_
    refine rl.done ?_
    refine RW.ret ?_
    cases h3
    exact RRet.mk rfl (OutR.ownq ek_TWrite rfl rfl) (by first | decide | simp)
theorem law_laws_toDisk {x0 : TDisk} {r : TDisk} (hF : F_laws_toDisk x0 = some r) : PCalls Try.prog 42 [.agg (enc_TDisk false x0)] (.agg (enc_TDisk true r)) := by
  refine PCalls.of_r k_laws_toDisk rfl ?_
  unfold F_laws_toDisk at hF
  refine RW.sreg ?_
  refine rl.run 2 rfl ?_
  refine rl.done ?_
  refine RW.sreg ?_
  refine rl.run 1 rfl ?_
  refine rl.done ?_
  refine RW.sreg ?_
  refine rl.run 2 rfl ?_
  obtain ⟨v1, e1, h1⟩ := bindS hF
  refine rl.call rfl rfl rfl (CallW.own (r' := .sl 3 0 v1.length) (H' := [some ⟨[.lst false 1 (fl (encS false) x0.Sectors) x0.Sectors.length, .lst false 2 (fl (enc_TWrite false) x0.Cache) x0.Cache.length], 0⟩, some ⟨[.nils, .nils], 0⟩, some ⟨[.nils, .nils], 0⟩, some ⟨fl (encS true) v1, 1⟩]) ok_laws_toStringS (law_laws_toStringS e1) (.cons (.lst ekS) .nil) (.lst (ekS.fown _)) rfl ?_)
  refine rl.run 2 rfl ?_
  refine rl.done ?_
  refine RW.sreg ?_
  refine rl.run 2 rfl ?_
  obtain ⟨v2, e2, h2⟩ := bindS h1
  refine rl.call rfl rfl rfl (CallW.own (r' := .sl 4 0 v2.length) (H' := [some ⟨[.lst false 1 (fl (encS false) x0.Sectors) x0.Sectors.length, .lst false 2 (fl (enc_TWrite false) x0.Cache) x0.Cache.length], 0⟩, some ⟨[.nils, .nils], 0⟩, some ⟨[.sl 3 0 v1.length, .nils], 0⟩, some ⟨fl (encS true) v1, 1⟩, some ⟨fl (enc_TWrite true) v2, 2⟩]) ok_laws_toWriteS (law_laws_toWriteS e2) (.cons (.lst ek_TWrite) .nil) (.lst (ek_TWrite.fown _)) rfl ?_)
  refine rl.run 2 rfl ?_
  refine rl.done ?_
  refine RW.sreg ?_
  refine rl.run 2 rfl ?_
  refine rl.done ?_
  refine RW.keep [2] (a' := [(2, .ptr 1 0)]) (H' := [some ⟨[.lst false 1 (fl (encS false) x0.Sectors) x0.Sectors.length, .lst false 2 (fl (enc_TWrite false) x0.Cache) x0.Cache.length], 0⟩, some ⟨[.sl 3 0 v1.length, .sl 4 0 v2.length], 0⟩, some ⟨[.sl 3 0 v1.length, .sl 4 0 v2.length], 0⟩, some ⟨fl (encS true) v1, 1⟩, some ⟨fl (enc_TWrite true) v2, 2⟩]) rfl rfl ?_
  refine RW.ret ?_
  cases h2
  exact RRet.mk rfl (OutL.agg (.cons (OutR.ownq ekS rfl rfl) rfl (.cons (OutR.ownq ek_TWrite rfl rfl) rfl .nil))) (by first | decide | simp)
theorem law_laws_toRec {x0 : TRec} {r : TRec} (hF : F_laws_toRec x0 = some r) : PCalls Try.prog 129 [.agg (enc_TRec false x0)] (.agg (enc_TRec true r)) := by
  refine PCalls.of_r k_laws_toRec rfl ?_
  unfold F_laws_toRec at hF
  refine RW.sreg ?_
  refine rl.run 2 rfl ?_
  refine rl.done ?_
  refine RW.sreg ?_
  refine rl.run 1 rfl ?_
  refine rl.done ?_
  refine RW.sreg ?_
  refine rl.run 4 rfl ?_
  refine rl.done ?_
  refine RW.sreg ?_
  refine rl.run 4 rfl ?_
  refine rl.done ?_
  refine RW.sreg ?_
  refine rl.run 4 rfl ?_
  refine rl.done ?_
  refine RW.sreg ?_
  refine rl.run 4 rfl ?_
  refine rl.done ?_
  refine RW.keep [1, 2, 3] (a' := [(1, .ptr 0 0), (2, .ptr 1 0), (3, .ptr 2 0)]) (H' := [some ⟨[.int .i64 x0.Kind, .int .i64 x0.Valid, .int .i64 x0.Uid, .int .i64 x0.Next, .int .i64 x0.Flags, .str x0.User, .str x0.Name, .str x0.Text], 0⟩, some ⟨[.int .i64 0, .int .i64 0, .int .i64 0, .int .i64 0, .int .i64 0, .str [], .str [], .str []], 0⟩, some ⟨[.int .i64 x0.Kind, .int .i64 x0.Valid, .int .i64 x0.Uid, .int .i64 x0.Next, .int .i64 0, .str [], .str [], .str []], 0⟩]) rfl rfl ?_
  refine RW.sreg ?_
  refine rl.run 4 rfl ?_
  refine rl.done ?_
  refine RW.sreg ?_
  refine rl.run 4 rfl ?_
  refine rl.done ?_
  refine RW.sreg ?_
  refine rl.run 4 rfl ?_
  refine rl.done ?_
  refine RW.sreg ?_
  refine rl.run 4 rfl ?_
  refine rl.done ?_
  refine RW.keep [2, 3] (a' := [(2, .ptr 1 0), (3, .ptr 2 0)]) (H' := [some ⟨[.int .i64 x0.Kind, .int .i64 x0.Valid, .int .i64 x0.Uid, .int .i64 x0.Next, .int .i64 x0.Flags, .str x0.User, .str x0.Name, .str x0.Text], 0⟩, some ⟨[.int .i64 0, .int .i64 0, .int .i64 0, .int .i64 0, .int .i64 0, .str [], .str [], .str []], 0⟩, some ⟨[.int .i64 x0.Kind, .int .i64 x0.Valid, .int .i64 x0.Uid, .int .i64 x0.Next, .int .i64 x0.Flags, .str x0.User, .str x0.Name, .str x0.Text], 0⟩]) rfl rfl ?_
  refine RW.sreg ?_
  refine rl.run 2 rfl ?_
  refine rl.done ?_
  refine RW.ret ?_
  cases hF
  exact RRet.mk rfl (OutL.agg (.cons .int rfl (.cons .int rfl (.cons .int rfl (.cons .int rfl (.cons .int rfl (.cons .str rfl (.cons .str rfl (.cons .str rfl .nil))))))))) (by first | decide | simp)
theorem law_laws_toItem {x0 : TItem} {r : TItem} (hF : F_laws_toItem x0 = some r) : PCalls Try.prog 70 [.agg (enc_TItem false x0)] (.agg (enc_TItem true r)) := by
  refine PCalls.of_r k_laws_toItem rfl ?_
  unfold F_laws_toItem at hF
  refine RW.sreg ?_
  refine rl.run 2 rfl ?_
  refine rl.done ?_
  refine RW.sreg ?_
  refine rl.run 1 rfl ?_
  refine rl.done ?_
  refine RW.sreg ?_
  refine rl.run 4 rfl ?_
  refine rl.done ?_
  refine RW.sreg ?_
  refine rl.run 2 rfl ?_
  obtain ⟨v1, e1, h1⟩ := bindS hF
  refine rl.call rfl rfl rfl (CallW.val (r' := .agg (enc_TRec false v1)) ok_laws_toRec (law_laws_toRec e1) (.cons (DFL.agg (.cons .int (.cons .int (.cons .int (.cons .int (.cons .int (.cons .str (.cons .str (.cons .str .nil))))))))) .nil) .refl ?_)
  refine rl.run 2 rfl ?_
  refine rl.done ?_
  refine RW.sreg ?_
  refine rl.run 2 rfl ?_
  refine rl.done ?_
  refine RW.keep [2] (a' := [(2, .ptr 1 0)]) (H' := [some ⟨[.int .i64 x0.Seq, .int .i64 x0.Rec.Kind, .int .i64 x0.Rec.Valid, .int .i64 x0.Rec.Uid, .int .i64 x0.Rec.Next, .int .i64 x0.Rec.Flags, .str x0.Rec.User, .str x0.Rec.Name, .str x0.Rec.Text], 0⟩, some ⟨[.int .i64 x0.Seq, .int .i64 v1.Kind, .int .i64 v1.Valid, .int .i64 v1.Uid, .int .i64 v1.Next, .int .i64 v1.Flags, .str v1.User, .str v1.Name, .str v1.Text], 0⟩, some ⟨[.int .i64 x0.Seq, .int .i64 v1.Kind, .int .i64 v1.Valid, .int .i64 v1.Uid, .int .i64 v1.Next, .int .i64 v1.Flags, .str v1.User, .str v1.Name, .str v1.Text], 0⟩]) rfl rfl ?_
  refine RW.ret ?_
  cases h1
  exact RRet.mk rfl (OutL.agg (.cons .int rfl (.cons .int rfl (.cons .int rfl (.cons .int rfl (.cons .int rfl (.cons .int rfl (.cons .str rfl (.cons .str rfl (.cons .str rfl .nil)))))))))) (by first | decide | simp)
theorem law_laws_toItemS {x0 : List TItem} {r : List TItem} (hF : F_laws_toItemS x0 = some r) : PCalls Try.prog 19 [.lst false 9 (fl (enc_TItem false) x0) x0.length] (.lst true 9 (fl (enc_TItem true) r) r.length) := by
  refine PCalls.of_r k_laws_toItemS rfl ?_
  unfold F_laws_toItemS at hF
  refine RW.sreg ?_
  refine rl.run 1 rfl ?_
  refine rl.done ?_
  refine RW.sreg ?_
  refine rl.run 2 rfl ?_
  obtain ⟨v1, e1, h1⟩ := bindS hF
  refine rl.op (x_ms ek_TItem rfl rfl e1 rfl) ?_
  refine rl.run 1 rfl ?_
  refine rl.done ?_
  refine RW.seq ?_
  refine RW.sreg ?_
  refine rl.run 1 rfl ?_
  refine rl.done ?_
  obtain ⟨y8, ey8, h3⟩ := bindS h1
  refine RW.cutq (σ := (List TItem)) (fun y3 => [(3, .sl 0 0 y3.length)]) (fun y3 => [some ⟨fl (enc_TItem true) y3, 9⟩]) (fun y => y8 = y) (fun _ _ _ _ g h => RW.gh g h) ?_ ?_
  · refine RW.blk ?_
    refine RW.iter (σ := Int × (List TItem)) ey8 (fun s2 => [(0, .lst false 9 (fl (enc_TItem false) x0) x0.length), (3, .sl 0 0 s2.2.length), (4, .int .i64 s2.1)]) (fun s2 => [some ⟨fl (enc_TItem true) s2.2, 9⟩]) (Gh.ren0 [0] (.same rfl (ek_TItem.fref _ _) .nil) rfl (.cons rfl (.dat (ek_TItem.rlst)) (.cons rfl (.slq rfl rfl) (.cons rfl (.dat .int) .nil)))) (fun s2 B o hS2 hB2 hE2 => ?_)
    unfold S_laws_toItemS_1 at hS2
    refine RW.seq ?_
    refine RW.sreg ?_
    refine rl.run 3 rfl ?_
    refine rl.gen rfl rfl fun b hb => ?_
    cases b
    · have h4 := iteBF hS2 hb
      refine rl.done ?_
      refine RW.cond_f rfl ?_
      refine RW.exit ?_
      refine blkA_eq ?_
      cases h4
      exact ⟨_, (hE2 _ rfl).symm, (Gh.ren0 [0] (.same rfl (ek_TItem.fref _ _) .nil) rfl (.cons rfl (.slq rfl rfl) .nil))⟩
    · have h5 := iteBT hS2 hb
      refine rl.done ?_
      refine RW.cond_t rfl ?_
      refine RW.skip ?_
      refine RW.seq ?_
      refine RW.blk ?_
      refine RW.reg ?_
      refine rl.run 4 rfl ?_
      obtain ⟨v4, e4, h6⟩ := bindS h5
      refine rl.op (x_ia_lst (enc := enc_TItem) (o := false) rfl rfl rfl e4) ?_
      refine rl.op (x_ld_ela (off' := 0) (vs := (enc_TItem false v4)) ek_TItem rfl e4 rfl rfl rfl) ?_
      obtain ⟨v5, e5, h7⟩ := bindS h6
      refine rl.call rfl rfl rfl (CallW.val (r' := .agg (enc_TItem false v5)) ok_laws_toItem (law_laws_toItem e5) (.cons (.dat (.agg (ek_TItem.dat false _))) .nil) .refl ?_)
      obtain ⟨v6, e6, h8⟩ := bindS h7
      refine rl.op (x_ia_sl rfl rfl rfl rfl e6) ?_
      obtain ⟨v7, e7, h9⟩ := bindS h8
      refine rl.op0 (x_st_sl' (off' := 0) (o := true) (e' := v5) ek_TItem e6 rfl rfl rfl rfl rfl rfl rfl rfl rfl e7) ?_
      refine rl.done ?_
      refine RW.reg ?_
      refine rl.run 3 rfl ?_
      refine rl.done ?_
      cases h9
      exact hB2 _ rfl _ _ (Gh.ren0 [0] (.same rfl (ek_TItem.fref _ _) .nil) rfl (.cons rfl (.dat (ek_TItem.rlst)) (.cons rfl (.slq rfl (set'_len e7)) (.cons rfl (.dat .int) .nil))))
  · intro y3 hC
    subst hC
    refine RW.sreg ?_
    refine rl.run 2 rfl ?_
    refine rl.done ?_
    refine RW.ret ?_
    cases h3
    exact RRet.mk rfl (OutR.ownq ek_TItem rfl rfl) (by first | decide | simp)
theorem law_laws_toSeg {x0 : TSeg} {r : TSeg} (hF : F_laws_toSeg x0 = some r) : PCalls Try.prog 121 [.agg (enc_TSeg false x0)] (.agg (enc_TSeg true r)) := by
  refine PCalls.of_r k_laws_toSeg rfl ?_
  unfold F_laws_toSeg at hF
  refine RW.sreg ?_
  refine rl.run 2 rfl ?_
  refine rl.done ?_
  refine RW.sreg ?_
  refine rl.run 1 rfl ?_
  refine rl.done ?_
  refine RW.sreg ?_
  refine rl.run 4 rfl ?_
  refine rl.done ?_
  refine RW.sreg ?_
  refine rl.run 4 rfl ?_
  refine rl.done ?_
  refine RW.sreg ?_
  refine rl.run 4 rfl ?_
  refine rl.done ?_
  refine RW.sreg ?_
  refine rl.run 2 rfl ?_
  obtain ⟨v1, e1, h1⟩ := bindS hF
  refine rl.call rfl rfl rfl (CallW.own (r' := .sl 3 0 v1.length) (H' := [some ⟨[.int .i64 x0.No, .int .i64 x0.Gen, .int .i64 x0.End, .lst false 9 (fl (enc_TItem false) x0.Items) x0.Items.length], 0⟩, some ⟨[.int .i64 0, .int .i64 0, .int .i64 0, .nils], 0⟩, some ⟨[.int .i64 x0.No, .int .i64 x0.Gen, .int .i64 x0.End, .nils], 0⟩, some ⟨fl (enc_TItem true) v1, 9⟩]) ok_laws_toItemS (law_laws_toItemS e1) (.cons (.lst ek_TItem) .nil) (.lst (ek_TItem.fown _)) rfl ?_)
  refine rl.run 2 rfl ?_
  refine rl.done ?_
  refine RW.keep [2, 3] (a' := [(2, .ptr 1 0), (3, .ptr 2 0)]) (H' := [some ⟨[.int .i64 x0.No, .int .i64 x0.Gen, .int .i64 x0.End, .lst false 9 (fl (enc_TItem false) x0.Items) x0.Items.length], 0⟩, some ⟨[.int .i64 0, .int .i64 0, .int .i64 0, .nils], 0⟩, some ⟨[.int .i64 x0.No, .int .i64 x0.Gen, .int .i64 x0.End, .sl 3 0 v1.length], 0⟩, some ⟨fl (enc_TItem true) v1, 9⟩]) rfl rfl ?_
  refine RW.sreg ?_
  refine rl.run 2 rfl ?_
  refine rl.done ?_
  refine RW.ret ?_
  cases h1
  exact RRet.mk rfl (OutL.agg (.cons .int rfl (.cons .int rfl (.cons .int rfl (.cons (OutR.ownq ek_TItem rfl rfl) rfl .nil))))) (by first | decide | simp)
theorem law_laws_toSegS {x0 : List TSeg} {r : List TSeg} (hF : F_laws_toSegS x0 = some r) : PCalls Try.prog 63 [.lst false 4 (fl (enc_TSeg false) x0) x0.length] (.lst true 4 (fl (enc_TSeg true) r) r.length) := by
  refine PCalls.of_r k_laws_toSegS rfl ?_
  unfold F_laws_toSegS at hF
  refine RW.sreg ?_
  refine rl.run 1 rfl ?_
  refine rl.done ?_
  refine RW.sreg ?_
  refine rl.run 2 rfl ?_
  obtain ⟨v1, e1, h1⟩ := bindS hF
  refine rl.op (x_ms_raw rfl rfl e1) ?_
  refine rl.run 1 rfl ?_
  refine rl.done ?_
  refine RW.gh (Gh.own0 (b := 0) rfl (NL.rep (.same (.same (.same (.nils (es := 9) .nil)))) _)) ?_
  refine RW.gh (Gh.blk (b := 0) rfl (raw_ms (enc := enc_TSeg) e1)) ?_
  refine RW.keep [0, 3] (a' := [(0, .lst false 4 (fl (enc_TSeg false) x0) x0.length), (3, .sl 0 0 v1.length)]) (H' := [some ⟨fl (enc_TSeg true) v1, 4⟩]) rfl rfl ?_
  refine RW.seq ?_
  refine RW.sreg ?_
  refine rl.run 1 rfl ?_
  refine rl.done ?_
  obtain ⟨y8, ey8, h3⟩ := bindS h1
  refine RW.cutq (σ := (List TSeg)) (fun y3 => [(3, .sl 0 0 y3.length)]) (fun y3 => [some ⟨fl (enc_TSeg true) y3, 4⟩]) (fun y => y8 = y) (fun _ _ _ _ g h => RW.gh g h) ?_ ?_
  · refine RW.blk ?_
    refine RW.iter (σ := Int × (List TSeg)) ey8 (fun s2 => [(0, .lst false 4 (fl (enc_TSeg false) x0) x0.length), (3, .sl 0 0 s2.2.length), (4, .int .i64 s2.1)]) (fun s2 => [some ⟨fl (enc_TSeg true) s2.2, 4⟩]) (Gh.ren0 [0] (.same rfl (ek_TSeg.fref _ _) .nil) rfl (.cons rfl (.dat (ek_TSeg.rlst)) (.cons rfl (.slq rfl rfl) (.cons rfl (.dat .int) .nil)))) (fun s2 B o hS2 hB2 hE2 => ?_)
    unfold S_laws_toSegS_1 at hS2
    refine RW.seq ?_
    refine RW.sreg ?_
    refine rl.run 3 rfl ?_
    refine rl.gen rfl rfl fun b hb => ?_
    cases b
    · have h4 := iteBF hS2 hb
      refine rl.done ?_
      refine RW.cond_f rfl ?_
      refine RW.exit ?_
      refine blkA_eq ?_
      cases h4
      exact ⟨_, (hE2 _ rfl).symm, (Gh.ren0 [0] (.same rfl (ek_TSeg.fref _ _) .nil) rfl (.cons rfl (.slq rfl rfl) .nil))⟩
    · have h5 := iteBT hS2 hb
      refine rl.done ?_
      refine RW.cond_t rfl ?_
      refine RW.skip ?_
      refine RW.seq ?_
      refine RW.blk ?_
      refine RW.reg ?_
      refine rl.run 4 rfl ?_
      obtain ⟨v4, e4, h6⟩ := bindS h5
      refine rl.op (x_ia_lst (enc := enc_TSeg) (o := false) rfl rfl rfl e4) ?_
      refine rl.op (x_ld_ela (off' := 0) (vs := (enc_TSeg false v4)) ek_TSeg rfl e4 rfl rfl rfl) ?_
      obtain ⟨v5, e5, h7⟩ := bindS h6
      refine rl.call rfl rfl rfl (CallW.own (r' := .agg [.int .i64 v5.No, .int .i64 v5.Gen, .int .i64 v5.End, .sl 1 0 v5.Items.length]) (H' := [some ⟨fl (enc_TSeg true) s2.2, 4⟩, some ⟨fl (enc_TItem true) v5.Items, 9⟩]) ok_laws_toSeg (law_laws_toSeg e5) (.cons (.dat (.agg (ek_TSeg.dat false _))) .nil) (ek_TSeg.own _) rfl ?_)
      obtain ⟨v6, e6, h8⟩ := bindS h7
      refine rl.op (x_ia_sl rfl rfl rfl rfl e6) ?_
      obtain ⟨v7, e7, h9⟩ := bindS h8
      refine rl.op0 (x_st_raw (off' := 0) ek_TSeg e6 rfl rfl rfl rfl rfl rfl rfl rfl) ?_
      refine rl.done ?_
      refine RW.gh (Gh.absorb_rawq (b := 0) (j := 3) (m := 1) rfl rfl rfl (by decide) (by decide) rfl (ek_TItem.flen true _) (ek_TItem.fown _)) ?_
      refine RW.gh (Gh.blk (b := 0) rfl (raw_set ek_TSeg e6 e7 rfl)) ?_
      refine RW.reg ?_
      refine rl.run 3 rfl ?_
      refine rl.done ?_
      cases h9
      exact hB2 _ rfl _ _ (Gh.ren0 [0] (.same rfl (ek_TSeg.fref _ _) .nil) rfl (.cons rfl (.dat (ek_TSeg.rlst)) (.cons rfl (.slq rfl (set'_len e7)) (.cons rfl (.dat .int) .nil))))
  · intro y3 hC
    subst hC
    refine RW.sreg ?_
    refine rl.run 2 rfl ?_
    refine rl.done ?_
    refine RW.ret ?_
    cases h3
    exact RRet.mk rfl (OutR.ownq ek_TSeg rfl rfl) (by first | decide | simp)
theorem law_laws_toLog {x0 : TLog} {r : TLog} (hF : F_laws_toLog x0 = some r) : PCalls Try.prog 14 [.agg (enc_TLog false x0)] (.agg (enc_TLog true r)) := by
  refine PCalls.of_r k_laws_toLog rfl ?_
  unfold F_laws_toLog at hF
  refine RW.sreg ?_
  refine rl.run 2 rfl ?_
  refine rl.done ?_
  refine RW.sreg ?_
  refine rl.run 1 rfl ?_
  refine rl.done ?_
  refine RW.sreg ?_
  refine rl.run 2 rfl ?_
  obtain ⟨v1, e1, h1⟩ := bindS hF
  refine rl.call rfl rfl rfl (CallW.own (r' := .agg [.sl 3 0 v1.Sectors.length, .sl 4 0 v1.Cache.length]) (H' := [some ⟨[.lst false 1 (fl (encS false) x0.Disk.Sectors) x0.Disk.Sectors.length, .lst false 2 (fl (enc_TWrite false) x0.Disk.Cache) x0.Disk.Cache.length, .int .i64 x0.Segs, .lst false 4 (fl (enc_TSeg false) x0.Used) x0.Used.length, .int .i64 x0.NextGen, .int .i64 x0.NextSeq, .int .i64 x0.Stamp, .int .i64 x0.NextValid], 0⟩, some ⟨[.nils, .nils, .int .i64 0, .nils, .int .i64 0, .int .i64 0, .int .i64 0, .int .i64 0], 0⟩, some ⟨[.nils, .nils, .int .i64 0, .nils, .int .i64 0, .int .i64 0, .int .i64 0, .int .i64 0], 0⟩, some ⟨fl (encS true) v1.Sectors, 1⟩, some ⟨fl (enc_TWrite true) v1.Cache, 2⟩]) ok_laws_toDisk (law_laws_toDisk e1) (.cons (DFL.agg (.cons (.lst ekS) (.cons (.lst ek_TWrite) .nil))) .nil) (ek_TDisk.own _) rfl ?_)
  refine rl.run 2 rfl ?_
  refine rl.done ?_
  refine RW.sreg ?_
  refine rl.run 4 rfl ?_
  refine rl.done ?_
  refine RW.sreg ?_
  refine rl.run 2 rfl ?_
  obtain ⟨v2, e2, h2⟩ := bindS h1
  refine rl.call rfl rfl rfl (CallW.own (r' := .sl 5 0 v2.length) (H' := [some ⟨[.lst false 1 (fl (encS false) x0.Disk.Sectors) x0.Disk.Sectors.length, .lst false 2 (fl (enc_TWrite false) x0.Disk.Cache) x0.Disk.Cache.length, .int .i64 x0.Segs, .lst false 4 (fl (enc_TSeg false) x0.Used) x0.Used.length, .int .i64 x0.NextGen, .int .i64 x0.NextSeq, .int .i64 x0.Stamp, .int .i64 x0.NextValid], 0⟩, some ⟨[.nils, .nils, .int .i64 0, .nils, .int .i64 0, .int .i64 0, .int .i64 0, .int .i64 0], 0⟩, some ⟨[.sl 3 0 v1.Sectors.length, .sl 4 0 v1.Cache.length, .int .i64 x0.Segs, .nils, .int .i64 0, .int .i64 0, .int .i64 0, .int .i64 0], 0⟩, some ⟨fl (encS true) v1.Sectors, 1⟩, some ⟨fl (enc_TWrite true) v1.Cache, 2⟩, some ⟨fl (enc_TSeg true) v2, 4⟩]) ok_laws_toSegS (law_laws_toSegS e2) (.cons (.lst ek_TSeg) .nil) (.lst (ek_TSeg.fown _)) rfl ?_)
  refine rl.run 2 rfl ?_
  refine rl.done ?_
  refine RW.keep [1, 2, 3] (a' := [(1, .ptr 0 0), (2, .ptr 1 0), (3, .ptr 2 0)]) (H' := [some ⟨[.lst false 1 (fl (encS false) x0.Disk.Sectors) x0.Disk.Sectors.length, .lst false 2 (fl (enc_TWrite false) x0.Disk.Cache) x0.Disk.Cache.length, .int .i64 x0.Segs, .lst false 4 (fl (enc_TSeg false) x0.Used) x0.Used.length, .int .i64 x0.NextGen, .int .i64 x0.NextSeq, .int .i64 x0.Stamp, .int .i64 x0.NextValid], 0⟩, some ⟨[.nils, .nils, .int .i64 0, .nils, .int .i64 0, .int .i64 0, .int .i64 0, .int .i64 0], 0⟩, some ⟨[.sl 3 0 v1.Sectors.length, .sl 4 0 v1.Cache.length, .int .i64 x0.Segs, .sl 5 0 v2.length, .int .i64 0, .int .i64 0, .int .i64 0, .int .i64 0], 0⟩, some ⟨fl (encS true) v1.Sectors, 1⟩, some ⟨fl (enc_TWrite true) v1.Cache, 2⟩, some ⟨fl (enc_TSeg true) v2, 4⟩]) rfl rfl ?_
  refine RW.sreg ?_
  refine rl.run 4 rfl ?_
  refine rl.done ?_
  refine RW.sreg ?_
  refine rl.run 4 rfl ?_
  refine rl.done ?_
  refine RW.sreg ?_
  refine rl.run 4 rfl ?_
  refine rl.done ?_
  refine RW.sreg ?_
  refine rl.run 4 rfl ?_
  refine rl.done ?_
  refine RW.keep [2, 3] (a' := [(2, .ptr 1 0), (3, .ptr 2 0)]) (H' := [some ⟨[.lst false 1 (fl (encS false) x0.Disk.Sectors) x0.Disk.Sectors.length, .lst false 2 (fl (enc_TWrite false) x0.Disk.Cache) x0.Disk.Cache.length, .int .i64 x0.Segs, .lst false 4 (fl (enc_TSeg false) x0.Used) x0.Used.length, .int .i64 x0.NextGen, .int .i64 x0.NextSeq, .int .i64 x0.Stamp, .int .i64 x0.NextValid], 0⟩, some ⟨[.nils, .nils, .int .i64 0, .nils, .int .i64 0, .int .i64 0, .int .i64 0, .int .i64 0], 0⟩, some ⟨[.sl 3 0 v1.Sectors.length, .sl 4 0 v1.Cache.length, .int .i64 x0.Segs, .sl 5 0 v2.length, .int .i64 x0.NextGen, .int .i64 x0.NextSeq, .int .i64 x0.Stamp, .int .i64 x0.NextValid], 0⟩, some ⟨fl (encS true) v1.Sectors, 1⟩, some ⟨fl (enc_TWrite true) v1.Cache, 2⟩, some ⟨fl (enc_TSeg true) v2, 4⟩]) rfl rfl ?_
  refine RW.sreg ?_
  refine rl.run 2 rfl ?_
  refine rl.done ?_
  refine RW.ret ?_
  cases h2
  exact RRet.mk rfl (OutL.agg (.cons (OutR.ownq ekS rfl rfl) rfl (.cons (OutR.ownq ek_TWrite rfl rfl) rfl (.cons .int rfl (.cons (OutR.ownq ek_TSeg rfl rfl) rfl (.cons .int rfl (.cons .int rfl (.cons .int rfl (.cons .int rfl .nil))))))))) (by first | decide | simp)
theorem law_slices_Equal_Item {x0 : List TItem} {x1 : List TItem} {r : Bool} (hF : F_slices_Equal_Item x0 x1 = some r) : PCalls Try.prog 122 [.lst false 9 (fl (enc_TItem false) x0) x0.length, .lst false 9 (fl (enc_TItem false) x1) x1.length] (.bool r) := by
  refine PCalls.of_r k_slices_Equal_Item rfl ?_
  unfold F_slices_Equal_Item at hF
  refine RW.sreg ?_
  refine rl.run 1 rfl ?_
  refine rl.done ?_
  refine RW.seq ?_
  refine RW.sreg ?_
  refine rl.run 4 rfl ?_
  refine rl.gen rfl rfl fun b hb => ?_
  cases b
  · have h1 := iteBF hF hb
    refine rl.done ?_
    refine RW.cond_f rfl ?_
    refine RW.skip ?_
    refine RW.seq ?_
    refine RW.sreg ?_
    refine rl.run 3 rfl ?_
    refine rl.done ?_
    obtain ⟨y5, ey5, h3⟩ := bindS h1
    refine RW.cutq (σ := Unit) (fun y2 => []) (fun y2 => []) (fun y => y5 = .inr y) (fun _ _ _ _ g h => RW.gh g h) ?_ ?_
    · refine RW.blk ?_
      refine RW.iter (σ := Int) ey5 (fun s1 => [(0, .lst false 9 (fl (enc_TItem false) x0) x0.length), (1, .lst false 9 (fl (enc_TItem false) x1) x1.length), (12, .int .i64 (x0.length : Int)), (13, .int .i64 s1)]) (fun s1 => []) (Gh.ren0 [] .nil rfl (.cons rfl (.dat (ek_TItem.rlst)) (.cons rfl (.dat (ek_TItem.rlst)) (.cons rfl (.dat .int) (.cons rfl (.dat .int) .nil))))) (fun s1 B o hS2 hB2 hE2 => ?_)
      unfold S_slices_Equal_Item_1 at hS2
      refine RW.sreg ?_
      refine rl.gen rfl rfl fun b hb => ?_
      cases b
      · have h4 := iteBF hS2 hb
        refine rl.done ?_
        refine RW.seq ?_
        refine RW.cond_f rfl ?_
        refine RW.exit ?_
        refine blkA_eq ?_
        cases h4
        exact ⟨_, (hE2 _ rfl).symm, (Gh.ren0 [] .nil rfl .nil)⟩
      · have h5 := iteBT hS2 hb
        refine rl.done ?_
        refine RW.seq ?_
        refine RW.cond_t rfl ?_
        refine RW.skip ?_
        refine RW.seq ?_
        refine RW.blk ?_
        refine RW.sreg ?_
        refine rl.run 2 rfl ?_
        refine rl.done ?_
        refine RW.sdrw ?_
        refine rdraw.op rfl rfl ?_
        refine rdraw.op rfl rfl ?_
        obtain ⟨v3, e3, h6⟩ := bindS h5
        refine rdraw.op rfl (x_ia_lst (enc := enc_TItem) (o := false) rfl rfl rfl e3) ?_
        refine rdraw.op rfl (x_ld_ela (off' := 0) (vs := (enc_TItem false v3)) ek_TItem rfl e3 rfl rfl rfl) ?_
        refine rdraw.op rfl rfl ?_
        refine rdraw.op rfl rfl ?_
        obtain ⟨v4, e4, h7⟩ := bindS h6
        refine rdraw.op rfl (x_ia_lst (enc := enc_TItem) (o := false) rfl rfl rfl e4) ?_
        refine rdraw.op rfl (x_ld_ela (off' := 0) (vs := (enc_TItem false v4)) ek_TItem rfl e4 rfl rfl rfl) ?_
        refine rdraw.gen rfl rfl fun b hb => ?_
        cases b
        · have h8 := iteBF h7 hb
          refine rdraw.done ?_
          refine RW.keep [0, 1, 12, 13, 24] (a' := [(0, .lst false 9 (fl (enc_TItem false) x0) x0.length), (1, .lst false 9 (fl (enc_TItem false) x1) x1.length), (12, .int .i64 (x0.length : Int)), (13, .int .i64 s1), (24, .bool false)]) (H' := []) rfl rfl ?_
          refine RW.cond_f rfl ?_
          refine RW.skip ?_
          refine RW.reg ?_
          refine rl.run 2 rfl ?_
          refine rl.done ?_
          cases h8
          exact hB2 _ rfl _ _ (Gh.ren0 [] .nil rfl (.cons rfl (.dat (ek_TItem.rlst)) (.cons rfl (.dat (ek_TItem.rlst)) (.cons rfl (.dat .int) (.cons rfl (.dat .int) .nil)))))
        · have h9 := iteBT h7 hb
          refine rdraw.done ?_
          refine RW.keep [0, 1, 12, 13, 24] (a' := [(0, .lst false 9 (fl (enc_TItem false) x0) x0.length), (1, .lst false 9 (fl (enc_TItem false) x1) x1.length), (12, .int .i64 (x0.length : Int)), (13, .int .i64 s1), (24, .bool true)]) (H' := []) rfl rfl ?_
          refine RW.cond_t rfl ?_
          refine RW.sreg ?_
          refine rl.run 1 rfl ?_
          refine rl.done ?_
          refine RW.ret ?_
          cases h9
          have h10 := elimL h3 (hE2 _ rfl)
          cases h10
          exact RRet.mk rfl .bool (by first | decide | simp)
    · intro y2 hC
      have h3 := elimR h3 hC
      refine RW.sreg ?_
      refine rl.run 1 rfl ?_
      refine rl.done ?_
      refine RW.ret ?_
      cases h3
      exact RRet.mk rfl .bool (by first | decide | simp)
  · have h11 := iteBT hF hb
    refine rl.done ?_
    refine RW.cond_t rfl ?_
    refine RW.sreg ?_
    refine rl.run 1 rfl ?_
    refine rl.done ?_
    refine RW.ret ?_
    cases h11
    exact RRet.mk rfl .bool (by first | decide | simp)
theorem law_impl_sameSeg {x0 : TSeg} {x1 : TSeg} {r : Bool} (hF : F_impl_sameSeg x0 x1 = some r) : PCalls Try.prog 65 [.agg (enc_TSeg false x0), .agg (enc_TSeg false x1)] (.bool r) := by
  refine PCalls.of_r k_impl_sameSeg rfl ?_
  unfold F_impl_sameSeg at hF
  refine RW.sreg ?_
  refine rl.run 3 rfl ?_
  refine rl.done ?_
  refine RW.seq ?_
  obtain ⟨y1, ey1, h1⟩ := bindS hF
  refine RW.cutq (σ := Bool) (fun y1 => [(4, .bool y1)]) (fun y1 => []) (fun y => y1 = y) (fun _ _ _ _ g h => RW.gh g h) ?_ ?_
  · refine RW.reg ?_
    refine rl.run 4 rfl ?_
    refine rl.gen rfl rfl fun b hb => ?_
    cases b
    · have h2 := iteBF ey1 hb
      refine rl.run 22 rfl ?_
      refine rl.done ?_
      cases h2
      exact ⟨_, rfl, (Gh.ren0 [] .nil rfl (.cons rfl (.dat .bool) .nil))⟩
    · have h3 := iteBT ey1 hb
      refine rl.run 5 rfl ?_
      refine rl.gen rfl rfl fun b hb => ?_
      cases b
      · have h4 := iteBF h3 hb
        refine rl.run 16 rfl ?_
        refine rl.done ?_
        cases h4
        exact ⟨_, rfl, (Gh.ren0 [] .nil rfl (.cons rfl (.dat .bool) .nil))⟩
      · have h5 := iteBT h3 hb
        refine rl.run 6 rfl ?_
        refine rl.gen rfl rfl fun b hb => ?_
        cases b
        · have h6 := iteBF h5 hb
          refine rl.run 9 rfl ?_
          refine rl.done ?_
          cases h6
          exact ⟨_, rfl, (Gh.ren0 [] .nil rfl (.cons rfl (.dat .bool) .nil))⟩
        · have h7 := iteBT h5 hb
          refine rl.run 6 rfl ?_
          obtain ⟨v2, e2, h8⟩ := bindS h7
          refine rl.call rfl rfl rfl (CallW.val (r' := .bool v2) ok_slices_Equal_Item (law_slices_Equal_Item e2) (.cons (.lst ek_TItem) (.cons (.lst ek_TItem) .nil)) .refl ?_)
          refine rl.run 2 rfl ?_
          refine rl.done ?_
          cases h8
          exact ⟨_, rfl, (Gh.ren0 [] .nil rfl (.cons rfl (.dat .bool) .nil))⟩
  · intro y hC
    subst hC
    refine RW.ret ?_
    cases h1
    exact RRet.mk rfl .bool (by first | decide | simp)
theorem law_slices_EqualFunc_Seg_sameSeg {x0 : List TSeg} {x1 : List TSeg} {r : Bool} (hF : F_slices_EqualFunc_Seg_sameSeg x0 x1 = some r) : PCalls Try.prog 64 [.lst false 4 (fl (enc_TSeg false) x0) x0.length, .lst false 4 (fl (enc_TSeg false) x1) x1.length, .fn 65 []] (.bool r) := by
  refine PCalls.of_r k_slices_EqualFunc_Seg rfl ?_
  unfold F_slices_EqualFunc_Seg_sameSeg at hF
  refine RW.sreg ?_
  refine rl.run 1 rfl ?_
  refine rl.done ?_
  refine RW.seq ?_
  refine RW.sreg ?_
  refine rl.run 4 rfl ?_
  refine rl.gen rfl rfl fun b hb => ?_
  cases b
  · have h1 := iteBF hF hb
    refine rl.done ?_
    refine RW.cond_f rfl ?_
    refine RW.skip ?_
    refine RW.seq ?_
    refine RW.sreg ?_
    refine rl.run 3 rfl ?_
    refine rl.done ?_
    obtain ⟨y6, ey6, h3⟩ := bindS h1
    refine RW.cutq (σ := Unit) (fun y2 => []) (fun y2 => []) (fun y => y6 = .inr y) (fun _ _ _ _ g h => RW.gh g h) ?_ ?_
    · refine RW.blk ?_
      refine RW.iter (σ := Int) ey6 (fun s1 => [(1, .lst false 4 (fl (enc_TSeg false) x1) x1.length), (2, .fn 65 []), (15, .lst false 4 (fl (enc_TSeg false) x0) x0.length), (16, .int .i64 (x0.length : Int)), (17, .int .i64 s1)]) (fun s1 => []) (Gh.ren0 [] .nil rfl (.cons rfl (.dat (ek_TSeg.rlst)) (.cons rfl (RnL.fn .nil) (.cons rfl (.dat (ek_TSeg.rlst)) (.cons rfl (.dat .int) (.cons rfl (.dat .int) .nil)))))) (fun s1 B o hS2 hB2 hE2 => ?_)
      unfold S_slices_EqualFunc_Seg_sameSeg_1 at hS2
      refine RW.sreg ?_
      refine rl.gen rfl rfl fun b hb => ?_
      cases b
      · have h4 := iteBF hS2 hb
        refine rl.done ?_
        refine RW.seq ?_
        refine RW.cond_f rfl ?_
        refine RW.exit ?_
        refine blkA_eq ?_
        cases h4
        exact ⟨_, (hE2 _ rfl).symm, (Gh.ren0 [] .nil rfl .nil)⟩
      · have h5 := iteBT hS2 hb
        refine rl.done ?_
        refine RW.seq ?_
        refine RW.cond_t rfl ?_
        refine RW.skip ?_
        refine RW.seq ?_
        refine RW.blk ?_
        refine RW.sreg ?_
        refine rl.run 1 rfl ?_
        obtain ⟨v3, e3, h6⟩ := bindS h5
        refine rl.op (x_ia_lst (enc := enc_TSeg) (o := false) rfl rfl rfl e3) ?_
        refine rl.op (x_ld_ela (off' := 0) (vs := (enc_TSeg false v3)) ek_TSeg rfl e3 rfl rfl rfl) ?_
        refine rl.run 3 rfl ?_
        refine rl.done ?_
        refine RW.sreg ?_
        refine rl.run 2 rfl ?_
        obtain ⟨v4, e4, h7⟩ := bindS h6
        refine rl.op (x_ia_lst (enc := enc_TSeg) (o := false) rfl rfl rfl e4) ?_
        refine rl.op (x_ld_ela (off' := 0) (vs := (enc_TSeg false v4)) ek_TSeg rfl e4 rfl rfl rfl) ?_
        refine rl.run 2 rfl ?_
        refine rl.done ?_
        refine RW.sreg ?_
        refine rl.run 3 rfl ?_
        obtain ⟨v5, e5, h8⟩ := bindS h7
        refine rl.call rfl rfl rfl (CallW.val (r' := .bool v5) ok_impl_sameSeg (law_impl_sameSeg e5) (.cons (DFL.agg (.cons .int (.cons .int (.cons .int (.cons (.lst ek_TItem) .nil))))) (.cons (DFL.agg (.cons .int (.cons .int (.cons .int (.cons (.lst ek_TItem) .nil))))) .nil)) .refl ?_)
        cases hb : v5
        · have h9 := iteBF h8 hb
          refine rl.run 1 rfl ?_
          refine rl.done ?_
          refine RW.keep [1, 2, 15, 16, 17, 30] (a' := [(1, .lst false 4 (fl (enc_TSeg false) x1) x1.length), (2, .fn 65 []), (15, .lst false 4 (fl (enc_TSeg false) x0) x0.length), (16, .int .i64 (x0.length : Int)), (17, .int .i64 s1), (30, .bool true)]) (H' := [some ⟨[.int .i64 v3.No, .int .i64 v3.Gen, .int .i64 v3.End, .lst false 9 (fl (enc_TItem false) v3.Items) v3.Items.length], 0⟩, some ⟨[.int .i64 v4.No, .int .i64 v4.Gen, .int .i64 v4.End, .lst false 9 (fl (enc_TItem false) v4.Items) v4.Items.length], 0⟩]) rfl rfl ?_
          refine RW.cond_t rfl ?_
          refine RW.sreg ?_
          refine rl.run 1 rfl ?_
          refine rl.done ?_
          refine RW.ret ?_
          cases h9
          have h10 := elimL h3 (hE2 _ rfl)
          cases h10
          exact RRet.mk rfl .bool (by first | decide | simp)
        · have h11 := iteBT h8 hb
          refine rl.run 1 rfl ?_
          refine rl.done ?_
          refine RW.keep [1, 2, 15, 16, 17, 30] (a' := [(1, .lst false 4 (fl (enc_TSeg false) x1) x1.length), (2, .fn 65 []), (15, .lst false 4 (fl (enc_TSeg false) x0) x0.length), (16, .int .i64 (x0.length : Int)), (17, .int .i64 s1), (30, .bool false)]) (H' := [some ⟨[.int .i64 v3.No, .int .i64 v3.Gen, .int .i64 v3.End, .lst false 9 (fl (enc_TItem false) v3.Items) v3.Items.length], 0⟩, some ⟨[.int .i64 v4.No, .int .i64 v4.Gen, .int .i64 v4.End, .lst false 9 (fl (enc_TItem false) v4.Items) v4.Items.length], 0⟩]) rfl rfl ?_
          refine RW.cond_f rfl ?_
          refine RW.skip ?_
          refine RW.reg ?_
          refine rl.run 2 rfl ?_
          refine rl.done ?_
          cases h11
          exact hB2 _ rfl _ _ (Gh.ren0 [] .nil rfl (.cons rfl (.dat (ek_TSeg.rlst)) (.cons rfl (RnL.fn .nil) (.cons rfl (.dat (ek_TSeg.rlst)) (.cons rfl (.dat .int) (.cons rfl (.dat .int) .nil))))))
    · intro y2 hC
      have h3 := elimR h3 hC
      refine RW.sreg ?_
      refine rl.run 1 rfl ?_
      refine rl.done ?_
      refine RW.ret ?_
      cases h3
      exact RRet.mk rfl .bool (by first | decide | simp)
  · have h12 := iteBT hF hb
    refine rl.done ?_
    refine RW.cond_t rfl ?_
    refine RW.sreg ?_
    refine rl.run 1 rfl ?_
    refine rl.done ?_
    refine RW.ret ?_
    cases h12
    exact RRet.mk rfl .bool (by first | decide | simp)
theorem law_impl_SameLog {x0 : TLog} {x1 : TLog} {r : Bool} (hF : F_impl_SameLog x0 x1 = some r) : PCalls Try.prog 15 [.agg (enc_TLog false x0), .agg (enc_TLog false x1)] (.bool r) := by
  refine PCalls.of_r k_impl_SameLog rfl ?_
  unfold F_impl_SameLog at hF
  refine RW.sreg ?_
  refine rl.run 3 rfl ?_
  refine rl.done ?_
  refine RW.seq ?_
  obtain ⟨y1, ey1, h1⟩ := bindS hF
  refine RW.cutq (σ := Bool) (fun y1 => [(4, .bool y1)]) (fun y1 => []) (fun y => y1 = y) (fun _ _ _ _ g h => RW.gh g h) ?_ ?_
  · refine RW.reg ?_
    refine rl.run 4 rfl ?_
    obtain ⟨v2, e2, h2⟩ := bindS ey1
    refine rl.call rfl rfl rfl (CallW.val (r' := .bool v2) ok_slices_EqualFunc_Seg (law_slices_EqualFunc_Seg_sameSeg e2) (.cons (.lst ek_TSeg) (.cons (.lst ek_TSeg) (.cons .fn .nil))) .refl ?_)
    cases hb : v2
    · have h3 := iteBF h2 hb
      refine rl.run 22 rfl ?_
      refine rl.done ?_
      cases h3
      exact ⟨_, rfl, (Gh.ren0 [] .nil rfl (.cons rfl (.dat .bool) .nil))⟩
    · have h4 := iteBT h2 hb
      refine rl.run 5 rfl ?_
      refine rl.gen rfl rfl fun b hb => ?_
      cases b
      · have h5 := iteBF h4 hb
        refine rl.run 16 rfl ?_
        refine rl.done ?_
        cases h5
        exact ⟨_, rfl, (Gh.ren0 [] .nil rfl (.cons rfl (.dat .bool) .nil))⟩
      · have h6 := iteBT h4 hb
        refine rl.run 6 rfl ?_
        refine rl.gen rfl rfl fun b hb => ?_
        cases b
        · have h7 := iteBF h6 hb
          refine rl.run 9 rfl ?_
          refine rl.done ?_
          cases h7
          exact ⟨_, rfl, (Gh.ren0 [] .nil rfl (.cons rfl (.dat .bool) .nil))⟩
        · have h8 := iteBT h6 hb
          refine rl.run 9 rfl ?_
          refine rl.done ?_
          cases h8
          exact ⟨_, rfl, (Gh.ren0 [] .nil rfl (.cons rfl (.dat .bool) .nil))⟩
  · intro y hC
    subst hC
    refine RW.ret ?_
    cases h1
    exact RRet.mk rfl .bool (by first | decide | simp)
theorem law_laws_eqStringS {x0 : List (List UInt8)} {x1 : List (List UInt8)} {r : Bool} (hF : F_laws_eqStringS x0 x1 = some r) : PCalls Try.prog 89 [.lst false 1 (fl (encS false) x0) x0.length, .lst false 1 (fl (encS false) x1) x1.length] (.bool r) := by
  refine PCalls.of_r k_laws_eqStringS rfl ?_
  unfold F_laws_eqStringS at hF
  refine RW.sreg ?_
  refine rl.run 1 rfl ?_
  refine rl.done ?_
  refine RW.seq ?_
  refine RW.sreg ?_
  refine rl.run 4 rfl ?_
  refine rl.gen rfl rfl fun b hb => ?_
  cases b
  · have h1 := iteBF hF hb
    refine rl.done ?_
    refine RW.cond_f rfl ?_
    refine RW.skip ?_
    refine RW.seq ?_
    refine RW.sreg ?_
    refine rl.run 1 rfl ?_
    refine rl.done ?_
    obtain ⟨y5, ey5, h3⟩ := bindS h1
    refine RW.cutq (σ := Unit) (fun y2 => []) (fun y2 => []) (fun y => y5 = .inr y) (fun _ _ _ _ g h => RW.gh g h) ?_ ?_
    · refine RW.blk ?_
      refine RW.iter (σ := Int) ey5 (fun s1 => [(0, .lst false 1 (fl (encS false) x0) x0.length), (1, .lst false 1 (fl (encS false) x1) x1.length), (5, .int .i64 s1)]) (fun s1 => []) (Gh.ren0 [] .nil rfl (.cons rfl (.dat (ekS.rlst)) (.cons rfl (.dat (ekS.rlst)) (.cons rfl (.dat .int) .nil)))) (fun s1 B o hS2 hB2 hE2 => ?_)
      unfold S_laws_eqStringS_1 at hS2
      refine RW.seq ?_
      refine RW.sreg ?_
      refine rl.run 3 rfl ?_
      refine rl.gen rfl rfl fun b hb => ?_
      cases b
      · have h4 := iteBF hS2 hb
        refine rl.done ?_
        refine RW.cond_f rfl ?_
        refine RW.exit ?_
        refine blkA_eq ?_
        cases h4
        exact ⟨_, (hE2 _ rfl).symm, (Gh.ren0 [] .nil rfl .nil)⟩
      · have h5 := iteBT hS2 hb
        refine rl.done ?_
        refine RW.cond_t rfl ?_
        refine RW.skip ?_
        refine RW.seq ?_
        refine RW.blk ?_
        refine RW.sdrw ?_
        refine rdraw.op rfl rfl ?_
        refine rdraw.op rfl rfl ?_
        obtain ⟨v3, e3, h6⟩ := bindS h5
        refine rdraw.op rfl (x_ia_lst (enc := encS) (o := false) rfl rfl rfl e3) ?_
        refine rdraw.op rfl (x_ld_el (off' := 0) ekS rfl e3 rfl rfl rfl) ?_
        refine rdraw.op rfl rfl ?_
        refine rdraw.op rfl rfl ?_
        obtain ⟨v4, e4, h7⟩ := bindS h6
        refine rdraw.op rfl (x_ia_lst (enc := encS) (o := false) rfl rfl rfl e4) ?_
        refine rdraw.op rfl (x_ld_el (off' := 0) ekS rfl e4 rfl rfl rfl) ?_
        refine rdraw.gen rfl rfl fun b hb => ?_
        cases b
        · have h8 := iteBF h7 hb
          refine rdraw.done ?_
          refine RW.keep [0, 1, 5, 25] (a' := [(0, .lst false 1 (fl (encS false) x0) x0.length), (1, .lst false 1 (fl (encS false) x1) x1.length), (5, .int .i64 s1), (25, .bool false)]) (H' := []) rfl rfl ?_
          refine RW.cond_f rfl ?_
          refine RW.skip ?_
          refine RW.reg ?_
          refine rl.run 3 rfl ?_
          refine rl.done ?_
          cases h8
          exact hB2 _ rfl _ _ (Gh.ren0 [] .nil rfl (.cons rfl (.dat (ekS.rlst)) (.cons rfl (.dat (ekS.rlst)) (.cons rfl (.dat .int) .nil))))
        · have h9 := iteBT h7 hb
          refine rdraw.done ?_
          refine RW.keep [0, 1, 5, 25] (a' := [(0, .lst false 1 (fl (encS false) x0) x0.length), (1, .lst false 1 (fl (encS false) x1) x1.length), (5, .int .i64 s1), (25, .bool true)]) (H' := []) rfl rfl ?_
          refine RW.cond_t rfl ?_
          refine RW.sreg ?_
          refine rl.run 1 rfl ?_
          refine rl.done ?_
          refine RW.ret ?_
          cases h9
          have h10 := elimL h3 (hE2 _ rfl)
          cases h10
          exact RRet.mk rfl .bool (by first | decide | simp)
    · intro y2 hC
      have h3 := elimR h3 hC
      refine RW.sreg ?_
      refine rl.run 1 rfl ?_
      refine rl.done ?_
      refine RW.ret ?_
      cases h3
      exact RRet.mk rfl .bool (by first | decide | simp)
  · have h11 := iteBT hF hb
    refine rl.done ?_
    refine RW.cond_t rfl ?_
    refine RW.sreg ?_
    refine rl.run 1 rfl ?_
    refine rl.done ?_
    refine RW.ret ?_
    cases h11
    exact RRet.mk rfl .bool (by first | decide | simp)
theorem law_laws_eqWrite {x0 : TWrite} {x1 : TWrite} {r : Bool} (hF : F_laws_eqWrite x0 x1 = some r) : PCalls Try.prog 156 [.agg (enc_TWrite false x0), .agg (enc_TWrite false x1)] (.bool r) := by
  refine PCalls.of_r k_laws_eqWrite rfl ?_
  unfold F_laws_eqWrite at hF
  refine RW.sreg ?_
  refine rl.run 3 rfl ?_
  refine rl.done ?_
  refine RW.seq ?_
  refine RW.sreg ?_
  refine rl.run 4 rfl ?_
  refine rl.gen rfl rfl fun b hb => ?_
  cases b
  · have h1 := iteBF hF hb
    refine rl.done ?_
    refine RW.cond_f rfl ?_
    refine RW.skip ?_
    refine RW.seq ?_
    refine RW.sreg ?_
    refine rl.run 4 rfl ?_
    refine rl.gen rfl rfl fun b hb => ?_
    cases b
    · have h2 := iteBF h1 hb
      refine rl.done ?_
      refine RW.keep [14] (a' := [(14, .bool false)]) (H' := [some ⟨[.int .i64 x0.At, .str x0.Text], 0⟩, some ⟨[.int .i64 x1.At, .str x1.Text], 0⟩]) rfl rfl ?_
      refine RW.cond_f rfl ?_
      refine RW.skip ?_
      refine RW.sreg ?_
      refine rl.run 1 rfl ?_
      refine rl.done ?_
      refine RW.ret ?_
      cases h2
      exact RRet.mk rfl .bool (by first | decide | simp)
    · have h3 := iteBT h1 hb
      refine rl.done ?_
      refine RW.keep [14] (a' := [(14, .bool true)]) (H' := [some ⟨[.int .i64 x0.At, .str x0.Text], 0⟩, some ⟨[.int .i64 x1.At, .str x1.Text], 0⟩]) rfl rfl ?_
      refine RW.cond_t rfl ?_
      refine RW.sreg ?_
      refine rl.run 1 rfl ?_
      refine rl.done ?_
      refine RW.ret ?_
      cases h3
      exact RRet.mk rfl .bool (by first | decide | simp)
  · have h4 := iteBT hF hb
    refine rl.done ?_
    refine RW.cond_t rfl ?_
    refine RW.sreg ?_
    refine rl.run 1 rfl ?_
    refine rl.done ?_
    refine RW.ret ?_
    cases h4
    exact RRet.mk rfl .bool (by first | decide | simp)
theorem law_laws_eqWriteS {x0 : List TWrite} {x1 : List TWrite} {r : Bool} (hF : F_laws_eqWriteS x0 x1 = some r) : PCalls Try.prog 90 [.lst false 2 (fl (enc_TWrite false) x0) x0.length, .lst false 2 (fl (enc_TWrite false) x1) x1.length] (.bool r) := by
  refine PCalls.of_r k_laws_eqWriteS rfl ?_
  unfold F_laws_eqWriteS at hF
  refine RW.sreg ?_
  refine rl.run 1 rfl ?_
  refine rl.done ?_
  refine RW.seq ?_
  refine RW.sreg ?_
  refine rl.run 4 rfl ?_
  refine rl.gen rfl rfl fun b hb => ?_
  cases b
  · have h1 := iteBF hF hb
    refine rl.done ?_
    refine RW.cond_f rfl ?_
    refine RW.skip ?_
    refine RW.seq ?_
    refine RW.sreg ?_
    refine rl.run 1 rfl ?_
    refine rl.done ?_
    obtain ⟨y6, ey6, h3⟩ := bindS h1
    refine RW.cutq (σ := Unit) (fun y2 => []) (fun y2 => []) (fun y => y6 = .inr y) (fun _ _ _ _ g h => RW.gh g h) ?_ ?_
    · refine RW.blk ?_
      refine RW.iter (σ := Int) ey6 (fun s1 => [(0, .lst false 2 (fl (enc_TWrite false) x0) x0.length), (1, .lst false 2 (fl (enc_TWrite false) x1) x1.length), (5, .int .i64 s1)]) (fun s1 => []) (Gh.ren0 [] .nil rfl (.cons rfl (.dat (ek_TWrite.rlst)) (.cons rfl (.dat (ek_TWrite.rlst)) (.cons rfl (.dat .int) .nil)))) (fun s1 B o hS2 hB2 hE2 => ?_)
      unfold S_laws_eqWriteS_1 at hS2
      refine RW.seq ?_
      refine RW.sreg ?_
      refine rl.run 3 rfl ?_
      refine rl.gen rfl rfl fun b hb => ?_
      cases b
      · have h4 := iteBF hS2 hb
        refine rl.done ?_
        refine RW.cond_f rfl ?_
        refine RW.exit ?_
        refine blkA_eq ?_
        cases h4
        exact ⟨_, (hE2 _ rfl).symm, (Gh.ren0 [] .nil rfl .nil)⟩
      · have h5 := iteBT hS2 hb
        refine rl.done ?_
        refine RW.cond_t rfl ?_
        refine RW.skip ?_
        refine RW.seq ?_
        refine RW.blk ?_
        refine RW.sdrw ?_
        refine rdraw.op rfl rfl ?_
        refine rdraw.op rfl rfl ?_
        obtain ⟨v3, e3, h6⟩ := bindS h5
        refine rdraw.op rfl (x_ia_lst (enc := enc_TWrite) (o := false) rfl rfl rfl e3) ?_
        refine rdraw.op rfl (x_ld_ela (off' := 0) (vs := (enc_TWrite false v3)) ek_TWrite rfl e3 rfl rfl rfl) ?_
        refine rdraw.op rfl rfl ?_
        refine rdraw.op rfl rfl ?_
        obtain ⟨v4, e4, h7⟩ := bindS h6
        refine rdraw.op rfl (x_ia_lst (enc := enc_TWrite) (o := false) rfl rfl rfl e4) ?_
        refine rdraw.op rfl (x_ld_ela (off' := 0) (vs := (enc_TWrite false v4)) ek_TWrite rfl e4 rfl rfl rfl) ?_
        obtain ⟨v5, e5, h8⟩ := bindS h7
        refine rdraw.call rfl rfl rfl (CallW.val (r' := .bool v5) ok_laws_eqWrite (law_laws_eqWrite e5) (.cons (.dat (.agg (ek_TWrite.dat false _))) (.cons (.dat (.agg (ek_TWrite.dat false _))) .nil)) .refl ⟨rfl, ?_⟩)
        cases hb : v5
        · have h9 := iteBF h8 hb
          refine rdraw.op rfl rfl ?_
          refine rdraw.done ?_
          refine RW.keep [0, 1, 5, 26] (a' := [(0, .lst false 2 (fl (enc_TWrite false) x0) x0.length), (1, .lst false 2 (fl (enc_TWrite false) x1) x1.length), (5, .int .i64 s1), (26, .bool true)]) (H' := []) rfl rfl ?_
          refine RW.cond_t rfl ?_
          refine RW.sreg ?_
          refine rl.run 1 rfl ?_
          refine rl.done ?_
          refine RW.ret ?_
          cases h9
          have h10 := elimL h3 (hE2 _ rfl)
          cases h10
          exact RRet.mk rfl .bool (by first | decide | simp)
        · have h11 := iteBT h8 hb
          refine rdraw.op rfl rfl ?_
          refine rdraw.done ?_
          refine RW.keep [0, 1, 5, 26] (a' := [(0, .lst false 2 (fl (enc_TWrite false) x0) x0.length), (1, .lst false 2 (fl (enc_TWrite false) x1) x1.length), (5, .int .i64 s1), (26, .bool false)]) (H' := []) rfl rfl ?_
          refine RW.cond_f rfl ?_
          refine RW.skip ?_
          refine RW.reg ?_
          refine rl.run 3 rfl ?_
          refine rl.done ?_
          cases h11
          exact hB2 _ rfl _ _ (Gh.ren0 [] .nil rfl (.cons rfl (.dat (ek_TWrite.rlst)) (.cons rfl (.dat (ek_TWrite.rlst)) (.cons rfl (.dat .int) .nil))))
    · intro y2 hC
      have h3 := elimR h3 hC
      refine RW.sreg ?_
      refine rl.run 1 rfl ?_
      refine rl.done ?_
      refine RW.ret ?_
      cases h3
      exact RRet.mk rfl .bool (by first | decide | simp)
  · have h12 := iteBT hF hb
    refine rl.done ?_
    refine RW.cond_t rfl ?_
    refine RW.sreg ?_
    refine rl.run 1 rfl ?_
    refine rl.done ?_
    refine RW.ret ?_
    cases h12
    exact RRet.mk rfl .bool (by first | decide | simp)
theorem law_laws_eqDisk {x0 : TDisk} {x1 : TDisk} {r : Bool} (hF : F_laws_eqDisk x0 x1 = some r) : PCalls Try.prog 44 [.agg (enc_TDisk false x0), .agg (enc_TDisk false x1)] (.bool r) := by
  refine PCalls.of_r k_laws_eqDisk rfl ?_
  unfold F_laws_eqDisk at hF
  refine RW.sreg ?_
  refine rl.run 3 rfl ?_
  refine rl.done ?_
  refine RW.seq ?_
  refine RW.sreg ?_
  refine rl.run 4 rfl ?_
  obtain ⟨v1, e1, h1⟩ := bindS hF
  refine rl.call rfl rfl rfl (CallW.val (r' := .bool v1) ok_laws_eqStringS (law_laws_eqStringS e1) (.cons (.lst ekS) (.cons (.lst ekS) .nil)) .refl ?_)
  cases hb : v1
  · have h2 := iteBF h1 hb
    refine rl.run 1 rfl ?_
    refine rl.done ?_
    refine RW.cond_t rfl ?_
    refine RW.sreg ?_
    refine rl.run 1 rfl ?_
    refine rl.done ?_
    refine RW.ret ?_
    cases h2
    exact RRet.mk rfl .bool (by first | decide | simp)
  · have h3 := iteBT h1 hb
    refine rl.run 1 rfl ?_
    refine rl.done ?_
    refine RW.cond_f rfl ?_
    refine RW.skip ?_
    refine RW.seq ?_
    refine RW.sreg ?_
    refine rl.run 4 rfl ?_
    obtain ⟨v2, e2, h4⟩ := bindS h3
    refine rl.call rfl rfl rfl (CallW.val (r' := .bool v2) ok_laws_eqWriteS (law_laws_eqWriteS e2) (.cons (.lst ek_TWrite) (.cons (.lst ek_TWrite) .nil)) .refl ?_)
    cases hb : v2
    · have h5 := iteBF h4 hb
      refine rl.run 1 rfl ?_
      refine rl.done ?_
      refine RW.keep [16] (a' := [(16, .bool true)]) (H' := [some ⟨[.lst false 1 (fl (encS false) x0.Sectors) x0.Sectors.length, .lst false 2 (fl (enc_TWrite false) x0.Cache) x0.Cache.length], 0⟩, some ⟨[.lst false 1 (fl (encS false) x1.Sectors) x1.Sectors.length, .lst false 2 (fl (enc_TWrite false) x1.Cache) x1.Cache.length], 0⟩]) rfl rfl ?_
      refine RW.cond_t rfl ?_
      refine RW.sreg ?_
      refine rl.run 1 rfl ?_
      refine rl.done ?_
      refine RW.ret ?_
      cases h5
      exact RRet.mk rfl .bool (by first | decide | simp)
    · have h6 := iteBT h4 hb
      refine rl.run 1 rfl ?_
      refine rl.done ?_
      refine RW.keep [16] (a' := [(16, .bool false)]) (H' := [some ⟨[.lst false 1 (fl (encS false) x0.Sectors) x0.Sectors.length, .lst false 2 (fl (enc_TWrite false) x0.Cache) x0.Cache.length], 0⟩, some ⟨[.lst false 1 (fl (encS false) x1.Sectors) x1.Sectors.length, .lst false 2 (fl (enc_TWrite false) x1.Cache) x1.Cache.length], 0⟩]) rfl rfl ?_
      refine RW.cond_f rfl ?_
      refine RW.skip ?_
      refine RW.sreg ?_
      refine rl.run 1 rfl ?_
      refine rl.done ?_
      refine RW.ret ?_
      cases h6
      exact RRet.mk rfl .bool (by first | decide | simp)
theorem law_laws_eqRec {x0 : TRec} {x1 : TRec} {r : Bool} (hF : F_laws_eqRec x0 x1 = some r) : PCalls Try.prog 143 [.agg (enc_TRec false x0), .agg (enc_TRec false x1)] (.bool r) := by
  refine PCalls.of_r k_laws_eqRec rfl ?_
  unfold F_laws_eqRec at hF
  refine RW.sreg ?_
  refine rl.run 3 rfl ?_
  refine rl.done ?_
  refine RW.seq ?_
  refine RW.sreg ?_
  refine rl.run 4 rfl ?_
  refine rl.gen rfl rfl fun b hb => ?_
  cases b
  · have h1 := iteBF hF hb
    refine rl.done ?_
    refine RW.cond_f rfl ?_
    refine RW.skip ?_
    refine RW.seq ?_
    refine RW.sreg ?_
    refine rl.run 4 rfl ?_
    refine rl.gen rfl rfl fun b hb => ?_
    cases b
    · have h2 := iteBF h1 hb
      refine rl.done ?_
      refine RW.keep [2, 3, 14] (a' := [(2, .ptr 0 0), (3, .ptr 1 0), (14, .bool false)]) (H' := [some ⟨[.int .i64 x0.Kind, .int .i64 x0.Valid, .int .i64 x0.Uid, .int .i64 x0.Next, .int .i64 x0.Flags, .str x0.User, .str x0.Name, .str x0.Text], 0⟩, some ⟨[.int .i64 x1.Kind, .int .i64 x1.Valid, .int .i64 x1.Uid, .int .i64 x1.Next, .int .i64 x1.Flags, .str x1.User, .str x1.Name, .str x1.Text], 0⟩]) rfl rfl ?_
      refine RW.cond_f rfl ?_
      refine RW.skip ?_
      refine RW.seq ?_
      refine RW.sreg ?_
      refine rl.run 4 rfl ?_
      refine rl.gen rfl rfl fun b hb => ?_
      cases b
      · have h3 := iteBF h2 hb
        refine rl.done ?_
        refine RW.cond_f rfl ?_
        refine RW.skip ?_
        refine RW.seq ?_
        refine RW.sreg ?_
        refine rl.run 4 rfl ?_
        refine rl.gen rfl rfl fun b hb => ?_
        cases b
        · have h4 := iteBF h3 hb
          refine rl.done ?_
          refine RW.cond_f rfl ?_
          refine RW.skip ?_
          refine RW.seq ?_
          refine RW.sreg ?_
          refine rl.run 4 rfl ?_
          refine rl.gen rfl rfl fun b hb => ?_
          cases b
          · have h5 := iteBF h4 hb
            refine rl.done ?_
            refine RW.keep [2, 3, 29] (a' := [(2, .ptr 0 0), (3, .ptr 1 0), (29, .bool false)]) (H' := [some ⟨[.int .i64 x0.Kind, .int .i64 x0.Valid, .int .i64 x0.Uid, .int .i64 x0.Next, .int .i64 x0.Flags, .str x0.User, .str x0.Name, .str x0.Text], 0⟩, some ⟨[.int .i64 x1.Kind, .int .i64 x1.Valid, .int .i64 x1.Uid, .int .i64 x1.Next, .int .i64 x1.Flags, .str x1.User, .str x1.Name, .str x1.Text], 0⟩]) rfl rfl ?_
            refine RW.cond_f rfl ?_
            refine RW.skip ?_
            refine RW.seq ?_
            refine RW.sreg ?_
            refine rl.run 4 rfl ?_
            refine rl.gen rfl rfl fun b hb => ?_
            cases b
            · have h6 := iteBF h5 hb
              refine rl.done ?_
              refine RW.cond_f rfl ?_
              refine RW.skip ?_
              refine RW.seq ?_
              refine RW.sreg ?_
              refine rl.run 4 rfl ?_
              refine rl.gen rfl rfl fun b hb => ?_
              cases b
              · have h7 := iteBF h6 hb
                refine rl.done ?_
                refine RW.cond_f rfl ?_
                refine RW.skip ?_
                refine RW.seq ?_
                refine RW.sreg ?_
                refine rl.run 4 rfl ?_
                refine rl.gen rfl rfl fun b hb => ?_
                cases b
                · have h8 := iteBF h7 hb
                  refine rl.done ?_
                  refine RW.keep [44] (a' := [(44, .bool false)]) (H' := [some ⟨[.int .i64 x0.Kind, .int .i64 x0.Valid, .int .i64 x0.Uid, .int .i64 x0.Next, .int .i64 x0.Flags, .str x0.User, .str x0.Name, .str x0.Text], 0⟩, some ⟨[.int .i64 x1.Kind, .int .i64 x1.Valid, .int .i64 x1.Uid, .int .i64 x1.Next, .int .i64 x1.Flags, .str x1.User, .str x1.Name, .str x1.Text], 0⟩]) rfl rfl ?_
                  refine RW.cond_f rfl ?_
                  refine RW.skip ?_
                  refine RW.sreg ?_
                  refine rl.run 1 rfl ?_
                  refine rl.done ?_
                  refine RW.ret ?_
                  cases h8
                  exact RRet.mk rfl .bool (by first | decide | simp)
                · have h9 := iteBT h7 hb
                  refine rl.done ?_
                  refine RW.keep [44] (a' := [(44, .bool true)]) (H' := [some ⟨[.int .i64 x0.Kind, .int .i64 x0.Valid, .int .i64 x0.Uid, .int .i64 x0.Next, .int .i64 x0.Flags, .str x0.User, .str x0.Name, .str x0.Text], 0⟩, some ⟨[.int .i64 x1.Kind, .int .i64 x1.Valid, .int .i64 x1.Uid, .int .i64 x1.Next, .int .i64 x1.Flags, .str x1.User, .str x1.Name, .str x1.Text], 0⟩]) rfl rfl ?_
                  refine RW.cond_t rfl ?_
                  refine RW.sreg ?_
                  refine rl.run 1 rfl ?_
                  refine rl.done ?_
                  refine RW.ret ?_
                  cases h9
                  exact RRet.mk rfl .bool (by first | decide | simp)
              · have h10 := iteBT h6 hb
                refine rl.done ?_
                refine RW.cond_t rfl ?_
                refine RW.sreg ?_
                refine rl.run 1 rfl ?_
                refine rl.done ?_
                refine RW.keep [4] (a' := [(4, .bool false)]) (H' := [some ⟨[.int .i64 x0.Kind, .int .i64 x0.Valid, .int .i64 x0.Uid, .int .i64 x0.Next, .int .i64 x0.Flags, .str x0.User, .str x0.Name, .str x0.Text], 0⟩, some ⟨[.int .i64 x1.Kind, .int .i64 x1.Valid, .int .i64 x1.Uid, .int .i64 x1.Next, .int .i64 x1.Flags, .str x1.User, .str x1.Name, .str x1.Text], 0⟩]) rfl rfl ?_
                refine RW.ret ?_
                cases h10
                exact RRet.mk rfl .bool (by first | decide | simp)
            · have h11 := iteBT h5 hb
              refine rl.done ?_
              refine RW.cond_t rfl ?_
              refine RW.sreg ?_
              refine rl.run 1 rfl ?_
              refine rl.done ?_
              refine RW.ret ?_
              cases h11
              exact RRet.mk rfl .bool (by first | decide | simp)
          · have h12 := iteBT h4 hb
            refine rl.done ?_
            refine RW.keep [2, 3, 29] (a' := [(2, .ptr 0 0), (3, .ptr 1 0), (29, .bool true)]) (H' := [some ⟨[.int .i64 x0.Kind, .int .i64 x0.Valid, .int .i64 x0.Uid, .int .i64 x0.Next, .int .i64 x0.Flags, .str x0.User, .str x0.Name, .str x0.Text], 0⟩, some ⟨[.int .i64 x1.Kind, .int .i64 x1.Valid, .int .i64 x1.Uid, .int .i64 x1.Next, .int .i64 x1.Flags, .str x1.User, .str x1.Name, .str x1.Text], 0⟩]) rfl rfl ?_
            refine RW.cond_t rfl ?_
            refine RW.sreg ?_
            refine rl.run 1 rfl ?_
            refine rl.done ?_
            refine RW.ret ?_
            cases h12
            exact RRet.mk rfl .bool (by first | decide | simp)
        · have h13 := iteBT h3 hb
          refine rl.done ?_
          refine RW.cond_t rfl ?_
          refine RW.sreg ?_
          refine rl.run 1 rfl ?_
          refine rl.done ?_
          refine RW.keep [4] (a' := [(4, .bool false)]) (H' := [some ⟨[.int .i64 x0.Kind, .int .i64 x0.Valid, .int .i64 x0.Uid, .int .i64 x0.Next, .int .i64 x0.Flags, .str x0.User, .str x0.Name, .str x0.Text], 0⟩, some ⟨[.int .i64 x1.Kind, .int .i64 x1.Valid, .int .i64 x1.Uid, .int .i64 x1.Next, .int .i64 x1.Flags, .str x1.User, .str x1.Name, .str x1.Text], 0⟩]) rfl rfl ?_
          refine RW.ret ?_
          cases h13
          exact RRet.mk rfl .bool (by first | decide | simp)
      · have h14 := iteBT h2 hb
        refine rl.done ?_
        refine RW.cond_t rfl ?_
        refine RW.sreg ?_
        refine rl.run 1 rfl ?_
        refine rl.done ?_
        refine RW.ret ?_
        cases h14
        exact RRet.mk rfl .bool (by first | decide | simp)
    · have h15 := iteBT h1 hb
      refine rl.done ?_
      refine RW.keep [2, 3, 14] (a' := [(2, .ptr 0 0), (3, .ptr 1 0), (14, .bool true)]) (H' := [some ⟨[.int .i64 x0.Kind, .int .i64 x0.Valid, .int .i64 x0.Uid, .int .i64 x0.Next, .int .i64 x0.Flags, .str x0.User, .str x0.Name, .str x0.Text], 0⟩, some ⟨[.int .i64 x1.Kind, .int .i64 x1.Valid, .int .i64 x1.Uid, .int .i64 x1.Next, .int .i64 x1.Flags, .str x1.User, .str x1.Name, .str x1.Text], 0⟩]) rfl rfl ?_
      refine RW.cond_t rfl ?_
      refine RW.sreg ?_
      refine rl.run 1 rfl ?_
      refine rl.done ?_
      refine RW.ret ?_
      cases h15
      exact RRet.mk rfl .bool (by first | decide | simp)
  · have h16 := iteBT hF hb
    refine rl.done ?_
    refine RW.cond_t rfl ?_
    refine RW.sreg ?_
    refine rl.run 1 rfl ?_
    refine rl.done ?_
    refine RW.ret ?_
    cases h16
    exact RRet.mk rfl .bool (by first | decide | simp)
theorem law_laws_eqItem {x0 : TItem} {x1 : TItem} {r : Bool} (hF : F_laws_eqItem x0 x1 = some r) : PCalls Try.prog 73 [.agg (enc_TItem false x0), .agg (enc_TItem false x1)] (.bool r) := by
  refine PCalls.of_r k_laws_eqItem rfl ?_
  unfold F_laws_eqItem at hF
  refine RW.sreg ?_
  refine rl.run 3 rfl ?_
  refine rl.done ?_
  refine RW.seq ?_
  refine RW.sreg ?_
  refine rl.run 4 rfl ?_
  refine rl.gen rfl rfl fun b hb => ?_
  cases b
  · have h1 := iteBF hF hb
    refine rl.done ?_
    refine RW.cond_f rfl ?_
    refine RW.skip ?_
    refine RW.seq ?_
    refine RW.sreg ?_
    refine rl.run 4 rfl ?_
    obtain ⟨v1, e1, h2⟩ := bindS h1
    refine rl.call rfl rfl rfl (CallW.val (r' := .bool v1) ok_laws_eqRec (law_laws_eqRec e1) (.cons (DFL.agg (.cons .int (.cons .int (.cons .int (.cons .int (.cons .int (.cons .str (.cons .str (.cons .str .nil))))))))) (.cons (DFL.agg (.cons .int (.cons .int (.cons .int (.cons .int (.cons .int (.cons .str (.cons .str (.cons .str .nil))))))))) .nil)) .refl ?_)
    cases hb : v1
    · have h3 := iteBF h2 hb
      refine rl.run 1 rfl ?_
      refine rl.done ?_
      refine RW.keep [15] (a' := [(15, .bool true)]) (H' := [some ⟨[.int .i64 x0.Seq, .int .i64 x0.Rec.Kind, .int .i64 x0.Rec.Valid, .int .i64 x0.Rec.Uid, .int .i64 x0.Rec.Next, .int .i64 x0.Rec.Flags, .str x0.Rec.User, .str x0.Rec.Name, .str x0.Rec.Text], 0⟩, some ⟨[.int .i64 x1.Seq, .int .i64 x1.Rec.Kind, .int .i64 x1.Rec.Valid, .int .i64 x1.Rec.Uid, .int .i64 x1.Rec.Next, .int .i64 x1.Rec.Flags, .str x1.Rec.User, .str x1.Rec.Name, .str x1.Rec.Text], 0⟩]) rfl rfl ?_
      refine RW.cond_t rfl ?_
      refine RW.sreg ?_
      refine rl.run 1 rfl ?_
      refine rl.done ?_
      refine RW.ret ?_
      cases h3
      exact RRet.mk rfl .bool (by first | decide | simp)
    · have h4 := iteBT h2 hb
      refine rl.run 1 rfl ?_
      refine rl.done ?_
      refine RW.keep [15] (a' := [(15, .bool false)]) (H' := [some ⟨[.int .i64 x0.Seq, .int .i64 x0.Rec.Kind, .int .i64 x0.Rec.Valid, .int .i64 x0.Rec.Uid, .int .i64 x0.Rec.Next, .int .i64 x0.Rec.Flags, .str x0.Rec.User, .str x0.Rec.Name, .str x0.Rec.Text], 0⟩, some ⟨[.int .i64 x1.Seq, .int .i64 x1.Rec.Kind, .int .i64 x1.Rec.Valid, .int .i64 x1.Rec.Uid, .int .i64 x1.Rec.Next, .int .i64 x1.Rec.Flags, .str x1.Rec.User, .str x1.Rec.Name, .str x1.Rec.Text], 0⟩]) rfl rfl ?_
      refine RW.cond_f rfl ?_
      refine RW.skip ?_
      refine RW.sreg ?_
      refine rl.run 1 rfl ?_
      refine rl.done ?_
      refine RW.ret ?_
      cases h4
      exact RRet.mk rfl .bool (by first | decide | simp)
  · have h5 := iteBT hF hb
    refine rl.done ?_
    refine RW.cond_t rfl ?_
    refine RW.sreg ?_
    refine rl.run 1 rfl ?_
    refine rl.done ?_
    refine RW.ret ?_
    cases h5
    exact RRet.mk rfl .bool (by first | decide | simp)
theorem law_laws_eqItemS {x0 : List TItem} {x1 : List TItem} {r : Bool} (hF : F_laws_eqItemS x0 x1 = some r) : PCalls Try.prog 22 [.lst false 9 (fl (enc_TItem false) x0) x0.length, .lst false 9 (fl (enc_TItem false) x1) x1.length] (.bool r) := by
  refine PCalls.of_r k_laws_eqItemS rfl ?_
  unfold F_laws_eqItemS at hF
  refine RW.sreg ?_
  refine rl.run 1 rfl ?_
  refine rl.done ?_
  refine RW.seq ?_
  refine RW.sreg ?_
  refine rl.run 4 rfl ?_
  refine rl.gen rfl rfl fun b hb => ?_
  cases b
  · have h1 := iteBF hF hb
    refine rl.done ?_
    refine RW.cond_f rfl ?_
    refine RW.skip ?_
    refine RW.seq ?_
    refine RW.sreg ?_
    refine rl.run 1 rfl ?_
    refine rl.done ?_
    obtain ⟨y6, ey6, h3⟩ := bindS h1
    refine RW.cutq (σ := Unit) (fun y2 => []) (fun y2 => []) (fun y => y6 = .inr y) (fun _ _ _ _ g h => RW.gh g h) ?_ ?_
    · refine RW.blk ?_
      refine RW.iter (σ := Int) ey6 (fun s1 => [(0, .lst false 9 (fl (enc_TItem false) x0) x0.length), (1, .lst false 9 (fl (enc_TItem false) x1) x1.length), (5, .int .i64 s1)]) (fun s1 => []) (Gh.ren0 [] .nil rfl (.cons rfl (.dat (ek_TItem.rlst)) (.cons rfl (.dat (ek_TItem.rlst)) (.cons rfl (.dat .int) .nil)))) (fun s1 B o hS2 hB2 hE2 => ?_)
      unfold S_laws_eqItemS_1 at hS2
      refine RW.seq ?_
      refine RW.sreg ?_
      refine rl.run 3 rfl ?_
      refine rl.gen rfl rfl fun b hb => ?_
      cases b
      · have h4 := iteBF hS2 hb
        refine rl.done ?_
        refine RW.cond_f rfl ?_
        refine RW.exit ?_
        refine blkA_eq ?_
        cases h4
        exact ⟨_, (hE2 _ rfl).symm, (Gh.ren0 [] .nil rfl .nil)⟩
      · have h5 := iteBT hS2 hb
        refine rl.done ?_
        refine RW.cond_t rfl ?_
        refine RW.skip ?_
        refine RW.seq ?_
        refine RW.blk ?_
        refine RW.sdrw ?_
        refine rdraw.op rfl rfl ?_
        refine rdraw.op rfl rfl ?_
        obtain ⟨v3, e3, h6⟩ := bindS h5
        refine rdraw.op rfl (x_ia_lst (enc := enc_TItem) (o := false) rfl rfl rfl e3) ?_
        refine rdraw.op rfl (x_ld_ela (off' := 0) (vs := (enc_TItem false v3)) ek_TItem rfl e3 rfl rfl rfl) ?_
        refine rdraw.op rfl rfl ?_
        refine rdraw.op rfl rfl ?_
        obtain ⟨v4, e4, h7⟩ := bindS h6
        refine rdraw.op rfl (x_ia_lst (enc := enc_TItem) (o := false) rfl rfl rfl e4) ?_
        refine rdraw.op rfl (x_ld_ela (off' := 0) (vs := (enc_TItem false v4)) ek_TItem rfl e4 rfl rfl rfl) ?_
        obtain ⟨v5, e5, h8⟩ := bindS h7
        refine rdraw.call rfl rfl rfl (CallW.val (r' := .bool v5) ok_laws_eqItem (law_laws_eqItem e5) (.cons (.dat (.agg (ek_TItem.dat false _))) (.cons (.dat (.agg (ek_TItem.dat false _))) .nil)) .refl ⟨rfl, ?_⟩)
        cases hb : v5
        · have h9 := iteBF h8 hb
          refine rdraw.op rfl rfl ?_
          refine rdraw.done ?_
          refine RW.keep [0, 1, 5, 26] (a' := [(0, .lst false 9 (fl (enc_TItem false) x0) x0.length), (1, .lst false 9 (fl (enc_TItem false) x1) x1.length), (5, .int .i64 s1), (26, .bool true)]) (H' := []) rfl rfl ?_
          refine RW.cond_t rfl ?_
          refine RW.sreg ?_
          refine rl.run 1 rfl ?_
          refine rl.done ?_
          refine RW.ret ?_
          cases h9
          have h10 := elimL h3 (hE2 _ rfl)
          cases h10
          exact RRet.mk rfl .bool (by first | decide | simp)
        · have h11 := iteBT h8 hb
          refine rdraw.op rfl rfl ?_
          refine rdraw.done ?_
          refine RW.keep [0, 1, 5, 26] (a' := [(0, .lst false 9 (fl (enc_TItem false) x0) x0.length), (1, .lst false 9 (fl (enc_TItem false) x1) x1.length), (5, .int .i64 s1), (26, .bool false)]) (H' := []) rfl rfl ?_
          refine RW.cond_f rfl ?_
          refine RW.skip ?_
          refine RW.reg ?_
          refine rl.run 3 rfl ?_
          refine rl.done ?_
          cases h11
          exact hB2 _ rfl _ _ (Gh.ren0 [] .nil rfl (.cons rfl (.dat (ek_TItem.rlst)) (.cons rfl (.dat (ek_TItem.rlst)) (.cons rfl (.dat .int) .nil))))
    · intro y2 hC
      have h3 := elimR h3 hC
      refine RW.sreg ?_
      refine rl.run 1 rfl ?_
      refine rl.done ?_
      refine RW.ret ?_
      cases h3
      exact RRet.mk rfl .bool (by first | decide | simp)
  · have h12 := iteBT hF hb
    refine rl.done ?_
    refine RW.cond_t rfl ?_
    refine RW.sreg ?_
    refine rl.run 1 rfl ?_
    refine rl.done ?_
    refine RW.ret ?_
    cases h12
    exact RRet.mk rfl .bool (by first | decide | simp)
theorem law_laws_eqSeg {x0 : TSeg} {x1 : TSeg} {r : Bool} (hF : F_laws_eqSeg x0 x1 = some r) : PCalls Try.prog 53 [.agg (enc_TSeg false x0), .agg (enc_TSeg false x1)] (.bool r) := by
  refine PCalls.of_r k_laws_eqSeg rfl ?_
  unfold F_laws_eqSeg at hF
  refine RW.sreg ?_
  refine rl.run 3 rfl ?_
  refine rl.done ?_
  refine RW.seq ?_
  refine RW.sreg ?_
  refine rl.run 4 rfl ?_
  refine rl.gen rfl rfl fun b hb => ?_
  cases b
  · have h1 := iteBF hF hb
    refine rl.done ?_
    refine RW.cond_f rfl ?_
    refine RW.skip ?_
    refine RW.seq ?_
    refine RW.sreg ?_
    refine rl.run 4 rfl ?_
    refine rl.gen rfl rfl fun b hb => ?_
    cases b
    · have h2 := iteBF h1 hb
      refine rl.done ?_
      refine RW.keep [2, 3, 14] (a' := [(2, .ptr 0 0), (3, .ptr 1 0), (14, .bool false)]) (H' := [some ⟨[.int .i64 x0.No, .int .i64 x0.Gen, .int .i64 x0.End, .lst false 9 (fl (enc_TItem false) x0.Items) x0.Items.length], 0⟩, some ⟨[.int .i64 x1.No, .int .i64 x1.Gen, .int .i64 x1.End, .lst false 9 (fl (enc_TItem false) x1.Items) x1.Items.length], 0⟩]) rfl rfl ?_
      refine RW.cond_f rfl ?_
      refine RW.skip ?_
      refine RW.seq ?_
      refine RW.sreg ?_
      refine rl.run 4 rfl ?_
      refine rl.gen rfl rfl fun b hb => ?_
      cases b
      · have h3 := iteBF h2 hb
        refine rl.done ?_
        refine RW.cond_f rfl ?_
        refine RW.skip ?_
        refine RW.seq ?_
        refine RW.sreg ?_
        refine rl.run 4 rfl ?_
        obtain ⟨v1, e1, h4⟩ := bindS h3
        refine rl.call rfl rfl rfl (CallW.val (r' := .bool v1) ok_laws_eqItemS (law_laws_eqItemS e1) (.cons (.lst ek_TItem) (.cons (.lst ek_TItem) .nil)) .refl ?_)
        cases hb : v1
        · have h5 := iteBF h4 hb
          refine rl.run 1 rfl ?_
          refine rl.done ?_
          refine RW.keep [25] (a' := [(25, .bool true)]) (H' := [some ⟨[.int .i64 x0.No, .int .i64 x0.Gen, .int .i64 x0.End, .lst false 9 (fl (enc_TItem false) x0.Items) x0.Items.length], 0⟩, some ⟨[.int .i64 x1.No, .int .i64 x1.Gen, .int .i64 x1.End, .lst false 9 (fl (enc_TItem false) x1.Items) x1.Items.length], 0⟩]) rfl rfl ?_
          refine RW.cond_t rfl ?_
          refine RW.sreg ?_
          refine rl.run 1 rfl ?_
          refine rl.done ?_
          refine RW.ret ?_
          cases h5
          exact RRet.mk rfl .bool (by first | decide | simp)
        · have h6 := iteBT h4 hb
          refine rl.run 1 rfl ?_
          refine rl.done ?_
          refine RW.keep [25] (a' := [(25, .bool false)]) (H' := [some ⟨[.int .i64 x0.No, .int .i64 x0.Gen, .int .i64 x0.End, .lst false 9 (fl (enc_TItem false) x0.Items) x0.Items.length], 0⟩, some ⟨[.int .i64 x1.No, .int .i64 x1.Gen, .int .i64 x1.End, .lst false 9 (fl (enc_TItem false) x1.Items) x1.Items.length], 0⟩]) rfl rfl ?_
          refine RW.cond_f rfl ?_
          refine RW.skip ?_
          refine RW.sreg ?_
          refine rl.run 1 rfl ?_
          refine rl.done ?_
          refine RW.ret ?_
          cases h6
          exact RRet.mk rfl .bool (by first | decide | simp)
      · have h7 := iteBT h2 hb
        refine rl.done ?_
        refine RW.cond_t rfl ?_
        refine RW.sreg ?_
        refine rl.run 1 rfl ?_
        refine rl.done ?_
        refine RW.ret ?_
        cases h7
        exact RRet.mk rfl .bool (by first | decide | simp)
    · have h8 := iteBT h1 hb
      refine rl.done ?_
      refine RW.keep [2, 3, 14] (a' := [(2, .ptr 0 0), (3, .ptr 1 0), (14, .bool true)]) (H' := [some ⟨[.int .i64 x0.No, .int .i64 x0.Gen, .int .i64 x0.End, .lst false 9 (fl (enc_TItem false) x0.Items) x0.Items.length], 0⟩, some ⟨[.int .i64 x1.No, .int .i64 x1.Gen, .int .i64 x1.End, .lst false 9 (fl (enc_TItem false) x1.Items) x1.Items.length], 0⟩]) rfl rfl ?_
      refine RW.cond_t rfl ?_
      refine RW.sreg ?_
      refine rl.run 1 rfl ?_
      refine rl.done ?_
      refine RW.ret ?_
      cases h8
      exact RRet.mk rfl .bool (by first | decide | simp)
  · have h9 := iteBT hF hb
    refine rl.done ?_
    refine RW.cond_t rfl ?_
    refine RW.sreg ?_
    refine rl.run 1 rfl ?_
    refine rl.done ?_
    refine RW.ret ?_
    cases h9
    exact RRet.mk rfl .bool (by first | decide | simp)
theorem law_laws_eqSegS {x0 : List TSeg} {x1 : List TSeg} {r : Bool} (hF : F_laws_eqSegS x0 x1 = some r) : PCalls Try.prog 66 [.lst false 4 (fl (enc_TSeg false) x0) x0.length, .lst false 4 (fl (enc_TSeg false) x1) x1.length] (.bool r) := by
  refine PCalls.of_r k_laws_eqSegS rfl ?_
  unfold F_laws_eqSegS at hF
  refine RW.sreg ?_
  refine rl.run 1 rfl ?_
  refine rl.done ?_
  refine RW.seq ?_
  refine RW.sreg ?_
  refine rl.run 4 rfl ?_
  refine rl.gen rfl rfl fun b hb => ?_
  cases b
  · have h1 := iteBF hF hb
    refine rl.done ?_
    refine RW.cond_f rfl ?_
    refine RW.skip ?_
    refine RW.seq ?_
    refine RW.sreg ?_
    refine rl.run 1 rfl ?_
    refine rl.done ?_
    obtain ⟨y6, ey6, h3⟩ := bindS h1
    refine RW.cutq (σ := Unit) (fun y2 => []) (fun y2 => []) (fun y => y6 = .inr y) (fun _ _ _ _ g h => RW.gh g h) ?_ ?_
    · refine RW.blk ?_
      refine RW.iter (σ := Int) ey6 (fun s1 => [(0, .lst false 4 (fl (enc_TSeg false) x0) x0.length), (1, .lst false 4 (fl (enc_TSeg false) x1) x1.length), (5, .int .i64 s1)]) (fun s1 => []) (Gh.ren0 [] .nil rfl (.cons rfl (.dat (ek_TSeg.rlst)) (.cons rfl (.dat (ek_TSeg.rlst)) (.cons rfl (.dat .int) .nil)))) (fun s1 B o hS2 hB2 hE2 => ?_)
      unfold S_laws_eqSegS_1 at hS2
      refine RW.seq ?_
      refine RW.sreg ?_
      refine rl.run 3 rfl ?_
      refine rl.gen rfl rfl fun b hb => ?_
      cases b
      · have h4 := iteBF hS2 hb
        refine rl.done ?_
        refine RW.cond_f rfl ?_
        refine RW.exit ?_
        refine blkA_eq ?_
        cases h4
        exact ⟨_, (hE2 _ rfl).symm, (Gh.ren0 [] .nil rfl .nil)⟩
      · have h5 := iteBT hS2 hb
        refine rl.done ?_
        refine RW.cond_t rfl ?_
        refine RW.skip ?_
        refine RW.seq ?_
        refine RW.blk ?_
        refine RW.sdrw ?_
        refine rdraw.op rfl rfl ?_
        refine rdraw.op rfl rfl ?_
        obtain ⟨v3, e3, h6⟩ := bindS h5
        refine rdraw.op rfl (x_ia_lst (enc := enc_TSeg) (o := false) rfl rfl rfl e3) ?_
        refine rdraw.op rfl (x_ld_ela (off' := 0) (vs := (enc_TSeg false v3)) ek_TSeg rfl e3 rfl rfl rfl) ?_
        refine rdraw.op rfl rfl ?_
        refine rdraw.op rfl rfl ?_
        obtain ⟨v4, e4, h7⟩ := bindS h6
        refine rdraw.op rfl (x_ia_lst (enc := enc_TSeg) (o := false) rfl rfl rfl e4) ?_
        refine rdraw.op rfl (x_ld_ela (off' := 0) (vs := (enc_TSeg false v4)) ek_TSeg rfl e4 rfl rfl rfl) ?_
        obtain ⟨v5, e5, h8⟩ := bindS h7
        refine rdraw.call rfl rfl rfl (CallW.val (r' := .bool v5) ok_laws_eqSeg (law_laws_eqSeg e5) (.cons (.dat (.agg (ek_TSeg.dat false _))) (.cons (.dat (.agg (ek_TSeg.dat false _))) .nil)) .refl ⟨rfl, ?_⟩)
        cases hb : v5
        · have h9 := iteBF h8 hb
          refine rdraw.op rfl rfl ?_
          refine rdraw.done ?_
          refine RW.keep [0, 1, 5, 26] (a' := [(0, .lst false 4 (fl (enc_TSeg false) x0) x0.length), (1, .lst false 4 (fl (enc_TSeg false) x1) x1.length), (5, .int .i64 s1), (26, .bool true)]) (H' := []) rfl rfl ?_
          refine RW.cond_t rfl ?_
          refine RW.sreg ?_
          refine rl.run 1 rfl ?_
          refine rl.done ?_
          refine RW.ret ?_
          cases h9
          have h10 := elimL h3 (hE2 _ rfl)
          cases h10
          exact RRet.mk rfl .bool (by first | decide | simp)
        · have h11 := iteBT h8 hb
          refine rdraw.op rfl rfl ?_
          refine rdraw.done ?_
          refine RW.keep [0, 1, 5, 26] (a' := [(0, .lst false 4 (fl (enc_TSeg false) x0) x0.length), (1, .lst false 4 (fl (enc_TSeg false) x1) x1.length), (5, .int .i64 s1), (26, .bool false)]) (H' := []) rfl rfl ?_
          refine RW.cond_f rfl ?_
          refine RW.skip ?_
          refine RW.reg ?_
          refine rl.run 3 rfl ?_
          refine rl.done ?_
          cases h11
          exact hB2 _ rfl _ _ (Gh.ren0 [] .nil rfl (.cons rfl (.dat (ek_TSeg.rlst)) (.cons rfl (.dat (ek_TSeg.rlst)) (.cons rfl (.dat .int) .nil))))
    · intro y2 hC
      have h3 := elimR h3 hC
      refine RW.sreg ?_
      refine rl.run 1 rfl ?_
      refine rl.done ?_
      refine RW.ret ?_
      cases h3
      exact RRet.mk rfl .bool (by first | decide | simp)
  · have h12 := iteBT hF hb
    refine rl.done ?_
    refine RW.cond_t rfl ?_
    refine RW.sreg ?_
    refine rl.run 1 rfl ?_
    refine rl.done ?_
    refine RW.ret ?_
    cases h12
    exact RRet.mk rfl .bool (by first | decide | simp)
theorem law_laws_eqLog {x0 : TLog} {x1 : TLog} {r : Bool} (hF : F_laws_eqLog x0 x1 = some r) : PCalls Try.prog 16 [.agg (enc_TLog false x0), .agg (enc_TLog false x1)] (.bool r) := by
  refine PCalls.of_r k_laws_eqLog rfl ?_
  unfold F_laws_eqLog at hF
  refine RW.sreg ?_
  refine rl.run 3 rfl ?_
  refine rl.done ?_
  refine RW.seq ?_
  refine RW.sreg ?_
  refine rl.run 4 rfl ?_
  obtain ⟨v1, e1, h1⟩ := bindS hF
  refine rl.call rfl rfl rfl (CallW.val (r' := .bool v1) ok_laws_eqDisk (law_laws_eqDisk e1) (.cons (DFL.agg (.cons (.lst ekS) (.cons (.lst ek_TWrite) .nil))) (.cons (DFL.agg (.cons (.lst ekS) (.cons (.lst ek_TWrite) .nil))) .nil)) .refl ?_)
  cases hb : v1
  · have h2 := iteBF h1 hb
    refine rl.run 1 rfl ?_
    refine rl.done ?_
    refine RW.cond_t rfl ?_
    refine RW.sreg ?_
    refine rl.run 1 rfl ?_
    refine rl.done ?_
    refine RW.ret ?_
    cases h2
    exact RRet.mk rfl .bool (by first | decide | simp)
  · have h3 := iteBT h1 hb
    refine rl.run 1 rfl ?_
    refine rl.done ?_
    refine RW.cond_f rfl ?_
    refine RW.skip ?_
    refine RW.seq ?_
    refine RW.sreg ?_
    refine rl.run 4 rfl ?_
    refine rl.gen rfl rfl fun b hb => ?_
    cases b
    · have h4 := iteBF h3 hb
      refine rl.done ?_
      refine RW.keep [2, 3, 15] (a' := [(2, .ptr 0 0), (3, .ptr 1 0), (15, .bool false)]) (H' := [some ⟨[.lst false 1 (fl (encS false) x0.Disk.Sectors) x0.Disk.Sectors.length, .lst false 2 (fl (enc_TWrite false) x0.Disk.Cache) x0.Disk.Cache.length, .int .i64 x0.Segs, .lst false 4 (fl (enc_TSeg false) x0.Used) x0.Used.length, .int .i64 x0.NextGen, .int .i64 x0.NextSeq, .int .i64 x0.Stamp, .int .i64 x0.NextValid], 0⟩, some ⟨[.lst false 1 (fl (encS false) x1.Disk.Sectors) x1.Disk.Sectors.length, .lst false 2 (fl (enc_TWrite false) x1.Disk.Cache) x1.Disk.Cache.length, .int .i64 x1.Segs, .lst false 4 (fl (enc_TSeg false) x1.Used) x1.Used.length, .int .i64 x1.NextGen, .int .i64 x1.NextSeq, .int .i64 x1.Stamp, .int .i64 x1.NextValid], 0⟩]) rfl rfl ?_
      refine RW.cond_f rfl ?_
      refine RW.skip ?_
      refine RW.seq ?_
      refine RW.sreg ?_
      refine rl.run 4 rfl ?_
      obtain ⟨v2, e2, h5⟩ := bindS h4
      refine rl.call rfl rfl rfl (CallW.val (r' := .bool v2) ok_laws_eqSegS (law_laws_eqSegS e2) (.cons (.lst ek_TSeg) (.cons (.lst ek_TSeg) .nil)) .refl ?_)
      cases hb : v2
      · have h6 := iteBF h5 hb
        refine rl.run 1 rfl ?_
        refine rl.done ?_
        refine RW.cond_t rfl ?_
        refine RW.sreg ?_
        refine rl.run 1 rfl ?_
        refine rl.done ?_
        refine RW.ret ?_
        cases h6
        exact RRet.mk rfl .bool (by first | decide | simp)
      · have h7 := iteBT h5 hb
        refine rl.run 1 rfl ?_
        refine rl.done ?_
        refine RW.cond_f rfl ?_
        refine RW.skip ?_
        refine RW.seq ?_
        refine RW.sreg ?_
        refine rl.run 4 rfl ?_
        refine rl.gen rfl rfl fun b hb => ?_
        cases b
        · have h8 := iteBF h7 hb
          refine rl.done ?_
          refine RW.keep [2, 3, 26] (a' := [(2, .ptr 0 0), (3, .ptr 1 0), (26, .bool false)]) (H' := [some ⟨[.lst false 1 (fl (encS false) x0.Disk.Sectors) x0.Disk.Sectors.length, .lst false 2 (fl (enc_TWrite false) x0.Disk.Cache) x0.Disk.Cache.length, .int .i64 x0.Segs, .lst false 4 (fl (enc_TSeg false) x0.Used) x0.Used.length, .int .i64 x0.NextGen, .int .i64 x0.NextSeq, .int .i64 x0.Stamp, .int .i64 x0.NextValid], 0⟩, some ⟨[.lst false 1 (fl (encS false) x1.Disk.Sectors) x1.Disk.Sectors.length, .lst false 2 (fl (enc_TWrite false) x1.Disk.Cache) x1.Disk.Cache.length, .int .i64 x1.Segs, .lst false 4 (fl (enc_TSeg false) x1.Used) x1.Used.length, .int .i64 x1.NextGen, .int .i64 x1.NextSeq, .int .i64 x1.Stamp, .int .i64 x1.NextValid], 0⟩]) rfl rfl ?_
          refine RW.cond_f rfl ?_
          refine RW.skip ?_
          refine RW.seq ?_
          refine RW.sreg ?_
          refine rl.run 4 rfl ?_
          refine rl.gen rfl rfl fun b hb => ?_
          cases b
          · have h9 := iteBF h8 hb
            refine rl.done ?_
            refine RW.cond_f rfl ?_
            refine RW.skip ?_
            refine RW.seq ?_
            refine RW.sreg ?_
            refine rl.run 4 rfl ?_
            refine rl.gen rfl rfl fun b hb => ?_
            cases b
            · have h10 := iteBF h9 hb
              refine rl.done ?_
              refine RW.cond_f rfl ?_
              refine RW.skip ?_
              refine RW.seq ?_
              refine RW.sreg ?_
              refine rl.run 4 rfl ?_
              refine rl.gen rfl rfl fun b hb => ?_
              cases b
              · have h11 := iteBF h10 hb
                refine rl.done ?_
                refine RW.keep [41] (a' := [(41, .bool false)]) (H' := [some ⟨[.lst false 1 (fl (encS false) x0.Disk.Sectors) x0.Disk.Sectors.length, .lst false 2 (fl (enc_TWrite false) x0.Disk.Cache) x0.Disk.Cache.length, .int .i64 x0.Segs, .lst false 4 (fl (enc_TSeg false) x0.Used) x0.Used.length, .int .i64 x0.NextGen, .int .i64 x0.NextSeq, .int .i64 x0.Stamp, .int .i64 x0.NextValid], 0⟩, some ⟨[.lst false 1 (fl (encS false) x1.Disk.Sectors) x1.Disk.Sectors.length, .lst false 2 (fl (enc_TWrite false) x1.Disk.Cache) x1.Disk.Cache.length, .int .i64 x1.Segs, .lst false 4 (fl (enc_TSeg false) x1.Used) x1.Used.length, .int .i64 x1.NextGen, .int .i64 x1.NextSeq, .int .i64 x1.Stamp, .int .i64 x1.NextValid], 0⟩]) rfl rfl ?_
                refine RW.cond_f rfl ?_
                refine RW.skip ?_
                refine RW.sreg ?_
                refine rl.run 1 rfl ?_
                refine rl.done ?_
                refine RW.ret ?_
                cases h11
                exact RRet.mk rfl .bool (by first | decide | simp)
              · have h12 := iteBT h10 hb
                refine rl.done ?_
                refine RW.keep [41] (a' := [(41, .bool true)]) (H' := [some ⟨[.lst false 1 (fl (encS false) x0.Disk.Sectors) x0.Disk.Sectors.length, .lst false 2 (fl (enc_TWrite false) x0.Disk.Cache) x0.Disk.Cache.length, .int .i64 x0.Segs, .lst false 4 (fl (enc_TSeg false) x0.Used) x0.Used.length, .int .i64 x0.NextGen, .int .i64 x0.NextSeq, .int .i64 x0.Stamp, .int .i64 x0.NextValid], 0⟩, some ⟨[.lst false 1 (fl (encS false) x1.Disk.Sectors) x1.Disk.Sectors.length, .lst false 2 (fl (enc_TWrite false) x1.Disk.Cache) x1.Disk.Cache.length, .int .i64 x1.Segs, .lst false 4 (fl (enc_TSeg false) x1.Used) x1.Used.length, .int .i64 x1.NextGen, .int .i64 x1.NextSeq, .int .i64 x1.Stamp, .int .i64 x1.NextValid], 0⟩]) rfl rfl ?_
                refine RW.cond_t rfl ?_
                refine RW.sreg ?_
                refine rl.run 1 rfl ?_
                refine rl.done ?_
                refine RW.ret ?_
                cases h12
                exact RRet.mk rfl .bool (by first | decide | simp)
            · have h13 := iteBT h9 hb
              refine rl.done ?_
              refine RW.cond_t rfl ?_
              refine RW.sreg ?_
              refine rl.run 1 rfl ?_
              refine rl.done ?_
              refine RW.keep [4] (a' := [(4, .bool false)]) (H' := [some ⟨[.lst false 1 (fl (encS false) x0.Disk.Sectors) x0.Disk.Sectors.length, .lst false 2 (fl (enc_TWrite false) x0.Disk.Cache) x0.Disk.Cache.length, .int .i64 x0.Segs, .lst false 4 (fl (enc_TSeg false) x0.Used) x0.Used.length, .int .i64 x0.NextGen, .int .i64 x0.NextSeq, .int .i64 x0.Stamp, .int .i64 x0.NextValid], 0⟩, some ⟨[.lst false 1 (fl (encS false) x1.Disk.Sectors) x1.Disk.Sectors.length, .lst false 2 (fl (enc_TWrite false) x1.Disk.Cache) x1.Disk.Cache.length, .int .i64 x1.Segs, .lst false 4 (fl (enc_TSeg false) x1.Used) x1.Used.length, .int .i64 x1.NextGen, .int .i64 x1.NextSeq, .int .i64 x1.Stamp, .int .i64 x1.NextValid], 0⟩]) rfl rfl ?_
              refine RW.ret ?_
              cases h13
              exact RRet.mk rfl .bool (by first | decide | simp)
          · have h14 := iteBT h8 hb
            refine rl.done ?_
            refine RW.cond_t rfl ?_
            refine RW.sreg ?_
            refine rl.run 1 rfl ?_
            refine rl.done ?_
            refine RW.ret ?_
            cases h14
            exact RRet.mk rfl .bool (by first | decide | simp)
        · have h15 := iteBT h7 hb
          refine rl.done ?_
          refine RW.keep [2, 3, 26] (a' := [(2, .ptr 0 0), (3, .ptr 1 0), (26, .bool true)]) (H' := [some ⟨[.lst false 1 (fl (encS false) x0.Disk.Sectors) x0.Disk.Sectors.length, .lst false 2 (fl (enc_TWrite false) x0.Disk.Cache) x0.Disk.Cache.length, .int .i64 x0.Segs, .lst false 4 (fl (enc_TSeg false) x0.Used) x0.Used.length, .int .i64 x0.NextGen, .int .i64 x0.NextSeq, .int .i64 x0.Stamp, .int .i64 x0.NextValid], 0⟩, some ⟨[.lst false 1 (fl (encS false) x1.Disk.Sectors) x1.Disk.Sectors.length, .lst false 2 (fl (enc_TWrite false) x1.Disk.Cache) x1.Disk.Cache.length, .int .i64 x1.Segs, .lst false 4 (fl (enc_TSeg false) x1.Used) x1.Used.length, .int .i64 x1.NextGen, .int .i64 x1.NextSeq, .int .i64 x1.Stamp, .int .i64 x1.NextValid], 0⟩]) rfl rfl ?_
          refine RW.cond_t rfl ?_
          refine RW.sreg ?_
          refine rl.run 1 rfl ?_
          refine rl.done ?_
          refine RW.ret ?_
          cases h15
          exact RRet.mk rfl .bool (by first | decide | simp)
    · have h16 := iteBT h3 hb
      refine rl.done ?_
      refine RW.keep [2, 3, 15] (a' := [(2, .ptr 0 0), (3, .ptr 1 0), (15, .bool true)]) (H' := [some ⟨[.lst false 1 (fl (encS false) x0.Disk.Sectors) x0.Disk.Sectors.length, .lst false 2 (fl (enc_TWrite false) x0.Disk.Cache) x0.Disk.Cache.length, .int .i64 x0.Segs, .lst false 4 (fl (enc_TSeg false) x0.Used) x0.Used.length, .int .i64 x0.NextGen, .int .i64 x0.NextSeq, .int .i64 x0.Stamp, .int .i64 x0.NextValid], 0⟩, some ⟨[.lst false 1 (fl (encS false) x1.Disk.Sectors) x1.Disk.Sectors.length, .lst false 2 (fl (enc_TWrite false) x1.Disk.Cache) x1.Disk.Cache.length, .int .i64 x1.Segs, .lst false 4 (fl (enc_TSeg false) x1.Used) x1.Used.length, .int .i64 x1.NextGen, .int .i64 x1.NextSeq, .int .i64 x1.Stamp, .int .i64 x1.NextValid], 0⟩]) rfl rfl ?_
      refine RW.cond_t rfl ?_
      refine RW.sreg ?_
      refine rl.run 1 rfl ?_
      refine rl.done ?_
      refine RW.ret ?_
      cases h16
      exact RRet.mk rfl .bool (by first | decide | simp)
theorem law_laws_FnExactSameLog {x0 : TLog} {x1 : TLog} {r : Bool} (hF : F_laws_FnExactSameLog x0 x1 = some r) : PCalls Try.prog 3 [.agg (enc_TLog false x0), .agg (enc_TLog false x1)] (.bool r) := by
  refine PCalls.of_r k_laws_FnExactSameLog rfl ?_
  unfold F_laws_FnExactSameLog at hF
  refine RW.sreg ?_
  refine rl.run 3 rfl ?_
  refine rl.done ?_
  refine RW.sreg ?_
  refine rl.run 1 rfl ?_
  refine rl.done ?_
  refine RW.sreg ?_
  refine rl.run 2 rfl ?_
  obtain ⟨v1, e1, h1⟩ := bindS hF
  refine rl.call rfl rfl rfl (CallW.val (r' := .int .i64 v1) ok_laws_szLog (law_laws_szLog e1) (.cons (DFL.agg (.cons (.lst ekS) (.cons (.lst ek_TWrite) (.cons .int (.cons (.lst ek_TSeg) (.cons .int (.cons .int (.cons .int (.cons .int .nil))))))))) (.cons .int .nil)) .refl ?_)
  refine rl.run 1 rfl ?_
  refine rl.done ?_
  refine RW.seq ?_
  refine RW.sreg ?_
  refine rl.run 1 rfl ?_
  refine rl.gen rfl rfl fun b hb => ?_
  cases b
  · have h2 := iteBF h1 hb
    refine rl.done ?_
    refine RW.cond_f rfl ?_
    refine RW.skip ?_
    refine RW.sreg ?_
    refine rl.run 2 rfl ?_
    obtain ⟨v2, e2, h3⟩ := bindS h2
    refine rl.call rfl rfl rfl (CallW.val (r' := .int .i64 v2) ok_laws_szLog (law_laws_szLog e2) (.cons (DFL.agg (.cons (.lst ekS) (.cons (.lst ek_TWrite) (.cons .int (.cons (.lst ek_TSeg) (.cons .int (.cons .int (.cons .int (.cons .int .nil))))))))) (.cons .int .nil)) .refl ?_)
    refine rl.run 1 rfl ?_
    refine rl.done ?_
    refine RW.keep [2, 3, 5] (a' := [(2, .ptr 0 0), (3, .ptr 1 0), (5, .int .i64 v2)]) (H' := [some ⟨[.lst false 1 (fl (encS false) x0.Disk.Sectors) x0.Disk.Sectors.length, .lst false 2 (fl (enc_TWrite false) x0.Disk.Cache) x0.Disk.Cache.length, .int .i64 x0.Segs, .lst false 4 (fl (enc_TSeg false) x0.Used) x0.Used.length, .int .i64 x0.NextGen, .int .i64 x0.NextSeq, .int .i64 x0.Stamp, .int .i64 x0.NextValid], 0⟩, some ⟨[.lst false 1 (fl (encS false) x1.Disk.Sectors) x1.Disk.Sectors.length, .lst false 2 (fl (enc_TWrite false) x1.Disk.Cache) x1.Disk.Cache.length, .int .i64 x1.Segs, .lst false 4 (fl (enc_TSeg false) x1.Used) x1.Used.length, .int .i64 x1.NextGen, .int .i64 x1.NextSeq, .int .i64 x1.Stamp, .int .i64 x1.NextValid], 0⟩]) rfl rfl ?_
    refine RW.seq ?_
    refine RW.sreg ?_
    refine rl.run 1 rfl ?_
    refine rl.gen rfl rfl fun b hb => ?_
    cases b
    · have h4 := iteBF h3 hb
      refine rl.done ?_
      refine RW.cond_f rfl ?_
      refine RW.skip ?_
      refine RW.sdrw ?_
      refine rdraw.op rfl rfl ?_
      obtain ⟨v3, e3, h5⟩ := bindS h4
      refine rdraw.call rfl rfl rfl (CallW.val (r' := .agg (enc_TLog false v3)) ok_laws_toLog (law_laws_toLog e3) (.cons (DFL.agg (.cons (.lst ekS) (.cons (.lst ek_TWrite) (.cons .int (.cons (.lst ek_TSeg) (.cons .int (.cons .int (.cons .int (.cons .int .nil))))))))) .nil) (ek_TLog.flag _).agg ⟨rfl, ?_⟩)
      refine rdraw.op rfl rfl ?_
      obtain ⟨v4, e4, h6⟩ := bindS h5
      refine rdraw.call rfl rfl rfl (CallW.val (r' := .agg (enc_TLog false v4)) ok_laws_toLog (law_laws_toLog e4) (.cons (DFL.agg (.cons (.lst ekS) (.cons (.lst ek_TWrite) (.cons .int (.cons (.lst ek_TSeg) (.cons .int (.cons .int (.cons .int (.cons .int .nil))))))))) .nil) (ek_TLog.flag _).agg ⟨rfl, ?_⟩)
      obtain ⟨v5, e5, h7⟩ := bindS h6
      refine rdraw.call rfl rfl rfl (CallW.val (r' := .bool v5) ok_spec_SameLog (law_spec_SameLog e5) (.cons (.dat (.agg (ek_TLog.dat false _))) (.cons (.dat (.agg (ek_TLog.dat false _))) .nil)) .refl ⟨rfl, ?_⟩)
      refine rdraw.op rfl rfl ?_
      refine rdraw.done ?_
      refine RW.sreg ?_
      refine rl.run 1 rfl ?_
      obtain ⟨v6, e6, h8⟩ := bindS h7
      refine rl.call rfl rfl rfl (CallW.val (r' := .agg (enc_TLog false v6)) ok_laws_toLog (law_laws_toLog e6) (.cons (DFL.agg (.cons (.lst ekS) (.cons (.lst ek_TWrite) (.cons .int (.cons (.lst ek_TSeg) (.cons .int (.cons .int (.cons .int (.cons .int .nil))))))))) .nil) (ek_TLog.flag _).agg ?_)
      refine rl.run 2 rfl ?_
      refine rl.done ?_
      refine RW.sreg ?_
      refine rl.run 1 rfl ?_
      obtain ⟨v7, e7, h9⟩ := bindS h8
      refine rl.call rfl rfl rfl (CallW.val (r' := .agg (enc_TLog false v7)) ok_laws_toLog (law_laws_toLog e7) (.cons (DFL.agg (.cons (.lst ekS) (.cons (.lst ek_TWrite) (.cons .int (.cons (.lst ek_TSeg) (.cons .int (.cons .int (.cons .int (.cons .int .nil))))))))) .nil) (ek_TLog.flag _).agg ?_)
      refine rl.run 2 rfl ?_
      refine rl.done ?_
      refine RW.keep [2, 3, 6, 7, 8] (a' := [(2, .ptr 0 0), (3, .ptr 1 0), (6, .bool v5), (7, .ptr 2 0), (8, .ptr 3 0)]) (H' := [some ⟨[.lst false 1 (fl (encS false) x0.Disk.Sectors) x0.Disk.Sectors.length, .lst false 2 (fl (enc_TWrite false) x0.Disk.Cache) x0.Disk.Cache.length, .int .i64 x0.Segs, .lst false 4 (fl (enc_TSeg false) x0.Used) x0.Used.length, .int .i64 x0.NextGen, .int .i64 x0.NextSeq, .int .i64 x0.Stamp, .int .i64 x0.NextValid], 0⟩, some ⟨[.lst false 1 (fl (encS false) x1.Disk.Sectors) x1.Disk.Sectors.length, .lst false 2 (fl (enc_TWrite false) x1.Disk.Cache) x1.Disk.Cache.length, .int .i64 x1.Segs, .lst false 4 (fl (enc_TSeg false) x1.Used) x1.Used.length, .int .i64 x1.NextGen, .int .i64 x1.NextSeq, .int .i64 x1.Stamp, .int .i64 x1.NextValid], 0⟩, some ⟨[.lst false 1 (fl (encS false) v6.Disk.Sectors) v6.Disk.Sectors.length, .lst false 2 (fl (enc_TWrite false) v6.Disk.Cache) v6.Disk.Cache.length, .int .i64 v6.Segs, .lst false 4 (fl (enc_TSeg false) v6.Used) v6.Used.length, .int .i64 v6.NextGen, .int .i64 v6.NextSeq, .int .i64 v6.Stamp, .int .i64 v6.NextValid], 0⟩, some ⟨[.lst false 1 (fl (encS false) v7.Disk.Sectors) v7.Disk.Sectors.length, .lst false 2 (fl (enc_TWrite false) v7.Disk.Cache) v7.Disk.Cache.length, .int .i64 v7.Segs, .lst false 4 (fl (enc_TSeg false) v7.Used) v7.Used.length, .int .i64 v7.NextGen, .int .i64 v7.NextSeq, .int .i64 v7.Stamp, .int .i64 v7.NextValid], 0⟩]) rfl rfl ?_
      refine RW.sreg ?_
      refine rl.run 2 rfl ?_
      obtain ⟨v8, e8, h10⟩ := bindS h9
      refine rl.call rfl rfl rfl (CallW.val (r' := .bool v8) ok_impl_SameLog (law_impl_SameLog e8) (.cons (DFL.agg (.cons (.lst ekS) (.cons (.lst ek_TWrite) (.cons .int (.cons (.lst ek_TSeg) (.cons .int (.cons .int (.cons .int (.cons .int .nil))))))))) (.cons (DFL.agg (.cons (.lst ekS) (.cons (.lst ek_TWrite) (.cons .int (.cons (.lst ek_TSeg) (.cons .int (.cons .int (.cons .int (.cons .int .nil))))))))) .nil)) .refl ?_)
      refine rl.run 1 rfl ?_
      refine rl.done ?_
      refine RW.seq ?_
      refine RW.sreg ?_
      refine rl.run 2 rfl ?_
      refine rl.gen rfl rfl fun b hb => ?_
      cases b
      · have h11 := iteBF h10 hb
        refine rl.done ?_
        refine RW.cond_f rfl ?_
        refine RW.skip ?_
        refine RW.seq ?_
        refine RW.sdrw ?_
        refine rdraw.op rfl rfl ?_
        refine rdraw.op rfl rfl ?_
        obtain ⟨v9, e9, h12⟩ := bindS h11
        refine rdraw.call rfl rfl rfl (CallW.val (r' := .agg (enc_TLog false v9)) ok_laws_toLog (law_laws_toLog e9) (.cons (DFL.agg (.cons (.lst ekS) (.cons (.lst ek_TWrite) (.cons .int (.cons (.lst ek_TSeg) (.cons .int (.cons .int (.cons .int (.cons .int .nil))))))))) .nil) (ek_TLog.flag _).agg ⟨rfl, ?_⟩)
        obtain ⟨v10, e10, h13⟩ := bindS h12
        refine rdraw.call rfl rfl rfl (CallW.val (r' := .bool v10) ok_laws_eqLog (law_laws_eqLog e10) (.cons (DFL.agg (.cons (.lst ekS) (.cons (.lst ek_TWrite) (.cons .int (.cons (.lst ek_TSeg) (.cons .int (.cons .int (.cons .int (.cons .int .nil))))))))) (.cons (.dat (.agg (ek_TLog.dat false _))) .nil)) .refl ⟨rfl, ?_⟩)
        cases hb : v10
        · have h14 := iteBF h13 hb
          refine rdraw.op rfl rfl ?_
          refine rdraw.done ?_
          refine RW.keep [3, 8, 39] (a' := [(3, .ptr 1 0), (8, .ptr 3 0), (39, .bool true)]) (H' := [some ⟨[.lst false 1 (fl (encS false) x0.Disk.Sectors) x0.Disk.Sectors.length, .lst false 2 (fl (enc_TWrite false) x0.Disk.Cache) x0.Disk.Cache.length, .int .i64 x0.Segs, .lst false 4 (fl (enc_TSeg false) x0.Used) x0.Used.length, .int .i64 x0.NextGen, .int .i64 x0.NextSeq, .int .i64 x0.Stamp, .int .i64 x0.NextValid], 0⟩, some ⟨[.lst false 1 (fl (encS false) x1.Disk.Sectors) x1.Disk.Sectors.length, .lst false 2 (fl (enc_TWrite false) x1.Disk.Cache) x1.Disk.Cache.length, .int .i64 x1.Segs, .lst false 4 (fl (enc_TSeg false) x1.Used) x1.Used.length, .int .i64 x1.NextGen, .int .i64 x1.NextSeq, .int .i64 x1.Stamp, .int .i64 x1.NextValid], 0⟩, some ⟨[.lst false 1 (fl (encS false) v6.Disk.Sectors) v6.Disk.Sectors.length, .lst false 2 (fl (enc_TWrite false) v6.Disk.Cache) v6.Disk.Cache.length, .int .i64 v6.Segs, .lst false 4 (fl (enc_TSeg false) v6.Used) v6.Used.length, .int .i64 v6.NextGen, .int .i64 v6.NextSeq, .int .i64 v6.Stamp, .int .i64 v6.NextValid], 0⟩, some ⟨[.lst false 1 (fl (encS false) v7.Disk.Sectors) v7.Disk.Sectors.length, .lst false 2 (fl (enc_TWrite false) v7.Disk.Cache) v7.Disk.Cache.length, .int .i64 v7.Segs, .lst false 4 (fl (enc_TSeg false) v7.Used) v7.Used.length, .int .i64 v7.NextGen, .int .i64 v7.NextSeq, .int .i64 v7.Stamp, .int .i64 v7.NextValid], 0⟩]) rfl rfl ?_
          refine RW.cond_t rfl ?_
          refine RW.sreg ?_
          refine rl.run 1 rfl ?_
          refine rl.done ?_
          refine RW.ret ?_
          cases h14
          exact RRet.mk rfl .bool (by first | decide | simp)
        · have h15 := iteBT h13 hb
          refine rdraw.op rfl rfl ?_
          refine rdraw.done ?_
          refine RW.keep [3, 8, 39] (a' := [(3, .ptr 1 0), (8, .ptr 3 0), (39, .bool false)]) (H' := [some ⟨[.lst false 1 (fl (encS false) x0.Disk.Sectors) x0.Disk.Sectors.length, .lst false 2 (fl (enc_TWrite false) x0.Disk.Cache) x0.Disk.Cache.length, .int .i64 x0.Segs, .lst false 4 (fl (enc_TSeg false) x0.Used) x0.Used.length, .int .i64 x0.NextGen, .int .i64 x0.NextSeq, .int .i64 x0.Stamp, .int .i64 x0.NextValid], 0⟩, some ⟨[.lst false 1 (fl (encS false) x1.Disk.Sectors) x1.Disk.Sectors.length, .lst false 2 (fl (enc_TWrite false) x1.Disk.Cache) x1.Disk.Cache.length, .int .i64 x1.Segs, .lst false 4 (fl (enc_TSeg false) x1.Used) x1.Used.length, .int .i64 x1.NextGen, .int .i64 x1.NextSeq, .int .i64 x1.Stamp, .int .i64 x1.NextValid], 0⟩, some ⟨[.lst false 1 (fl (encS false) v6.Disk.Sectors) v6.Disk.Sectors.length, .lst false 2 (fl (enc_TWrite false) v6.Disk.Cache) v6.Disk.Cache.length, .int .i64 v6.Segs, .lst false 4 (fl (enc_TSeg false) v6.Used) v6.Used.length, .int .i64 v6.NextGen, .int .i64 v6.NextSeq, .int .i64 v6.Stamp, .int .i64 v6.NextValid], 0⟩, some ⟨[.lst false 1 (fl (encS false) v7.Disk.Sectors) v7.Disk.Sectors.length, .lst false 2 (fl (enc_TWrite false) v7.Disk.Cache) v7.Disk.Cache.length, .int .i64 v7.Segs, .lst false 4 (fl (enc_TSeg false) v7.Used) v7.Used.length, .int .i64 v7.NextGen, .int .i64 v7.NextSeq, .int .i64 v7.Stamp, .int .i64 v7.NextValid], 0⟩]) rfl rfl ?_
          refine RW.cond_f rfl ?_
          refine RW.skip ?_
          refine RW.seq ?_
          refine RW.sdrw ?_
          refine rdraw.op rfl rfl ?_
          refine rdraw.op rfl rfl ?_
          obtain ⟨v11, e11, h16⟩ := bindS h15
          refine rdraw.call rfl rfl rfl (CallW.val (r' := .agg (enc_TLog false v11)) ok_laws_toLog (law_laws_toLog e11) (.cons (DFL.agg (.cons (.lst ekS) (.cons (.lst ek_TWrite) (.cons .int (.cons (.lst ek_TSeg) (.cons .int (.cons .int (.cons .int (.cons .int .nil))))))))) .nil) (ek_TLog.flag _).agg ⟨rfl, ?_⟩)
          obtain ⟨v12, e12, h17⟩ := bindS h16
          refine rdraw.call rfl rfl rfl (CallW.val (r' := .bool v12) ok_laws_eqLog (law_laws_eqLog e12) (.cons (DFL.agg (.cons (.lst ekS) (.cons (.lst ek_TWrite) (.cons .int (.cons (.lst ek_TSeg) (.cons .int (.cons .int (.cons .int (.cons .int .nil))))))))) (.cons (.dat (.agg (ek_TLog.dat false _))) .nil)) .refl ⟨rfl, ?_⟩)
          cases hb : v12
          · have h18 := iteBF h17 hb
            refine rdraw.op rfl rfl ?_
            refine rdraw.done ?_
            refine RW.cond_t rfl ?_
            refine RW.sreg ?_
            refine rl.run 1 rfl ?_
            refine rl.done ?_
            refine RW.ret ?_
            cases h18
            exact RRet.mk rfl .bool (by first | decide | simp)
          · have h19 := iteBT h17 hb
            refine rdraw.op rfl rfl ?_
            refine rdraw.done ?_
            refine RW.cond_f rfl ?_
            refine RW.skip ?_
            refine RW.sreg ?_
            refine rl.run 1 rfl ?_
            refine rl.done ?_
            refine RW.ret ?_
            cases h19
            exact RRet.mk rfl .bool (by first | decide | simp)
      · have h20 := iteBT h10 hb
        refine rl.done ?_
        refine RW.cond_t rfl ?_
        refine RW.sreg ?_
        refine rl.run 1 rfl ?_
        refine rl.done ?_
        refine RW.keep [4] (a' := [(4, .bool false)]) (H' := [some ⟨[.lst false 1 (fl (encS false) x0.Disk.Sectors) x0.Disk.Sectors.length, .lst false 2 (fl (enc_TWrite false) x0.Disk.Cache) x0.Disk.Cache.length, .int .i64 x0.Segs, .lst false 4 (fl (enc_TSeg false) x0.Used) x0.Used.length, .int .i64 x0.NextGen, .int .i64 x0.NextSeq, .int .i64 x0.Stamp, .int .i64 x0.NextValid], 0⟩, some ⟨[.lst false 1 (fl (encS false) x1.Disk.Sectors) x1.Disk.Sectors.length, .lst false 2 (fl (enc_TWrite false) x1.Disk.Cache) x1.Disk.Cache.length, .int .i64 x1.Segs, .lst false 4 (fl (enc_TSeg false) x1.Used) x1.Used.length, .int .i64 x1.NextGen, .int .i64 x1.NextSeq, .int .i64 x1.Stamp, .int .i64 x1.NextValid], 0⟩, some ⟨[.lst false 1 (fl (encS false) v6.Disk.Sectors) v6.Disk.Sectors.length, .lst false 2 (fl (enc_TWrite false) v6.Disk.Cache) v6.Disk.Cache.length, .int .i64 v6.Segs, .lst false 4 (fl (enc_TSeg false) v6.Used) v6.Used.length, .int .i64 v6.NextGen, .int .i64 v6.NextSeq, .int .i64 v6.Stamp, .int .i64 v6.NextValid], 0⟩, some ⟨[.lst false 1 (fl (encS false) v7.Disk.Sectors) v7.Disk.Sectors.length, .lst false 2 (fl (enc_TWrite false) v7.Disk.Cache) v7.Disk.Cache.length, .int .i64 v7.Segs, .lst false 4 (fl (enc_TSeg false) v7.Used) v7.Used.length, .int .i64 v7.NextGen, .int .i64 v7.NextSeq, .int .i64 v7.Stamp, .int .i64 v7.NextValid], 0⟩]) rfl rfl ?_
        refine RW.ret ?_
        cases h20
        exact RRet.mk rfl .bool (by first | decide | simp)
    · have h21 := iteBT h3 hb
      refine rl.done ?_
      refine RW.cond_t rfl ?_
      refine RW.sreg ?_
      refine rl.run 1 rfl ?_
      refine rl.done ?_
      refine RW.ret ?_
      cases h21
      exact RRet.mk rfl .bool (by first | decide | simp)
  · have h22 := iteBT h1 hb
    refine rl.done ?_
    refine RW.cond_t rfl ?_
    refine RW.sreg ?_
    refine rl.run 1 rfl ?_
    refine rl.done ?_
    refine RW.ret ?_
    cases h22
    exact RRet.mk rfl .bool (by first | decide | simp)
end Go.Proofs.Ytgdcbjoaoagbpaa.V
