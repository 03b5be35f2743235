/- What a call comes to. -/
import Derived.Test.YtgdcbjoaoagbpaaXT
import Derived.Test.YtgdcbjoaoagbpaaXU
namespace Go.Proofs.Ytgdcbjoaoagbpaa.V
open Go Go.Proofs Go.RowKit
set_option maxRecDepth 100000
theorem law_laws_szRec {x0 : TRec} {x1 : Int} {r : Int} (hF : F_laws_szRec x0 x1 = some r) : PCalls Try.prog 123 [.agg (enc_TRec false x0), .int .i64 x1] (.int .i64 r) := by
  refine PCalls.of_r k_laws_szRec rfl ?_
  unfold F_laws_szRec at hF
  refine RW.sreg ?_
  refine rl.run 2 rfl ?_
  refine rl.done ?_
  refine RW.sreg ?_
  refine rl.run 6 rfl ?_
  refine rl.done ?_
  refine RW.seq ?_
  refine RW.sreg ?_
  refine rl.run 1 rfl ?_
  refine rl.gen rfl rfl fun b hb => ?_
  cases b
  · have h1 := iteBF hF hb
    refine rl.done ?_
    refine RW.cond_f rfl ?_
    refine RW.skip ?_
    refine RW.sreg ?_
    refine rl.run 6 rfl ?_
    refine rl.done ?_
    refine RW.keep [1, 2] (a' := [(1, .int .i64 (w64 ((w64 (x1 - (x0.User.length : Int))) - (x0.Name.length : Int)))), (2, .ptr 0 0)]) (H' := [some ⟨[.int .i64 x0.Kind, .int .i64 x0.Valid, .int .i64 x0.Uid, .int .i64 x0.Next, .int .i64 x0.Flags, .str x0.User, .str x0.Name, .str x0.Text], 0⟩]) rfl rfl ?_
    refine RW.seq ?_
    refine RW.sreg ?_
    refine rl.run 1 rfl ?_
    refine rl.gen rfl rfl fun b hb => ?_
    cases b
    · have h2 := iteBF h1 hb
      refine rl.done ?_
      refine RW.cond_f rfl ?_
      refine RW.skip ?_
      refine RW.sreg ?_
      refine rl.run 6 rfl ?_
      refine rl.done ?_
      refine RW.seq ?_
      refine RW.sreg ?_
      refine rl.run 1 rfl ?_
      refine rl.gen rfl rfl fun b hb => ?_
      cases b
      · have h3 := iteBF h2 hb
        refine rl.done ?_
        refine RW.cond_f rfl ?_
        refine RW.skip ?_
        refine RW.sreg ?_
        refine rl.run 2 rfl ?_
        refine rl.done ?_
        refine RW.keep [4] (a' := [(4, .int .i64 (w64 ((w64 ((w64 (x1 - (x0.User.length : Int))) - (x0.Name.length : Int))) - (x0.Text.length : Int))))]) (H' := [some ⟨[.int .i64 x0.Kind, .int .i64 x0.Valid, .int .i64 x0.Uid, .int .i64 x0.Next, .int .i64 x0.Flags, .str x0.User, .str x0.Name, .str x0.Text], 0⟩]) rfl rfl ?_
        refine RW.ret ?_
        cases h3
        exact RRet.mk rfl .int (by first | decide | simp)
      · have h4 := iteBT h2 hb
        refine rl.done ?_
        refine RW.cond_t rfl ?_
        refine RW.sreg ?_
        refine rl.run 1 rfl ?_
        refine rl.done ?_
        refine RW.keep [4] (a' := [(4, .int .i64 (-1))]) (H' := [some ⟨[.int .i64 x0.Kind, .int .i64 x0.Valid, .int .i64 x0.Uid, .int .i64 x0.Next, .int .i64 x0.Flags, .str x0.User, .str x0.Name, .str x0.Text], 0⟩]) rfl rfl ?_
        refine RW.ret ?_
        cases h4
        exact RRet.mk rfl .int (by first | decide | simp)
    · have h5 := iteBT h1 hb
      refine rl.done ?_
      refine RW.cond_t rfl ?_
      refine RW.sreg ?_
      refine rl.run 1 rfl ?_
      refine rl.done ?_
      refine RW.ret ?_
      cases h5
      exact RRet.mk rfl .int (by first | decide | simp)
  · have h6 := iteBT hF hb
    refine rl.done ?_
    refine RW.cond_t rfl ?_
    refine RW.sreg ?_
    refine rl.run 1 rfl ?_
    refine rl.done ?_
    refine RW.ret ?_
    cases h6
    exact RRet.mk rfl .int (by first | decide | simp)
theorem law_laws_szItem {x0 : TItem} {x1 : Int} {r : Int} (hF : F_laws_szItem x0 x1 = some r) : PCalls Try.prog 67 [.agg (enc_TItem false x0), .int .i64 x1] (.int .i64 r) := by
  refine PCalls.of_r k_laws_szItem rfl ?_
  unfold F_laws_szItem at hF
  refine RW.sreg ?_
  refine rl.run 2 rfl ?_
  refine rl.done ?_
  refine RW.sreg ?_
  refine rl.run 3 rfl ?_
  obtain ⟨v1, e1, h1⟩ := bindS hF
  refine rl.call rfl rfl rfl (CallW.val (r' := .int .i64 v1) ok_laws_szRec (law_laws_szRec e1) (.cons (DFL.agg (.cons .int (.cons .int (.cons .int (.cons .int (.cons .int (.cons .str (.cons .str (.cons .str .nil))))))))) (.cons .int .nil)) .refl ?_)
  refine rl.run 1 rfl ?_
  refine rl.done ?_
  refine RW.seq ?_
  refine RW.sreg ?_
  refine rl.run 1 rfl ?_
  refine rl.gen rfl rfl fun b hb => ?_
  cases b
  · have h2 := iteBF h1 hb
    refine rl.done ?_
    refine RW.cond_f rfl ?_
    refine RW.skip ?_
    refine RW.sreg ?_
    refine rl.run 2 rfl ?_
    refine rl.done ?_
    refine RW.ret ?_
    cases h2
    exact RRet.mk rfl .int (by first | decide | simp)
  · have h3 := iteBT h1 hb
    refine rl.done ?_
    refine RW.cond_t rfl ?_
    refine RW.sreg ?_
    refine rl.run 1 rfl ?_
    refine rl.done ?_
    refine RW.ret ?_
    cases h3
    exact RRet.mk rfl .int (by first | decide | simp)
theorem law_laws_szItemS {x0 : List TItem} {x1 : Int} {r : Int} (hF : F_laws_szItemS x0 x1 = some r) : PCalls Try.prog 17 [.lst false 9 (fl (enc_TItem false) x0) x0.length, .int .i64 x1] (.int .i64 r) := by
  refine PCalls.of_r k_laws_szItemS rfl ?_
  unfold F_laws_szItemS at hF
  refine RW.sreg ?_
  refine rl.run 1 rfl ?_
  refine rl.done ?_
  refine RW.sreg ?_
  refine rl.run 5 rfl ?_
  refine rl.done ?_
  refine RW.seq ?_
  refine RW.sreg ?_
  refine rl.run 1 rfl ?_
  refine rl.gen rfl rfl fun b hb => ?_
  cases b
  · have h1 := iteBF hF hb
    refine rl.done ?_
    refine RW.cond_f rfl ?_
    refine RW.skip ?_
    refine RW.seq ?_
    refine RW.sreg ?_
    refine rl.run 1 rfl ?_
    refine rl.done ?_
    obtain ⟨y5, ey5, h3⟩ := bindS h1
    refine RW.cutq (σ := Int) (fun y2 => [(1, .int .i64 y2)]) (fun y2 => []) (fun y => y5 = .inr y) (fun _ _ _ _ g h => RW.gh g h) ?_ ?_
    · refine RW.blk ?_
      refine RW.iter (σ := Int × Int) ey5 (fun s1 => [(0, .lst false 9 (fl (enc_TItem false) x0) x0.length), (1, .int .i64 s1.1), (5, .int .i64 s1.2)]) (fun s1 => []) (Gh.ren0 [] .nil rfl (.cons rfl (.dat (ek_TItem.rlst)) (.cons rfl (.dat .int) (.cons rfl (.dat .int) .nil)))) (fun s1 B o hS2 hB2 hE2 => ?_)
      unfold S_laws_szItemS_1 at hS2
      refine RW.seq ?_
      refine RW.sreg ?_
      refine rl.run 3 rfl ?_
      refine rl.gen rfl rfl fun b hb => ?_
      cases b
      · have h4 := iteBF hS2 hb
        refine rl.done ?_
        refine RW.cond_f rfl ?_
        refine RW.exit ?_
        refine blkA_eq ?_
        cases h4
        exact ⟨_, (hE2 _ rfl).symm, (Gh.ren0 [] .nil rfl (.cons rfl (.dat .int) .nil))⟩
      · have h5 := iteBT hS2 hb
        refine rl.done ?_
        refine RW.cond_t rfl ?_
        refine RW.skip ?_
        refine RW.seq ?_
        refine RW.blk ?_
        refine RW.sreg ?_
        refine rl.run 2 rfl ?_
        obtain ⟨v3, e3, h6⟩ := bindS h5
        refine rl.op (x_ia_lst (enc := enc_TItem) (o := false) rfl rfl rfl e3) ?_
        refine rl.op (x_ld_ela (off' := 0) (vs := (enc_TItem false v3)) ek_TItem rfl e3 rfl rfl rfl) ?_
        refine rl.run 1 rfl ?_
        obtain ⟨v4, e4, h7⟩ := bindS h6
        refine rl.call rfl rfl rfl (CallW.val (r' := .int .i64 v4) ok_laws_szItem (law_laws_szItem e4) (.cons (.dat (.agg (ek_TItem.dat false _))) (.cons .int .nil)) .refl ?_)
        refine rl.run 1 rfl ?_
        refine rl.done ?_
        refine RW.sreg ?_
        refine rl.run 1 rfl ?_
        refine rl.gen rfl rfl fun b hb => ?_
        cases b
        · have h8 := iteBF h7 hb
          refine rl.done ?_
          refine RW.keep [0, 1, 5, 25] (a' := [(0, .lst false 9 (fl (enc_TItem false) x0) x0.length), (1, .int .i64 v4), (5, .int .i64 s1.2), (25, .bool false)]) (H' := []) rfl rfl ?_
          refine RW.cond_f rfl ?_
          refine RW.skip ?_
          refine RW.reg ?_
          refine rl.run 3 rfl ?_
          refine rl.done ?_
          cases h8
          exact hB2 _ rfl _ _ (Gh.ren0 [] .nil rfl (.cons rfl (.dat (ek_TItem.rlst)) (.cons rfl (.dat .int) (.cons rfl (.dat .int) .nil))))
        · have h9 := iteBT h7 hb
          refine rl.done ?_
          refine RW.keep [0, 1, 5, 25] (a' := [(0, .lst false 9 (fl (enc_TItem false) x0) x0.length), (1, .int .i64 v4), (5, .int .i64 s1.2), (25, .bool true)]) (H' := []) rfl rfl ?_
          refine RW.cond_t rfl ?_
          refine RW.sreg ?_
          refine rl.run 1 rfl ?_
          refine rl.done ?_
          refine RW.ret ?_
          cases h9
          have h10 := elimL h3 (hE2 _ rfl)
          cases h10
          exact RRet.mk rfl .int (by first | decide | simp)
    · intro y2 hC
      have h3 := elimR h3 hC
      refine RW.sreg ?_
      refine rl.run 2 rfl ?_
      refine rl.done ?_
      refine RW.ret ?_
      cases h3
      exact RRet.mk rfl .int (by first | decide | simp)
  · have h11 := iteBT hF hb
    refine rl.done ?_
    refine RW.cond_t rfl ?_
    refine RW.sreg ?_
    refine rl.run 1 rfl ?_
    refine rl.done ?_
    refine RW.ret ?_
    cases h11
    exact RRet.mk rfl .int (by first | decide | simp)
theorem law_spec_l01In {x0 : Int} {x1 : Int} {x2 : Int} {r : Bool} (hF : F_spec_l01In x0 x1 x2 = some r) : PCalls Try.prog 113 [.int .i64 x0, .int .i64 x1, .int .i64 x2] (.bool r) := by
  refine PCalls.of_r k_spec_l01In rfl ?_
  unfold F_spec_l01In at hF
  refine RW.sreg ?_
  refine rl.run 1 rfl ?_
  refine rl.done ?_
  refine RW.sreg ?_
  refine rl.run 2 rfl ?_
  refine rl.gen rfl rfl fun b hb => ?_
  cases b
  · have h1 := iteBF hF hb
    refine rl.run 6 rfl ?_
    refine rl.done ?_
    refine RW.keep [6] (a' := [(6, .bool false)]) (H' := []) rfl rfl ?_
    refine RW.ret ?_
    cases h1
    exact RRet.mk rfl .bool (by first | decide | simp)
  · have h2 := iteBT hF hb
    refine rl.run 6 rfl ?_
    refine rl.done ?_
    refine RW.keep [6] (a' := [(6, .bool (decide (x0 ≤ x2)))]) (H' := []) rfl rfl ?_
    refine RW.ret ?_
    cases h2
    exact RRet.mk rfl .bool (by first | decide | simp)
theorem law_spec_WordOk {x0 : List UInt8} {r : Bool} (hF : F_spec_WordOk x0 = some r) : PCalls Try.prog 189 [.str x0] (.bool r) := by
  refine PCalls.of_r k_spec_WordOk rfl ?_
  unfold F_spec_WordOk at hF
  refine RW.sreg ?_
  refine rl.run 1 rfl ?_
  refine rl.done ?_
  refine RW.seq ?_
  refine RW.sreg ?_
  refine rl.run 1 rfl ?_
  refine rl.done ?_
  obtain ⟨y6, ey6, h2⟩ := bindS hF
  refine RW.cutq (σ := Unit) (fun y2 => [(0, .str x0)]) (fun y2 => []) (fun y => y6 = .inr y) (fun _ _ _ _ g h => RW.gh g h) ?_ ?_
  · refine RW.blk ?_
    refine RW.iter (σ := Int) ey6 (fun s1 => [(0, .str x0), (3, .int .i64 s1)]) (fun s1 => []) (Gh.ren0 [] .nil rfl (.cons rfl (.dat .str) (.cons rfl (.dat .int) .nil))) (fun s1 B o hS1 hB1 hE1 => ?_)
    unfold S_spec_WordOk_1 at hS1
    refine RW.seq ?_
    refine RW.sreg ?_
    refine rl.run 3 rfl ?_
    refine rl.gen rfl rfl fun b hb => ?_
    cases b
    · have h3 := iteBF hS1 hb
      refine rl.done ?_
      refine RW.cond_f rfl ?_
      refine RW.exit ?_
      refine blkA_eq ?_
      cases h3
      exact ⟨_, (hE1 _ rfl).symm, (Gh.ren0 [] .nil rfl (.cons rfl (.dat .str) .nil))⟩
    · have h4 := iteBT hS1 hb
      refine rl.done ?_
      refine RW.cond_t rfl ?_
      refine RW.skip ?_
      refine RW.seq ?_
      refine RW.blk ?_
      refine RW.seq ?_
      obtain ⟨y3, ey3, h5⟩ := bindS h4
      refine RW.cutq (σ := Bool) (fun y3 => [(0, .str x0), (3, .int .i64 s1), (19, .bool y3)]) (fun y3 => []) (fun y => y3 = y) (fun _ _ _ _ g h => RW.gh g h) ?_ ?_
      · refine RW.reg ?_
        refine rl.run 2 rfl ?_
        obtain ⟨v4, e4, h6⟩ := bindS ey3
        refine rl.op (x_idx rfl rfl e4) ?_
        refine rl.gen rfl rfl fun b hb => ?_
        cases b
        · have h7 := iteBF h6 hb
          refine rl.run 3 rfl ?_
          obtain ⟨v5, e5, h8⟩ := bindS h7
          refine rl.gop rfl (x_idx rfl rfl e5) ?_
          refine rl.gen rfl rfl fun b hb => ?_
          cases b
          · have h9 := iteBF h8 hb
            refine rl.run 1 rfl ?_
            refine rl.done ?_
            cases h9
            exact ⟨_, rfl, (Gh.ren0 [] .nil rfl (.cons rfl (.dat .str) (.cons rfl (.dat .int) (.cons rfl (.dat .bool) .nil))))⟩
          · have h10 := iteBT h8 hb
            refine rl.run 1 rfl ?_
            refine rl.done ?_
            cases h10
            exact ⟨_, rfl, (Gh.ren0 [] .nil rfl (.cons rfl (.dat .str) (.cons rfl (.dat .int) (.cons rfl (.dat .bool) .nil))))⟩
        · have h11 := iteBT h6 hb
          refine rl.run 6 rfl ?_
          refine rl.done ?_
          cases h11
          exact ⟨_, rfl, (Gh.ren0 [] .nil rfl (.cons rfl (.dat .str) (.cons rfl (.dat .int) (.cons rfl (.dat .bool) .nil))))⟩
      · intro y hC
        subst hC
        cases hb : y3
        · have h12 := iteBF h5 hb
          refine RW.cond_f rfl ?_
          refine RW.skip ?_
          refine RW.reg ?_
          refine rl.run 3 rfl ?_
          refine rl.done ?_
          cases h12
          exact hB1 _ rfl _ _ (Gh.ren0 [] .nil rfl (.cons rfl (.dat .str) (.cons rfl (.dat .int) .nil)))
        · have h13 := iteBT h5 hb
          refine RW.cond_t rfl ?_
          refine RW.sreg ?_
          refine rl.run 1 rfl ?_
          refine rl.done ?_
          refine RW.ret ?_
          cases h13
          have h14 := elimL h2 (hE1 _ rfl)
          cases h14
          exact RRet.mk rfl .bool (by first | decide | simp)
  · intro y2 hC
    have h2 := elimR h2 hC
    refine RW.sreg ?_
    refine rl.run 2 rfl ?_
    obtain ⟨v7, e7, h15⟩ := bindS h2
    refine rl.call rfl rfl rfl (CallW.val (r' := .bool v7) ok_spec_l01In (law_spec_l01In e7) (.cons .int (.cons .int (.cons .int .nil))) .refl ?_)
    refine rl.run 1 rfl ?_
    refine rl.done ?_
    refine RW.ret ?_
    cases h15
    exact RRet.mk rfl .bool (by first | decide | simp)
theorem law_spec_RecOk {x0 : TRec} {r : Bool} (hF : F_spec_RecOk x0 = some r) : PCalls Try.prog 124 [.agg (enc_TRec false x0)] (.bool r) := by
  refine PCalls.of_r k_spec_RecOk rfl ?_
  unfold F_spec_RecOk at hF
  refine RW.sreg ?_
  refine rl.run 2 rfl ?_
  refine rl.done ?_
  refine RW.seq ?_
  refine RW.seq ?_
  obtain ⟨y1, ey1, h1⟩ := bindS hF
  refine RW.cutq (σ := Bool) (fun y1 => [(1, .ptr 0 0), (15, .bool y1)]) (fun y1 => [some ⟨[.int .i64 x0.Kind, .int .i64 x0.Valid, .int .i64 x0.Uid, .int .i64 x0.Next, .int .i64 x0.Flags, .str x0.User, .str x0.Name, .str x0.Text], 0⟩]) (fun y => y1 = y) (fun _ _ _ _ g h => RW.gh g h) ?_ ?_
  · refine RW.reg ?_
    refine rl.run 2 rfl ?_
    obtain ⟨v2, e2, h2⟩ := bindS ey1
    refine rl.call rfl rfl rfl (CallW.val (r' := .bool v2) ok_spec_l01In (law_spec_l01In e2) (.cons .int (.cons .int (.cons .int .nil))) .refl ?_)
    cases hb : v2
    · have h3 := iteBF h2 hb
      refine rl.run 7 rfl ?_
      refine rl.done ?_
      cases h3
      exact ⟨_, rfl, (Gh.ren0 [0] (.cells rfl rfl (.keep .int (.keep .int (.keep .int (.keep .int (.keep .int (.keep .str (.keep .str (.keep .str .nil)))))))) .nil) rfl (.cons rfl (.ptr rfl) (.cons rfl (.dat .bool) .nil)))⟩
    · have h4 := iteBT h2 hb
      refine rl.run 4 rfl ?_
      obtain ⟨v3, e3, h5⟩ := bindS h4
      refine rl.call rfl rfl rfl (CallW.val (r' := .bool v3) ok_spec_l01In (law_spec_l01In e3) (.cons .int (.cons .int (.cons .int .nil))) .refl ?_)
      cases hb : v3
      · have h6 := iteBF h5 hb
        refine rl.run 2 rfl ?_
        refine rl.done ?_
        cases h6
        exact ⟨_, rfl, (Gh.ren0 [0] (.cells rfl rfl (.keep .int (.keep .int (.keep .int (.keep .int (.keep .int (.keep .str (.keep .str (.keep .str .nil)))))))) .nil) rfl (.cons rfl (.ptr rfl) (.cons rfl (.dat .bool) .nil)))⟩
      · have h7 := iteBT h5 hb
        refine rl.run 2 rfl ?_
        refine rl.done ?_
        cases h7
        exact ⟨_, rfl, (Gh.ren0 [0] (.cells rfl rfl (.keep .int (.keep .int (.keep .int (.keep .int (.keep .int (.keep .str (.keep .str (.keep .str .nil)))))))) .nil) rfl (.cons rfl (.ptr rfl) (.cons rfl (.dat .bool) .nil)))⟩
  · intro y hC
    subst hC
    cases hb : y1
    · have h8 := iteBF h1 hb
      refine RW.cond_f rfl ?_
      refine RW.skip ?_
      refine RW.sreg ?_
      refine rl.run 2 rfl ?_
      refine rl.gen rfl rfl fun b hb => ?_
      cases b
      · have h9 := iteBF h8 hb
        refine rl.run 1 rfl ?_
        refine rl.done ?_
        refine RW.seq ?_
        obtain ⟨y4, ey4, h10⟩ := bindS h9
        refine RW.cutq (σ := Bool) (fun y4 => [(1, .ptr 0 0), (3, .bool false), (4, .bool y4)]) (fun y4 => [some ⟨[.int .i64 x0.Kind, .int .i64 x0.Valid, .int .i64 x0.Uid, .int .i64 x0.Next, .int .i64 x0.Flags, .str x0.User, .str x0.Name, .str x0.Text], 0⟩]) (fun y => y4 = y) (fun _ _ _ _ g h => RW.gh g h) ?_ ?_
        · refine RW.reg ?_
          refine rl.run 2 rfl ?_
          refine rl.gen rfl rfl fun b hb => ?_
          cases b
          · have h11 := iteBF ey4 hb
            refine rl.run 3 rfl ?_
            refine rl.gen rfl rfl fun b hb => ?_
            cases b
            · have h12 := iteBF h11 hb
              refine rl.run 4 rfl ?_
              refine rl.gen rfl rfl fun b hb => ?_
              cases b
              · have h13 := iteBF h12 hb
                refine rl.run 2 rfl ?_
                refine rl.done ?_
                cases h13
                exact ⟨_, rfl, (Gh.ren0 [0] (.cells rfl rfl (.keep .int (.keep .int (.keep .int (.keep .int (.keep .int (.keep .str (.keep .str (.keep .str .nil)))))))) .nil) rfl (.cons rfl (.ptr rfl) (.cons rfl (.dat .bool) (.cons rfl (.dat .bool) .nil))))⟩
              · have h14 := iteBT h12 hb
                refine rl.run 2 rfl ?_
                refine rl.done ?_
                cases h14
                exact ⟨_, rfl, (Gh.ren0 [0] (.cells rfl rfl (.keep .int (.keep .int (.keep .int (.keep .int (.keep .int (.keep .str (.keep .str (.keep .str .nil)))))))) .nil) rfl (.cons rfl (.ptr rfl) (.cons rfl (.dat .bool) (.cons rfl (.dat .bool) .nil))))⟩
            · have h15 := iteBT h11 hb
              refine rl.run 7 rfl ?_
              refine rl.done ?_
              cases h15
              exact ⟨_, rfl, (Gh.ren0 [0] (.cells rfl rfl (.keep .int (.keep .int (.keep .int (.keep .int (.keep .int (.keep .str (.keep .str (.keep .str .nil)))))))) .nil) rfl (.cons rfl (.ptr rfl) (.cons rfl (.dat .bool) (.cons rfl (.dat .bool) .nil))))⟩
          · have h16 := iteBT ey4 hb
            refine rl.run 11 rfl ?_
            refine rl.done ?_
            cases h16
            exact ⟨_, rfl, (Gh.ren0 [0] (.cells rfl rfl (.keep .int (.keep .int (.keep .int (.keep .int (.keep .int (.keep .str (.keep .str (.keep .str .nil)))))))) .nil) rfl (.cons rfl (.ptr rfl) (.cons rfl (.dat .bool) (.cons rfl (.dat .bool) .nil))))⟩
        · intro y hC
          subst hC
          refine RW.seq ?_
          obtain ⟨y5, ey5, h17⟩ := bindS h10
          refine RW.cutq (σ := Bool) (fun y5 => [(1, .ptr 0 0), (3, .bool false), (4, .bool y4), (5, .bool y5)]) (fun y5 => [some ⟨[.int .i64 x0.Kind, .int .i64 x0.Valid, .int .i64 x0.Uid, .int .i64 x0.Next, .int .i64 x0.Flags, .str x0.User, .str x0.Name, .str x0.Text], 0⟩]) (fun y => y5 = y) (fun _ _ _ _ g h => RW.gh g h) ?_ ?_
          · refine RW.reg ?_
            refine rl.run 2 rfl ?_
            refine rl.gen rfl rfl fun b hb => ?_
            cases b
            · have h18 := iteBF ey5 hb
              refine rl.run 3 rfl ?_
              refine rl.gen rfl rfl fun b hb => ?_
              cases b
              · have h19 := iteBF h18 hb
                refine rl.run 2 rfl ?_
                refine rl.done ?_
                cases h19
                exact ⟨_, rfl, (Gh.ren0 [0] (.cells rfl rfl (.keep .int (.keep .int (.keep .int (.keep .int (.keep .int (.keep .str (.keep .str (.keep .str .nil)))))))) .nil) rfl (.cons rfl (.ptr rfl) (.cons rfl (.dat .bool) (.cons rfl (.dat .bool) (.cons rfl (.dat .bool) .nil)))))⟩
              · have h20 := iteBT h18 hb
                refine rl.run 2 rfl ?_
                refine rl.done ?_
                cases h20
                exact ⟨_, rfl, (Gh.ren0 [0] (.cells rfl rfl (.keep .int (.keep .int (.keep .int (.keep .int (.keep .int (.keep .str (.keep .str (.keep .str .nil)))))))) .nil) rfl (.cons rfl (.ptr rfl) (.cons rfl (.dat .bool) (.cons rfl (.dat .bool) (.cons rfl (.dat .bool) .nil)))))⟩
            · have h21 := iteBT ey5 hb
              refine rl.run 6 rfl ?_
              refine rl.done ?_
              cases h21
              exact ⟨_, rfl, (Gh.ren0 [0] (.cells rfl rfl (.keep .int (.keep .int (.keep .int (.keep .int (.keep .int (.keep .str (.keep .str (.keep .str .nil)))))))) .nil) rfl (.cons rfl (.ptr rfl) (.cons rfl (.dat .bool) (.cons rfl (.dat .bool) (.cons rfl (.dat .bool) .nil)))))⟩
          · intro y hC
            subst hC
            refine RW.seq ?_
            refine RW.seq ?_
            obtain ⟨y6, ey6, h22⟩ := bindS h17
            refine RW.cutq (σ := Bool) (fun y6 => [(1, .ptr 0 0), (4, .bool y4), (5, .bool y5), (77, .bool y6)]) (fun y6 => [some ⟨[.int .i64 x0.Kind, .int .i64 x0.Valid, .int .i64 x0.Uid, .int .i64 x0.Next, .int .i64 x0.Flags, .str x0.User, .str x0.Name, .str x0.Text], 0⟩]) (fun y => y6 = y) (fun _ _ _ _ g h => RW.gh g h) ?_ ?_
            · refine RW.reg ?_
              refine rl.run 25 rfl ?_
              refine rl.gen rfl rfl fun b hb => ?_
              cases b
              · have h23 := iteBF ey6 hb
                refine rl.run 3 rfl ?_
                refine rl.gen rfl rfl fun b hb => ?_
                cases b
                · have h24 := iteBF h23 hb
                  refine rl.run 4 rfl ?_
                  refine rl.gen rfl rfl fun b hb => ?_
                  cases b
                  · have h25 := iteBF h24 hb
                    refine rl.run 3 rfl ?_
                    refine rl.done ?_
                    cases h25
                    exact ⟨_, rfl, (Gh.ren0 [0] (.cells rfl rfl (.keep .int (.keep .int (.keep .int (.keep .int (.keep .int (.keep .str (.keep .str (.keep .str .nil)))))))) .nil) rfl (.cons rfl (.ptr rfl) (.cons rfl (.dat .bool) (.cons rfl (.dat .bool) (.cons rfl (.dat .bool) .nil)))))⟩
                  · have h26 := iteBT h24 hb
                    refine rl.run 3 rfl ?_
                    refine rl.done ?_
                    cases h26
                    exact ⟨_, rfl, (Gh.ren0 [0] (.cells rfl rfl (.keep .int (.keep .int (.keep .int (.keep .int (.keep .int (.keep .str (.keep .str (.keep .str .nil)))))))) .nil) rfl (.cons rfl (.ptr rfl) (.cons rfl (.dat .bool) (.cons rfl (.dat .bool) (.cons rfl (.dat .bool) .nil)))))⟩
                · have h27 := iteBT h23 hb
                  refine rl.run 8 rfl ?_
                  refine rl.done ?_
                  cases h27
                  exact ⟨_, rfl, (Gh.ren0 [0] (.cells rfl rfl (.keep .int (.keep .int (.keep .int (.keep .int (.keep .int (.keep .str (.keep .str (.keep .str .nil)))))))) .nil) rfl (.cons rfl (.ptr rfl) (.cons rfl (.dat .bool) (.cons rfl (.dat .bool) (.cons rfl (.dat .bool) .nil)))))⟩
              · have h28 := iteBT ey6 hb
                refine rl.run 12 rfl ?_
                refine rl.done ?_
                cases h28
                exact ⟨_, rfl, (Gh.ren0 [0] (.cells rfl rfl (.keep .int (.keep .int (.keep .int (.keep .int (.keep .int (.keep .str (.keep .str (.keep .str .nil)))))))) .nil) rfl (.cons rfl (.ptr rfl) (.cons rfl (.dat .bool) (.cons rfl (.dat .bool) (.cons rfl (.dat .bool) .nil)))))⟩
            · intro y hC
              subst hC
              cases hb : y6
              · have h29 := iteBF h22 hb
                refine RW.cond_f rfl ?_
                refine RW.skip ?_
                refine RW.seq ?_
                refine RW.seq ?_
                obtain ⟨y7, ey7, h30⟩ := bindS h29
                refine RW.cutq (σ := Bool) (fun y7 => [(1, .ptr 0 0), (5, .bool y5), (93, .bool y7)]) (fun y7 => [some ⟨[.int .i64 x0.Kind, .int .i64 x0.Valid, .int .i64 x0.Uid, .int .i64 x0.Next, .int .i64 x0.Flags, .str x0.User, .str x0.Name, .str x0.Text], 0⟩]) (fun y => y7 = y) (fun _ _ _ _ g h => RW.gh g h) ?_ ?_
                · refine RW.reg ?_
                  refine rl.run 2 rfl ?_
                  cases hb : y4
                  · have h31 := iteBF ey7 hb
                    refine rl.run 11 rfl ?_
                    refine rl.gen rfl rfl fun b hb => ?_
                    cases b
                    · have h32 := iteBF h31 hb
                      refine rl.run 2 rfl ?_
                      refine rl.done ?_
                      cases h32
                      exact ⟨_, rfl, (Gh.ren0 [0] (.cells rfl rfl (.keep .int (.keep .int (.keep .int (.keep .int (.keep .int (.keep .str (.keep .str (.keep .str .nil)))))))) .nil) rfl (.cons rfl (.ptr rfl) (.cons rfl (.dat .bool) (.cons rfl (.dat .bool) .nil))))⟩
                    · have h33 := iteBT h31 hb
                      refine rl.run 2 rfl ?_
                      refine rl.done ?_
                      cases h33
                      exact ⟨_, rfl, (Gh.ren0 [0] (.cells rfl rfl (.keep .int (.keep .int (.keep .int (.keep .int (.keep .int (.keep .str (.keep .str (.keep .str .nil)))))))) .nil) rfl (.cons rfl (.ptr rfl) (.cons rfl (.dat .bool) (.cons rfl (.dat .bool) .nil))))⟩
                  · have h34 := iteBT ey7 hb
                    refine rl.run 2 rfl ?_
                    obtain ⟨v8, e8, h35⟩ := bindS h34
                    refine rl.call rfl rfl rfl (CallW.val (r' := .bool v8) ok_spec_l01In (law_spec_l01In e8) (.cons .int (.cons .int (.cons .int .nil))) .refl ?_)
                    cases hb : v8
                    · have h36 := iteBF h35 hb
                      refine rl.run 11 rfl ?_
                      refine rl.done ?_
                      cases h36
                      exact ⟨_, rfl, (Gh.ren0 [0] (.cells rfl rfl (.keep .int (.keep .int (.keep .int (.keep .int (.keep .int (.keep .str (.keep .str (.keep .str .nil)))))))) .nil) rfl (.cons rfl (.ptr rfl) (.cons rfl (.dat .bool) (.cons rfl (.dat .bool) .nil))))⟩
                    · have h37 := iteBT h35 hb
                      refine rl.run 11 rfl ?_
                      refine rl.done ?_
                      cases h37
                      exact ⟨_, rfl, (Gh.ren0 [0] (.cells rfl rfl (.keep .int (.keep .int (.keep .int (.keep .int (.keep .int (.keep .str (.keep .str (.keep .str .nil)))))))) .nil) rfl (.cons rfl (.ptr rfl) (.cons rfl (.dat .bool) (.cons rfl (.dat .bool) .nil))))⟩
                · intro y hC
                  subst hC
                  cases hb : y7
                  · have h38 := iteBF h30 hb
                    refine RW.cond_f rfl ?_
                    refine RW.skip ?_
                    refine RW.seq ?_
                    refine RW.seq ?_
                    obtain ⟨y9, ey9, h39⟩ := bindS h38
                    refine RW.cutq (σ := Bool) (fun y9 => [(1, .ptr 0 0), (109, .bool y9)]) (fun y9 => [some ⟨[.int .i64 x0.Kind, .int .i64 x0.Valid, .int .i64 x0.Uid, .int .i64 x0.Next, .int .i64 x0.Flags, .str x0.User, .str x0.Name, .str x0.Text], 0⟩]) (fun y => y9 = y) (fun _ _ _ _ g h => RW.gh g h) ?_ ?_
                    · refine RW.reg ?_
                      refine rl.run 2 rfl ?_
                      cases hb : y5
                      · have h40 := iteBF ey9 hb
                        refine rl.run 11 rfl ?_
                        refine rl.gen rfl rfl fun b hb => ?_
                        cases b
                        · have h41 := iteBF h40 hb
                          refine rl.run 2 rfl ?_
                          refine rl.done ?_
                          cases h41
                          exact ⟨_, rfl, (Gh.ren0 [0] (.cells rfl rfl (.keep .int (.keep .int (.keep .int (.keep .int (.keep .int (.keep .str (.keep .str (.keep .str .nil)))))))) .nil) rfl (.cons rfl (.ptr rfl) (.cons rfl (.dat .bool) .nil)))⟩
                        · have h42 := iteBT h40 hb
                          refine rl.run 2 rfl ?_
                          refine rl.done ?_
                          cases h42
                          exact ⟨_, rfl, (Gh.ren0 [0] (.cells rfl rfl (.keep .int (.keep .int (.keep .int (.keep .int (.keep .int (.keep .str (.keep .str (.keep .str .nil)))))))) .nil) rfl (.cons rfl (.ptr rfl) (.cons rfl (.dat .bool) .nil)))⟩
                      · have h43 := iteBT ey9 hb
                        refine rl.run 2 rfl ?_
                        obtain ⟨v10, e10, h44⟩ := bindS h43
                        refine rl.call rfl rfl rfl (CallW.val (r' := .bool v10) ok_spec_l01In (law_spec_l01In e10) (.cons .int (.cons .int (.cons .int .nil))) .refl ?_)
                        cases hb : v10
                        · have h45 := iteBF h44 hb
                          refine rl.run 11 rfl ?_
                          refine rl.done ?_
                          cases h45
                          exact ⟨_, rfl, (Gh.ren0 [0] (.cells rfl rfl (.keep .int (.keep .int (.keep .int (.keep .int (.keep .int (.keep .str (.keep .str (.keep .str .nil)))))))) .nil) rfl (.cons rfl (.ptr rfl) (.cons rfl (.dat .bool) .nil)))⟩
                        · have h46 := iteBT h44 hb
                          refine rl.run 11 rfl ?_
                          refine rl.done ?_
                          cases h46
                          exact ⟨_, rfl, (Gh.ren0 [0] (.cells rfl rfl (.keep .int (.keep .int (.keep .int (.keep .int (.keep .int (.keep .str (.keep .str (.keep .str .nil)))))))) .nil) rfl (.cons rfl (.ptr rfl) (.cons rfl (.dat .bool) .nil)))⟩
                    · intro y hC
                      subst hC
                      cases hb : y9
                      · have h47 := iteBF h39 hb
                        refine RW.cond_f rfl ?_
                        refine RW.skip ?_
                        refine RW.seq ?_
                        refine RW.sreg ?_
                        refine rl.run 2 rfl ?_
                        refine rl.gen rfl rfl fun b hb => ?_
                        cases b
                        · have h48 := iteBF h47 hb
                          refine rl.done ?_
                          refine RW.cond_f rfl ?_
                          refine RW.skip ?_
                          refine RW.sreg ?_
                          refine rl.run 4 rfl ?_
                          refine rl.done ?_
                          refine RW.ret ?_
                          cases h48
                          exact RRet.mk rfl .bool (by first | decide | simp)
                        · have h49 := iteBT h47 hb
                          refine rl.done ?_
                          refine RW.cond_t rfl ?_
                          refine RW.sreg ?_
                          refine rl.run 5 rfl ?_
                          refine rl.done ?_
                          refine RW.ret ?_
                          cases h49
                          exact RRet.mk rfl .bool (by first | decide | simp)
                      · have h50 := iteBT h39 hb
                        refine RW.cond_t rfl ?_
                        refine RW.sreg ?_
                        refine rl.run 1 rfl ?_
                        refine rl.done ?_
                        refine RW.ret ?_
                        cases h50
                        exact RRet.mk rfl .bool (by first | decide | simp)
                  · have h51 := iteBT h30 hb
                    refine RW.cond_t rfl ?_
                    refine RW.sreg ?_
                    refine rl.run 1 rfl ?_
                    refine rl.done ?_
                    refine RW.ret ?_
                    cases h51
                    exact RRet.mk rfl .bool (by first | decide | simp)
              · have h52 := iteBT h22 hb
                refine RW.cond_t rfl ?_
                refine RW.sreg ?_
                refine rl.run 1 rfl ?_
                refine rl.done ?_
                refine RW.ret ?_
                cases h52
                exact RRet.mk rfl .bool (by first | decide | simp)
      · have h53 := iteBT h8 hb
        refine rl.run 1 rfl ?_
        refine rl.done ?_
        refine RW.seq ?_
        obtain ⟨y11, ey11, h54⟩ := bindS h53
        refine RW.cutq (σ := Bool) (fun y11 => [(1, .ptr 0 0), (3, .bool true), (4, .bool y11)]) (fun y11 => [some ⟨[.int .i64 x0.Kind, .int .i64 x0.Valid, .int .i64 x0.Uid, .int .i64 x0.Next, .int .i64 x0.Flags, .str x0.User, .str x0.Name, .str x0.Text], 0⟩]) (fun y => y11 = y) (fun _ _ _ _ g h => RW.gh g h) ?_ ?_
        · refine RW.reg ?_
          refine rl.run 2 rfl ?_
          refine rl.gen rfl rfl fun b hb => ?_
          cases b
          · have h55 := iteBF ey11 hb
            refine rl.run 3 rfl ?_
            refine rl.gen rfl rfl fun b hb => ?_
            cases b
            · have h56 := iteBF h55 hb
              refine rl.run 4 rfl ?_
              refine rl.gen rfl rfl fun b hb => ?_
              cases b
              · have h57 := iteBF h56 hb
                refine rl.run 2 rfl ?_
                refine rl.done ?_
                cases h57
                exact ⟨_, rfl, (Gh.ren0 [0] (.cells rfl rfl (.keep .int (.keep .int (.keep .int (.keep .int (.keep .int (.keep .str (.keep .str (.keep .str .nil)))))))) .nil) rfl (.cons rfl (.ptr rfl) (.cons rfl (.dat .bool) (.cons rfl (.dat .bool) .nil))))⟩
              · have h58 := iteBT h56 hb
                refine rl.run 2 rfl ?_
                refine rl.done ?_
                cases h58
                exact ⟨_, rfl, (Gh.ren0 [0] (.cells rfl rfl (.keep .int (.keep .int (.keep .int (.keep .int (.keep .int (.keep .str (.keep .str (.keep .str .nil)))))))) .nil) rfl (.cons rfl (.ptr rfl) (.cons rfl (.dat .bool) (.cons rfl (.dat .bool) .nil))))⟩
            · have h59 := iteBT h55 hb
              refine rl.run 7 rfl ?_
              refine rl.done ?_
              cases h59
              exact ⟨_, rfl, (Gh.ren0 [0] (.cells rfl rfl (.keep .int (.keep .int (.keep .int (.keep .int (.keep .int (.keep .str (.keep .str (.keep .str .nil)))))))) .nil) rfl (.cons rfl (.ptr rfl) (.cons rfl (.dat .bool) (.cons rfl (.dat .bool) .nil))))⟩
          · have h60 := iteBT ey11 hb
            refine rl.run 11 rfl ?_
            refine rl.done ?_
            cases h60
            exact ⟨_, rfl, (Gh.ren0 [0] (.cells rfl rfl (.keep .int (.keep .int (.keep .int (.keep .int (.keep .int (.keep .str (.keep .str (.keep .str .nil)))))))) .nil) rfl (.cons rfl (.ptr rfl) (.cons rfl (.dat .bool) (.cons rfl (.dat .bool) .nil))))⟩
        · intro y hC
          subst hC
          refine RW.seq ?_
          obtain ⟨y12, ey12, h61⟩ := bindS h54
          refine RW.cutq (σ := Bool) (fun y12 => [(1, .ptr 0 0), (3, .bool true), (4, .bool y11), (5, .bool y12)]) (fun y12 => [some ⟨[.int .i64 x0.Kind, .int .i64 x0.Valid, .int .i64 x0.Uid, .int .i64 x0.Next, .int .i64 x0.Flags, .str x0.User, .str x0.Name, .str x0.Text], 0⟩]) (fun y => y12 = y) (fun _ _ _ _ g h => RW.gh g h) ?_ ?_
          · refine RW.reg ?_
            refine rl.run 2 rfl ?_
            refine rl.gen rfl rfl fun b hb => ?_
            cases b
            · have h62 := iteBF ey12 hb
              refine rl.run 3 rfl ?_
              refine rl.gen rfl rfl fun b hb => ?_
              cases b
              · have h63 := iteBF h62 hb
                refine rl.run 2 rfl ?_
                refine rl.done ?_
                cases h63
                exact ⟨_, rfl, (Gh.ren0 [0] (.cells rfl rfl (.keep .int (.keep .int (.keep .int (.keep .int (.keep .int (.keep .str (.keep .str (.keep .str .nil)))))))) .nil) rfl (.cons rfl (.ptr rfl) (.cons rfl (.dat .bool) (.cons rfl (.dat .bool) (.cons rfl (.dat .bool) .nil)))))⟩
              · have h64 := iteBT h62 hb
                refine rl.run 2 rfl ?_
                refine rl.done ?_
                cases h64
                exact ⟨_, rfl, (Gh.ren0 [0] (.cells rfl rfl (.keep .int (.keep .int (.keep .int (.keep .int (.keep .int (.keep .str (.keep .str (.keep .str .nil)))))))) .nil) rfl (.cons rfl (.ptr rfl) (.cons rfl (.dat .bool) (.cons rfl (.dat .bool) (.cons rfl (.dat .bool) .nil)))))⟩
            · have h65 := iteBT ey12 hb
              refine rl.run 6 rfl ?_
              refine rl.done ?_
              cases h65
              exact ⟨_, rfl, (Gh.ren0 [0] (.cells rfl rfl (.keep .int (.keep .int (.keep .int (.keep .int (.keep .int (.keep .str (.keep .str (.keep .str .nil)))))))) .nil) rfl (.cons rfl (.ptr rfl) (.cons rfl (.dat .bool) (.cons rfl (.dat .bool) (.cons rfl (.dat .bool) .nil)))))⟩
          · intro y hC
            subst hC
            refine RW.seq ?_
            refine RW.seq ?_
            obtain ⟨y13, ey13, h66⟩ := bindS h61
            refine RW.cutq (σ := Bool) (fun y13 => [(1, .ptr 0 0), (4, .bool y11), (5, .bool y12), (77, .bool y13)]) (fun y13 => [some ⟨[.int .i64 x0.Kind, .int .i64 x0.Valid, .int .i64 x0.Uid, .int .i64 x0.Next, .int .i64 x0.Flags, .str x0.User, .str x0.Name, .str x0.Text], 0⟩]) (fun y => y13 = y) (fun _ _ _ _ g h => RW.gh g h) ?_ ?_
            · refine RW.reg ?_
              refine rl.run 4 rfl ?_
              obtain ⟨v14, e14, h67⟩ := bindS ey13
              refine rl.call rfl rfl rfl (CallW.val (r' := .bool v14) ok_spec_WordOk (law_spec_WordOk e14) (.cons .str .nil) .refl ?_)
              cases hb : v14
              · have h68 := iteBF h67 hb
                refine rl.run 33 rfl ?_
                refine rl.done ?_
                cases h68
                exact ⟨_, rfl, (Gh.ren0 [0] (.cells rfl rfl (.keep .int (.keep .int (.keep .int (.keep .int (.keep .int (.keep .str (.keep .str (.keep .str .nil)))))))) .nil) rfl (.cons rfl (.ptr rfl) (.cons rfl (.dat .bool) (.cons rfl (.dat .bool) (.cons rfl (.dat .bool) .nil)))))⟩
              · have h69 := iteBT h67 hb
                refine rl.run 4 rfl ?_
                obtain ⟨v15, e15, h70⟩ := bindS h69
                refine rl.call rfl rfl rfl (CallW.val (r' := .bool v15) ok_spec_WordOk (law_spec_WordOk e15) (.cons .str .nil) .refl ?_)
                cases hb : v15
                · have h71 := iteBF h70 hb
                  refine rl.run 28 rfl ?_
                  refine rl.done ?_
                  cases h71
                  exact ⟨_, rfl, (Gh.ren0 [0] (.cells rfl rfl (.keep .int (.keep .int (.keep .int (.keep .int (.keep .int (.keep .str (.keep .str (.keep .str .nil)))))))) .nil) rfl (.cons rfl (.ptr rfl) (.cons rfl (.dat .bool) (.cons rfl (.dat .bool) (.cons rfl (.dat .bool) .nil)))))⟩
                · have h72 := iteBT h70 hb
                  refine rl.run 5 rfl ?_
                  obtain ⟨v16, e16, h73⟩ := bindS h72
                  refine rl.call rfl rfl rfl (CallW.val (r' := .bool v16) ok_spec_l01In (law_spec_l01In e16) (.cons .int (.cons .int (.cons .int .nil))) .refl ?_)
                  cases hb : v16
                  · have h74 := iteBF h73 hb
                    refine rl.run 22 rfl ?_
                    refine rl.done ?_
                    cases h74
                    exact ⟨_, rfl, (Gh.ren0 [0] (.cells rfl rfl (.keep .int (.keep .int (.keep .int (.keep .int (.keep .int (.keep .str (.keep .str (.keep .str .nil)))))))) .nil) rfl (.cons rfl (.ptr rfl) (.cons rfl (.dat .bool) (.cons rfl (.dat .bool) (.cons rfl (.dat .bool) .nil)))))⟩
                  · have h75 := iteBT h73 hb
                    refine rl.run 22 rfl ?_
                    refine rl.done ?_
                    cases h75
                    exact ⟨_, rfl, (Gh.ren0 [0] (.cells rfl rfl (.keep .int (.keep .int (.keep .int (.keep .int (.keep .int (.keep .str (.keep .str (.keep .str .nil)))))))) .nil) rfl (.cons rfl (.ptr rfl) (.cons rfl (.dat .bool) (.cons rfl (.dat .bool) (.cons rfl (.dat .bool) .nil)))))⟩
            · intro y hC
              subst hC
              cases hb : y13
              · have h76 := iteBF h66 hb
                refine RW.cond_f rfl ?_
                refine RW.skip ?_
                refine RW.seq ?_
                refine RW.seq ?_
                obtain ⟨y17, ey17, h77⟩ := bindS h76
                refine RW.cutq (σ := Bool) (fun y17 => [(1, .ptr 0 0), (5, .bool y12), (93, .bool y17)]) (fun y17 => [some ⟨[.int .i64 x0.Kind, .int .i64 x0.Valid, .int .i64 x0.Uid, .int .i64 x0.Next, .int .i64 x0.Flags, .str x0.User, .str x0.Name, .str x0.Text], 0⟩]) (fun y => y17 = y) (fun _ _ _ _ g h => RW.gh g h) ?_ ?_
                · refine RW.reg ?_
                  refine rl.run 2 rfl ?_
                  cases hb : y11
                  · have h78 := iteBF ey17 hb
                    refine rl.run 11 rfl ?_
                    refine rl.gen rfl rfl fun b hb => ?_
                    cases b
                    · have h79 := iteBF h78 hb
                      refine rl.run 2 rfl ?_
                      refine rl.done ?_
                      cases h79
                      exact ⟨_, rfl, (Gh.ren0 [0] (.cells rfl rfl (.keep .int (.keep .int (.keep .int (.keep .int (.keep .int (.keep .str (.keep .str (.keep .str .nil)))))))) .nil) rfl (.cons rfl (.ptr rfl) (.cons rfl (.dat .bool) (.cons rfl (.dat .bool) .nil))))⟩
                    · have h80 := iteBT h78 hb
                      refine rl.run 2 rfl ?_
                      refine rl.done ?_
                      cases h80
                      exact ⟨_, rfl, (Gh.ren0 [0] (.cells rfl rfl (.keep .int (.keep .int (.keep .int (.keep .int (.keep .int (.keep .str (.keep .str (.keep .str .nil)))))))) .nil) rfl (.cons rfl (.ptr rfl) (.cons rfl (.dat .bool) (.cons rfl (.dat .bool) .nil))))⟩
                  · have h81 := iteBT ey17 hb
                    refine rl.run 2 rfl ?_
                    obtain ⟨v18, e18, h82⟩ := bindS h81
                    refine rl.call rfl rfl rfl (CallW.val (r' := .bool v18) ok_spec_l01In (law_spec_l01In e18) (.cons .int (.cons .int (.cons .int .nil))) .refl ?_)
                    cases hb : v18
                    · have h83 := iteBF h82 hb
                      refine rl.run 11 rfl ?_
                      refine rl.done ?_
                      cases h83
                      exact ⟨_, rfl, (Gh.ren0 [0] (.cells rfl rfl (.keep .int (.keep .int (.keep .int (.keep .int (.keep .int (.keep .str (.keep .str (.keep .str .nil)))))))) .nil) rfl (.cons rfl (.ptr rfl) (.cons rfl (.dat .bool) (.cons rfl (.dat .bool) .nil))))⟩
                    · have h84 := iteBT h82 hb
                      refine rl.run 11 rfl ?_
                      refine rl.done ?_
                      cases h84
                      exact ⟨_, rfl, (Gh.ren0 [0] (.cells rfl rfl (.keep .int (.keep .int (.keep .int (.keep .int (.keep .int (.keep .str (.keep .str (.keep .str .nil)))))))) .nil) rfl (.cons rfl (.ptr rfl) (.cons rfl (.dat .bool) (.cons rfl (.dat .bool) .nil))))⟩
                · intro y hC
                  subst hC
                  cases hb : y17
                  · have h85 := iteBF h77 hb
                    refine RW.cond_f rfl ?_
                    refine RW.skip ?_
                    refine RW.seq ?_
                    refine RW.seq ?_
                    obtain ⟨y19, ey19, h86⟩ := bindS h85
                    refine RW.cutq (σ := Bool) (fun y19 => [(1, .ptr 0 0), (109, .bool y19)]) (fun y19 => [some ⟨[.int .i64 x0.Kind, .int .i64 x0.Valid, .int .i64 x0.Uid, .int .i64 x0.Next, .int .i64 x0.Flags, .str x0.User, .str x0.Name, .str x0.Text], 0⟩]) (fun y => y19 = y) (fun _ _ _ _ g h => RW.gh g h) ?_ ?_
                    · refine RW.reg ?_
                      refine rl.run 2 rfl ?_
                      cases hb : y12
                      · have h87 := iteBF ey19 hb
                        refine rl.run 11 rfl ?_
                        refine rl.gen rfl rfl fun b hb => ?_
                        cases b
                        · have h88 := iteBF h87 hb
                          refine rl.run 2 rfl ?_
                          refine rl.done ?_
                          cases h88
                          exact ⟨_, rfl, (Gh.ren0 [0] (.cells rfl rfl (.keep .int (.keep .int (.keep .int (.keep .int (.keep .int (.keep .str (.keep .str (.keep .str .nil)))))))) .nil) rfl (.cons rfl (.ptr rfl) (.cons rfl (.dat .bool) .nil)))⟩
                        · have h89 := iteBT h87 hb
                          refine rl.run 2 rfl ?_
                          refine rl.done ?_
                          cases h89
                          exact ⟨_, rfl, (Gh.ren0 [0] (.cells rfl rfl (.keep .int (.keep .int (.keep .int (.keep .int (.keep .int (.keep .str (.keep .str (.keep .str .nil)))))))) .nil) rfl (.cons rfl (.ptr rfl) (.cons rfl (.dat .bool) .nil)))⟩
                      · have h90 := iteBT ey19 hb
                        refine rl.run 2 rfl ?_
                        obtain ⟨v20, e20, h91⟩ := bindS h90
                        refine rl.call rfl rfl rfl (CallW.val (r' := .bool v20) ok_spec_l01In (law_spec_l01In e20) (.cons .int (.cons .int (.cons .int .nil))) .refl ?_)
                        cases hb : v20
                        · have h92 := iteBF h91 hb
                          refine rl.run 11 rfl ?_
                          refine rl.done ?_
                          cases h92
                          exact ⟨_, rfl, (Gh.ren0 [0] (.cells rfl rfl (.keep .int (.keep .int (.keep .int (.keep .int (.keep .int (.keep .str (.keep .str (.keep .str .nil)))))))) .nil) rfl (.cons rfl (.ptr rfl) (.cons rfl (.dat .bool) .nil)))⟩
                        · have h93 := iteBT h91 hb
                          refine rl.run 11 rfl ?_
                          refine rl.done ?_
                          cases h93
                          exact ⟨_, rfl, (Gh.ren0 [0] (.cells rfl rfl (.keep .int (.keep .int (.keep .int (.keep .int (.keep .int (.keep .str (.keep .str (.keep .str .nil)))))))) .nil) rfl (.cons rfl (.ptr rfl) (.cons rfl (.dat .bool) .nil)))⟩
                    · intro y hC
                      subst hC
                      cases hb : y19
                      · have h94 := iteBF h86 hb
                        refine RW.cond_f rfl ?_
                        refine RW.skip ?_
                        refine RW.seq ?_
                        refine RW.sreg ?_
                        refine rl.run 2 rfl ?_
                        refine rl.gen rfl rfl fun b hb => ?_
                        cases b
                        · have h95 := iteBF h94 hb
                          refine rl.done ?_
                          refine RW.cond_f rfl ?_
                          refine RW.skip ?_
                          refine RW.sreg ?_
                          refine rl.run 4 rfl ?_
                          refine rl.done ?_
                          refine RW.ret ?_
                          cases h95
                          exact RRet.mk rfl .bool (by first | decide | simp)
                        · have h96 := iteBT h94 hb
                          refine rl.done ?_
                          refine RW.cond_t rfl ?_
                          refine RW.sreg ?_
                          refine rl.run 5 rfl ?_
                          refine rl.done ?_
                          refine RW.ret ?_
                          cases h96
                          exact RRet.mk rfl .bool (by first | decide | simp)
                      · have h97 := iteBT h86 hb
                        refine RW.cond_t rfl ?_
                        refine RW.sreg ?_
                        refine rl.run 1 rfl ?_
                        refine rl.done ?_
                        refine RW.ret ?_
                        cases h97
                        exact RRet.mk rfl .bool (by first | decide | simp)
                  · have h98 := iteBT h77 hb
                    refine RW.cond_t rfl ?_
                    refine RW.sreg ?_
                    refine rl.run 1 rfl ?_
                    refine rl.done ?_
                    refine RW.ret ?_
                    cases h98
                    exact RRet.mk rfl .bool (by first | decide | simp)
              · have h99 := iteBT h66 hb
                refine RW.cond_t rfl ?_
                refine RW.sreg ?_
                refine rl.run 1 rfl ?_
                refine rl.done ?_
                refine RW.ret ?_
                cases h99
                exact RRet.mk rfl .bool (by first | decide | simp)
    · have h100 := iteBT h1 hb
      refine RW.cond_t rfl ?_
      refine RW.sreg ?_
      refine rl.run 1 rfl ?_
      refine rl.done ?_
      refine RW.ret ?_
      cases h100
      exact RRet.mk rfl .bool (by first | decide | simp)
theorem law_spec_ItemsOk {x0 : List TItem} {r : Bool} (hF : F_spec_ItemsOk x0 = some r) : PCalls Try.prog 68 [.lst false 9 (fl (enc_TItem false) x0) x0.length] (.bool r) := by
  refine PCalls.of_r k_spec_ItemsOk rfl ?_
  unfold F_spec_ItemsOk at hF
  refine RW.sreg ?_
  refine rl.run 1 rfl ?_
  refine rl.done ?_
  refine RW.seq ?_
  refine RW.sreg ?_
  refine rl.run 1 rfl ?_
  refine rl.done ?_
  obtain ⟨y16, ey16, h2⟩ := bindS hF
  refine RW.cutq (σ := Unit) (fun y2 => [(0, .lst false 9 (fl (enc_TItem false) x0) x0.length)]) (fun y2 => []) (fun y => y16 = .inr y) (fun _ _ _ _ g h => RW.gh g h) ?_ ?_
  · refine RW.blk ?_
    refine RW.iter (σ := Int) ey16 (fun s1 => [(0, .lst false 9 (fl (enc_TItem false) x0) x0.length), (3, .int .i64 s1)]) (fun s1 => []) (Gh.ren0 [] .nil rfl (.cons rfl (.dat (ek_TItem.rlst)) (.cons rfl (.dat .int) .nil))) (fun s1 B o hS1 hB1 hE1 => ?_)
    unfold S_spec_ItemsOk_1 at hS1
    refine RW.seq ?_
    refine RW.sreg ?_
    refine rl.run 3 rfl ?_
    refine rl.gen rfl rfl fun b hb => ?_
    cases b
    · have h3 := iteBF hS1 hb
      refine rl.done ?_
      refine RW.cond_f rfl ?_
      refine RW.exit ?_
      refine blkA_eq ?_
      cases h3
      exact ⟨_, (hE1 _ rfl).symm, (Gh.ren0 [] .nil rfl (.cons rfl (.dat (ek_TItem.rlst)) .nil))⟩
    · have h4 := iteBT hS1 hb
      refine rl.done ?_
      refine RW.cond_t rfl ?_
      refine RW.skip ?_
      refine RW.seq ?_
      refine RW.blk ?_
      refine RW.seq ?_
      refine RW.seq ?_
      obtain ⟨y3, ey3, h5⟩ := bindS h4
      refine RW.cutq (σ := Bool) (fun y3 => [(0, .lst false 9 (fl (enc_TItem false) x0) x0.length), (3, .int .i64 s1), (26, .bool y3)]) (fun y3 => []) (fun y => y3 = y) (fun _ _ _ _ g h => RW.gh g h) ?_ ?_
      · refine RW.reg ?_
        refine rl.run 2 rfl ?_
        obtain ⟨v4, e4, h6⟩ := bindS ey3
        refine rl.op (x_ia_lst (enc := enc_TItem) (o := false) rfl rfl rfl e4) ?_
        refine rl.run 1 rfl ?_
        refine rl.op (x_ld_el (off' := 0) ek_TItem rfl e4 rfl rfl rfl) ?_
        obtain ⟨v5, e5, h7⟩ := bindS h6
        refine rl.call rfl rfl rfl (CallW.val (r' := .bool v5) ok_spec_l01In (law_spec_l01In e5) (.cons .int (.cons .int (.cons .int .nil))) .refl ?_)
        cases hb : v5
        · have h8 := iteBF h7 hb
          refine rl.run 10 rfl ?_
          refine rl.done ?_
          cases h8
          exact ⟨_, rfl, (Gh.ren0 [] .nil rfl (.cons rfl (.dat (ek_TItem.rlst)) (.cons rfl (.dat .int) (.cons rfl (.dat .bool) .nil))))⟩
        · have h9 := iteBT h7 hb
          refine rl.run 4 rfl ?_
          obtain ⟨v6, e6, h10⟩ := bindS h9
          refine rl.gop rfl (x_ia_lst (enc := enc_TItem) (o := false) rfl rfl rfl e6) ?_
          refine rl.run 1 rfl ?_
          refine rl.gop rfl (x_ld_ela (off' := 1) (vs := (enc_TRec false v6.Rec)) ek_TItem rfl e6 rfl rfl rfl) ?_
          obtain ⟨v7, e7, h11⟩ := bindS h10
          refine rl.call rfl rfl rfl (CallW.val (r' := .bool v7) ok_spec_RecOk (law_spec_RecOk e7) (.cons (.dat (.agg (ek_TRec.dat false _))) .nil) .refl ?_)
          cases hb : v7
          · have h12 := iteBF h11 hb
            refine rl.run 2 rfl ?_
            refine rl.done ?_
            cases h12
            exact ⟨_, rfl, (Gh.ren0 [] .nil rfl (.cons rfl (.dat (ek_TItem.rlst)) (.cons rfl (.dat .int) (.cons rfl (.dat .bool) .nil))))⟩
          · have h13 := iteBT h11 hb
            refine rl.run 2 rfl ?_
            refine rl.done ?_
            cases h13
            exact ⟨_, rfl, (Gh.ren0 [] .nil rfl (.cons rfl (.dat (ek_TItem.rlst)) (.cons rfl (.dat .int) (.cons rfl (.dat .bool) .nil))))⟩
      · intro y hC
        subst hC
        cases hb : y3
        · have h14 := iteBF h5 hb
          refine RW.cond_f rfl ?_
          refine RW.skip ?_
          refine RW.sreg ?_
          refine rl.run 1 rfl ?_
          refine rl.done ?_
          obtain ⟨y15, ey15, h16⟩ := bindS h14
          refine RW.cutq (σ := Unit) (fun y9 => [(0, .lst false 9 (fl (enc_TItem false) x0) x0.length), (3, .int .i64 s1)]) (fun y9 => []) (fun y => y15 = .inr y) (fun _ _ _ _ g h => RW.gh g h) ?_ ?_
          · refine RW.blk ?_
            refine RW.iter (σ := Int) ey15 (fun s8 => [(0, .lst false 9 (fl (enc_TItem false) x0) x0.length), (3, .int .i64 s1), (4, .int .i64 s8)]) (fun s8 => []) (Gh.ren0 [] .nil rfl (.cons rfl (.dat (ek_TItem.rlst)) (.cons rfl (.dat .int) (.cons rfl (.dat .int) .nil)))) (fun s8 B o hS15 hB15 hE15 => ?_)
            unfold S_spec_ItemsOk_2 at hS15
            refine RW.seq ?_
            refine RW.sreg ?_
            refine rl.run 2 rfl ?_
            refine rl.gen rfl rfl fun b hb => ?_
            cases b
            · have h17 := iteBF hS15 hb
              refine rl.done ?_
              refine RW.cond_f rfl ?_
              refine RW.exit ?_
              refine blkA_eq ?_
              cases h17
              exact ⟨_, (hE15 _ rfl).symm, (Gh.ren0 [] .nil rfl (.cons rfl (.dat (ek_TItem.rlst)) (.cons rfl (.dat .int) .nil)))⟩
            · have h18 := iteBT hS15 hb
              refine rl.done ?_
              refine RW.cond_t rfl ?_
              refine RW.skip ?_
              refine RW.seq ?_
              refine RW.blk ?_
              refine RW.seq ?_
              obtain ⟨y10, ey10, h19⟩ := bindS h18
              refine RW.cutq (σ := Bool) (fun y10 => [(0, .lst false 9 (fl (enc_TItem false) x0) x0.length), (3, .int .i64 s1), (4, .int .i64 s8), (53, .bool y10)]) (fun y10 => []) (fun y => y10 = y) (fun _ _ _ _ g h => RW.gh g h) ?_ ?_
              · refine RW.drw ?_
                refine rdraw.op rfl rfl ?_
                refine rdraw.op rfl rfl ?_
                obtain ⟨v11, e11, h20⟩ := bindS ey10
                refine rdraw.op rfl (x_ia_lst (enc := enc_TItem) (o := false) rfl rfl rfl e11) ?_
                refine rdraw.op rfl rfl ?_
                refine rdraw.op rfl (x_ld_el (off' := 0) ek_TItem rfl e11 rfl rfl rfl) ?_
                refine rdraw.op rfl rfl ?_
                refine rdraw.op rfl rfl ?_
                obtain ⟨v12, e12, h21⟩ := bindS h20
                refine rdraw.op rfl (x_ia_lst (enc := enc_TItem) (o := false) rfl rfl rfl e12) ?_
                refine rdraw.op rfl rfl ?_
                refine rdraw.op rfl (x_ld_el (off' := 0) ek_TItem rfl e12 rfl rfl rfl) ?_
                refine rdraw.gen rfl rfl fun b hb => ?_
                cases b
                · have h22 := iteBF h21 hb
                  refine rdraw.op rfl rfl ?_
                  refine rdraw.off rfl ?_
                  refine rdraw.off rfl ?_
                  refine rdraw.off rfl ?_
                  refine rdraw.off rfl ?_
                  refine rdraw.off rfl ?_
                  refine rdraw.off rfl ?_
                  refine rdraw.off rfl ?_
                  refine rdraw.off rfl ?_
                  refine rdraw.off rfl ?_
                  refine rdraw.op rfl rfl ?_
                  refine rdraw.done ?_
                  cases h22
                  exact ⟨_, rfl, (Gh.ren0 [] .nil rfl (.cons rfl (.dat (ek_TItem.rlst)) (.cons rfl (.dat .int) (.cons rfl (.dat .int) (.cons rfl (.dat .bool) .nil)))))⟩
                · have h23 := iteBT h21 hb
                  refine rdraw.op rfl rfl ?_
                  refine rdraw.op rfl rfl ?_
                  refine rdraw.op rfl rfl ?_
                  obtain ⟨v13, e13, h24⟩ := bindS h23
                  refine rdraw.op rfl (x_ia_lst (enc := enc_TItem) (o := false) rfl rfl rfl e13) ?_
                  refine rdraw.op rfl (x_ld_ela (off' := 0) (vs := (enc_TItem false v13)) ek_TItem rfl e13 rfl rfl rfl) ?_
                  refine rdraw.op rfl rfl ?_
                  refine rdraw.op rfl rfl ?_
                  obtain ⟨v14, e14, h25⟩ := bindS h24
                  refine rdraw.op rfl (x_ia_lst (enc := enc_TItem) (o := false) rfl rfl rfl e14) ?_
                  refine rdraw.op rfl (x_ld_ela (off' := 0) (vs := (enc_TItem false v14)) ek_TItem rfl e14 rfl rfl rfl) ?_
                  refine rdraw.gen rfl rfl fun b hb => ?_
                  cases b
                  · have h26 := iteBF h25 hb
                    refine rdraw.op rfl rfl ?_
                    refine rdraw.done ?_
                    cases h26
                    exact ⟨_, rfl, (Gh.ren0 [] .nil rfl (.cons rfl (.dat (ek_TItem.rlst)) (.cons rfl (.dat .int) (.cons rfl (.dat .int) (.cons rfl (.dat .bool) .nil)))))⟩
                  · have h27 := iteBT h25 hb
                    refine rdraw.op rfl rfl ?_
                    refine rdraw.done ?_
                    cases h27
                    exact ⟨_, rfl, (Gh.ren0 [] .nil rfl (.cons rfl (.dat (ek_TItem.rlst)) (.cons rfl (.dat .int) (.cons rfl (.dat .int) (.cons rfl (.dat .bool) .nil)))))⟩
              · intro y hC
                subst hC
                cases hb : y10
                · have h28 := iteBF h19 hb
                  refine RW.cond_f rfl ?_
                  refine RW.skip ?_
                  refine RW.reg ?_
                  refine rl.run 3 rfl ?_
                  refine rl.done ?_
                  cases h28
                  exact hB15 _ rfl _ _ (Gh.ren0 [] .nil rfl (.cons rfl (.dat (ek_TItem.rlst)) (.cons rfl (.dat .int) (.cons rfl (.dat .int) .nil))))
                · have h29 := iteBT h19 hb
                  refine RW.cond_t rfl ?_
                  refine RW.sreg ?_
                  refine rl.run 1 rfl ?_
                  refine rl.done ?_
                  refine RW.ret ?_
                  cases h29
                  have h30 := elimL h16 (hE15 _ rfl)
                  cases h30
                  have h31 := elimL h2 (hE1 _ rfl)
                  cases h31
                  exact RRet.mk rfl .bool (by first | decide | simp)
          · intro y9 hC
            have h16 := elimR h16 hC
            refine RW.reg ?_
            refine rl.run 3 rfl ?_
            refine rl.done ?_
            cases h16
            exact hB1 _ rfl _ _ (Gh.ren0 [] .nil rfl (.cons rfl (.dat (ek_TItem.rlst)) (.cons rfl (.dat .int) .nil)))
        · have h32 := iteBT h5 hb
          refine RW.cond_t rfl ?_
          refine RW.sreg ?_
          refine rl.run 1 rfl ?_
          refine rl.done ?_
          refine RW.ret ?_
          cases h32
          have h33 := elimL h2 (hE1 _ rfl)
          cases h33
          exact RRet.mk rfl .bool (by first | decide | simp)
  · intro y2 hC
    have h2 := elimR h2 hC
    refine RW.sreg ?_
    refine rl.run 4 rfl ?_
    refine rl.done ?_
    refine RW.ret ?_
    cases h2
    exact RRet.mk rfl .bool (by first | decide | simp)
theorem law_spec_l08Bigger {x0 : TItem} {x1 : TItem} {r : Bool} (hF : F_spec_l08Bigger x0 x1 = some r) : PCalls Try.prog 125 [.agg (enc_TItem false x0), .agg (enc_TItem false x1)] (.bool r) := by
  refine PCalls.of_r k_spec_l08Bigger rfl ?_
  unfold F_spec_l08Bigger at hF
  refine RW.sreg ?_
  refine rl.run 3 rfl ?_
  refine rl.done ?_
  refine RW.seq ?_
  obtain ⟨y1, ey1, h1⟩ := bindS hF
  refine RW.cutq (σ := Bool) (fun y1 => [(4, .bool y1)]) (fun y1 => []) (fun y => y1 = y) (fun _ _ _ _ g h => RW.gh g h) ?_ ?_
  · refine RW.reg ?_
    refine rl.run 6 rfl ?_
    refine rl.gen rfl rfl fun b hb => ?_
    cases b
    · have h2 := iteBF ey1 hb
      refine rl.run 7 rfl ?_
      refine rl.gen rfl rfl fun b hb => ?_
      cases b
      · have h3 := iteBF h2 hb
        refine rl.run 9 rfl ?_
        refine rl.done ?_
        cases h3
        exact ⟨_, rfl, (Gh.ren0 [] .nil rfl (.cons rfl (.dat .bool) .nil))⟩
      · have h4 := iteBT h2 hb
        refine rl.run 9 rfl ?_
        refine rl.done ?_
        cases h4
        exact ⟨_, rfl, (Gh.ren0 [] .nil rfl (.cons rfl (.dat .bool) .nil))⟩
    · have h5 := iteBT ey1 hb
      refine rl.run 17 rfl ?_
      refine rl.done ?_
      cases h5
      exact ⟨_, rfl, (Gh.ren0 [] .nil rfl (.cons rfl (.dat .bool) .nil))⟩
  · intro y hC
    subst hC
    refine RW.ret ?_
    cases h1
    exact RRet.mk rfl .bool (by first | decide | simp)
theorem law_spec_l07Best {x0 : List TItem} {x1 : Int} {x2 : Int} {x3 : Int} {r : TItem × Bool} (hF : F_spec_l07Best x0 x1 x2 x3 = some r) : PCalls Try.prog 127 [.lst false 9 (fl (enc_TItem false) x0) x0.length, .int .i64 x1, .int .i64 x2, .int .i64 x3] (.tup [.agg (enc_TItem true r.1), .bool r.2]) := by
  refine PCalls.of_r k_spec_l07Best rfl ?_
  unfold F_spec_l07Best at hF
  refine RW.sreg ?_
  refine rl.run 2 rfl ?_
  refine rl.done ?_
  refine RW.sreg ?_
  refine rl.run 3 rfl ?_
  refine rl.done ?_
  refine RW.sreg ?_
  refine rl.run 1 rfl ?_
  refine rl.done ?_
  refine RW.seq ?_
  refine RW.sreg ?_
  refine rl.run 1 rfl ?_
  refine rl.done ?_
  obtain ⟨y5, ey5, h2⟩ := bindS hF
  refine RW.cutq (σ := Bool × Int × Int × Int × Int × Int × Int × (List UInt8) × (List UInt8) × (List UInt8)) (fun y2 => [(8, .ptr 0 0), (10, .ptr 1 0), (11, .bool y2.1)]) (fun y2 => [some ⟨[.int .i64 0, .int .i64 0, .int .i64 0, .int .i64 0, .int .i64 0, .int .i64 0, .str [], .str [], .str []], 0⟩, some ⟨[.int .i64 y2.2.1, .int .i64 y2.2.2.1, .int .i64 y2.2.2.2.1, .int .i64 y2.2.2.2.2.1, .int .i64 y2.2.2.2.2.2.1, .int .i64 y2.2.2.2.2.2.2.1, .str y2.2.2.2.2.2.2.2.1, .str y2.2.2.2.2.2.2.2.2.1, .str y2.2.2.2.2.2.2.2.2.2], 0⟩]) (fun y => y5 = y) (fun _ _ _ _ g h => RW.gh g h) ?_ ?_
  · refine RW.blk ?_
    refine RW.iter (σ := Bool × Int × Int × Int × Int × Int × Int × Int × (List UInt8) × (List UInt8) × (List UInt8)) ey5 (fun s1 => [(0, .lst false 9 (fl (enc_TItem false) x0) x0.length), (1, .int .i64 x1), (2, .int .i64 x2), (3, .int .i64 x3), (8, .ptr 0 0), (10, .ptr 1 0), (11, .bool s1.1), (12, .int .i64 s1.2.1)]) (fun s1 => [some ⟨[.int .i64 0, .int .i64 0, .int .i64 0, .int .i64 0, .int .i64 0, .int .i64 0, .str [], .str [], .str []], 0⟩, some ⟨[.int .i64 s1.2.2.1, .int .i64 s1.2.2.2.1, .int .i64 s1.2.2.2.2.1, .int .i64 s1.2.2.2.2.2.1, .int .i64 s1.2.2.2.2.2.2.1, .int .i64 s1.2.2.2.2.2.2.2.1, .str s1.2.2.2.2.2.2.2.2.1, .str s1.2.2.2.2.2.2.2.2.2.1, .str s1.2.2.2.2.2.2.2.2.2.2], 0⟩]) (Gh.ren0 [0, 1] (.cells rfl rfl (.keep .int (.keep .int (.keep .int (.keep .int (.keep .int (.keep .int (.keep .str (.keep .str (.keep .str .nil))))))))) (.cells rfl rfl (.keep .int (.keep .int (.keep .int (.keep .int (.keep .int (.keep .int (.keep .str (.keep .str (.keep .str .nil))))))))) .nil)) rfl (.cons rfl (.dat (ek_TItem.rlst)) (.cons rfl (.dat .int) (.cons rfl (.dat .int) (.cons rfl (.dat .int) (.cons rfl (.ptr rfl) (.cons rfl (.ptr rfl) (.cons rfl (.dat .bool) (.cons rfl (.dat .int) .nil))))))))) (fun s1 B o hS1 hB1 hE1 => ?_)
    unfold S_spec_l07Best_1 at hS1
    refine RW.seq ?_
    refine RW.sreg ?_
    refine rl.run 3 rfl ?_
    refine rl.gen rfl rfl fun b hb => ?_
    cases b
    · have h3 := iteBF hS1 hb
      refine rl.done ?_
      refine RW.cond_f rfl ?_
      refine RW.exit ?_
      refine blkA_eq ?_
      cases h3
      exact ⟨_, (hE1 _ rfl).symm, (Gh.ren0 [0, 1] (.cells rfl rfl (.keep .int (.keep .int (.keep .int (.keep .int (.keep .int (.keep .int (.keep .str (.keep .str (.keep .str .nil))))))))) (.cells rfl rfl (.keep .int (.keep .int (.keep .int (.keep .int (.keep .int (.keep .int (.keep .str (.keep .str (.keep .str .nil))))))))) .nil)) rfl (.cons rfl (.ptr rfl) (.cons rfl (.ptr rfl) (.cons rfl (.dat .bool) .nil))))⟩
    · have h4 := iteBT hS1 hb
      refine rl.done ?_
      refine RW.cond_t rfl ?_
      refine RW.skip ?_
      refine RW.seq ?_
      refine RW.blk ?_
      refine RW.sreg ?_
      refine rl.run 2 rfl ?_
      obtain ⟨v3, e3, h5⟩ := bindS h4
      refine rl.op (x_ia_lst (enc := enc_TItem) (o := false) rfl rfl rfl e3) ?_
      refine rl.op (x_ld_ela (off' := 0) (vs := (enc_TItem false v3)) ek_TItem rfl e3 rfl rfl rfl) ?_
      refine rl.run 2 rfl ?_
      refine rl.done ?_
      refine RW.seq ?_
      obtain ⟨y4, ey4, h6⟩ := bindS h5
      refine RW.cutq (σ := Bool) (fun y4 => [(0, .lst false 9 (fl (enc_TItem false) x0) x0.length), (1, .int .i64 x1), (2, .int .i64 x2), (3, .int .i64 x3), (8, .ptr 0 0), (10, .ptr 1 0), (11, .bool s1.1), (12, .int .i64 s1.2.1), (13, .ptr 2 0), (54, .bool y4)]) (fun y4 => [some ⟨[.int .i64 0, .int .i64 0, .int .i64 0, .int .i64 0, .int .i64 0, .int .i64 0, .str [], .str [], .str []], 0⟩, some ⟨[.int .i64 s1.2.2.1, .int .i64 s1.2.2.2.1, .int .i64 s1.2.2.2.2.1, .int .i64 s1.2.2.2.2.2.1, .int .i64 s1.2.2.2.2.2.2.1, .int .i64 s1.2.2.2.2.2.2.2.1, .str s1.2.2.2.2.2.2.2.2.1, .str s1.2.2.2.2.2.2.2.2.2.1, .str s1.2.2.2.2.2.2.2.2.2.2], 0⟩, some ⟨[.int .i64 v3.Seq, .int .i64 v3.Rec.Kind, .int .i64 v3.Rec.Valid, .int .i64 v3.Rec.Uid, .int .i64 v3.Rec.Next, .int .i64 v3.Rec.Flags, .str v3.Rec.User, .str v3.Rec.Name, .str v3.Rec.Text], 0⟩]) (fun y => y4 = y) (fun _ _ _ _ g h => RW.gh g h) ?_ ?_
      · refine RW.reg ?_
        refine rl.run 4 rfl ?_
        refine rl.gen rfl rfl fun b hb => ?_
        cases b
        · have h7 := iteBF ey4 hb
          refine rl.run 25 rfl ?_
          refine rl.done ?_
          cases h7
          exact ⟨_, rfl, (Gh.ren0 [0, 1, 2] (.cells rfl rfl (.keep .int (.keep .int (.keep .int (.keep .int (.keep .int (.keep .int (.keep .str (.keep .str (.keep .str .nil))))))))) (.cells rfl rfl (.keep .int (.keep .int (.keep .int (.keep .int (.keep .int (.keep .int (.keep .str (.keep .str (.keep .str .nil))))))))) (.cells rfl rfl (.keep .int (.keep .int (.keep .int (.keep .int (.keep .int (.keep .int (.keep .str (.keep .str (.keep .str .nil))))))))) .nil))) rfl (.cons rfl (.dat (ek_TItem.rlst)) (.cons rfl (.dat .int) (.cons rfl (.dat .int) (.cons rfl (.dat .int) (.cons rfl (.ptr rfl) (.cons rfl (.ptr rfl) (.cons rfl (.dat .bool) (.cons rfl (.dat .int) (.cons rfl (.ptr rfl) (.cons rfl (.dat .bool) .nil)))))))))))⟩
        · have h8 := iteBT ey4 hb
          refine rl.run 5 rfl ?_
          refine rl.gen rfl rfl fun b hb => ?_
          cases b
          · have h9 := iteBF h8 hb
            refine rl.run 19 rfl ?_
            refine rl.done ?_
            cases h9
            exact ⟨_, rfl, (Gh.ren0 [0, 1, 2] (.cells rfl rfl (.keep .int (.keep .int (.keep .int (.keep .int (.keep .int (.keep .int (.keep .str (.keep .str (.keep .str .nil))))))))) (.cells rfl rfl (.keep .int (.keep .int (.keep .int (.keep .int (.keep .int (.keep .int (.keep .str (.keep .str (.keep .str .nil))))))))) (.cells rfl rfl (.keep .int (.keep .int (.keep .int (.keep .int (.keep .int (.keep .int (.keep .str (.keep .str (.keep .str .nil))))))))) .nil))) rfl (.cons rfl (.dat (ek_TItem.rlst)) (.cons rfl (.dat .int) (.cons rfl (.dat .int) (.cons rfl (.dat .int) (.cons rfl (.ptr rfl) (.cons rfl (.ptr rfl) (.cons rfl (.dat .bool) (.cons rfl (.dat .int) (.cons rfl (.ptr rfl) (.cons rfl (.dat .bool) .nil)))))))))))⟩
          · have h10 := iteBT h8 hb
            refine rl.run 6 rfl ?_
            refine rl.gen rfl rfl fun b hb => ?_
            cases b
            · have h11 := iteBF h10 hb
              refine rl.run 12 rfl ?_
              refine rl.done ?_
              cases h11
              exact ⟨_, rfl, (Gh.ren0 [0, 1, 2] (.cells rfl rfl (.keep .int (.keep .int (.keep .int (.keep .int (.keep .int (.keep .int (.keep .str (.keep .str (.keep .str .nil))))))))) (.cells rfl rfl (.keep .int (.keep .int (.keep .int (.keep .int (.keep .int (.keep .int (.keep .str (.keep .str (.keep .str .nil))))))))) (.cells rfl rfl (.keep .int (.keep .int (.keep .int (.keep .int (.keep .int (.keep .int (.keep .str (.keep .str (.keep .str .nil))))))))) .nil))) rfl (.cons rfl (.dat (ek_TItem.rlst)) (.cons rfl (.dat .int) (.cons rfl (.dat .int) (.cons rfl (.dat .int) (.cons rfl (.ptr rfl) (.cons rfl (.ptr rfl) (.cons rfl (.dat .bool) (.cons rfl (.dat .int) (.cons rfl (.ptr rfl) (.cons rfl (.dat .bool) .nil)))))))))))⟩
            · have h12 := iteBT h10 hb
              refine rl.run 5 rfl ?_
              cases hb : (!s1.1)
              · have h13 := iteBF h12 hb
                refine rl.run 4 rfl ?_
                refine rl.gen rfl rfl fun b hb => ?_
                cases b
                · have h14 := iteBF h13 hb
                  refine rl.run 2 rfl ?_
                  refine rl.done ?_
                  cases h14
                  exact ⟨_, rfl, (Gh.ren0 [0, 1, 2] (.cells rfl rfl (.keep .int (.keep .int (.keep .int (.keep .int (.keep .int (.keep .int (.keep .str (.keep .str (.keep .str .nil))))))))) (.cells rfl rfl (.keep .int (.keep .int (.keep .int (.keep .int (.keep .int (.keep .int (.keep .str (.keep .str (.keep .str .nil))))))))) (.cells rfl rfl (.keep .int (.keep .int (.keep .int (.keep .int (.keep .int (.keep .int (.keep .str (.keep .str (.keep .str .nil))))))))) .nil))) rfl (.cons rfl (.dat (ek_TItem.rlst)) (.cons rfl (.dat .int) (.cons rfl (.dat .int) (.cons rfl (.dat .int) (.cons rfl (.ptr rfl) (.cons rfl (.ptr rfl) (.cons rfl (.dat .bool) (.cons rfl (.dat .int) (.cons rfl (.ptr rfl) (.cons rfl (.dat .bool) .nil)))))))))))⟩
                · have h15 := iteBT h13 hb
                  refine rl.run 2 rfl ?_
                  refine rl.done ?_
                  cases h15
                  exact ⟨_, rfl, (Gh.ren0 [0, 1, 2] (.cells rfl rfl (.keep .int (.keep .int (.keep .int (.keep .int (.keep .int (.keep .int (.keep .str (.keep .str (.keep .str .nil))))))))) (.cells rfl rfl (.keep .int (.keep .int (.keep .int (.keep .int (.keep .int (.keep .int (.keep .str (.keep .str (.keep .str .nil))))))))) (.cells rfl rfl (.keep .int (.keep .int (.keep .int (.keep .int (.keep .int (.keep .int (.keep .str (.keep .str (.keep .str .nil))))))))) .nil))) rfl (.cons rfl (.dat (ek_TItem.rlst)) (.cons rfl (.dat .int) (.cons rfl (.dat .int) (.cons rfl (.dat .int) (.cons rfl (.ptr rfl) (.cons rfl (.ptr rfl) (.cons rfl (.dat .bool) (.cons rfl (.dat .int) (.cons rfl (.ptr rfl) (.cons rfl (.dat .bool) .nil)))))))))))⟩
              · have h16 := iteBT h12 hb
                refine rl.run 7 rfl ?_
                refine rl.done ?_
                cases h16
                exact ⟨_, rfl, (Gh.ren0 [0, 1, 2] (.cells rfl rfl (.keep .int (.keep .int (.keep .int (.keep .int (.keep .int (.keep .int (.keep .str (.keep .str (.keep .str .nil))))))))) (.cells rfl rfl (.keep .int (.keep .int (.keep .int (.keep .int (.keep .int (.keep .int (.keep .str (.keep .str (.keep .str .nil))))))))) (.cells rfl rfl (.keep .int (.keep .int (.keep .int (.keep .int (.keep .int (.keep .int (.keep .str (.keep .str (.keep .str .nil))))))))) .nil))) rfl (.cons rfl (.dat (ek_TItem.rlst)) (.cons rfl (.dat .int) (.cons rfl (.dat .int) (.cons rfl (.dat .int) (.cons rfl (.ptr rfl) (.cons rfl (.ptr rfl) (.cons rfl (.dat .bool) (.cons rfl (.dat .int) (.cons rfl (.ptr rfl) (.cons rfl (.dat .bool) .nil)))))))))))⟩
      · intro y hC
        subst hC
        cases hb : y4
        · have h17 := iteBF h6 hb
          refine RW.cond_f rfl ?_
          refine RW.skip ?_
          refine RW.reg ?_
          refine rl.run 3 rfl ?_
          refine rl.done ?_
          cases h17
          exact hB1 _ rfl _ _ (Gh.ren0 [0, 1] (.cells rfl rfl (.keep .int (.keep .int (.keep .int (.keep .int (.keep .int (.keep .int (.keep .str (.keep .str (.keep .str .nil))))))))) (.cells rfl rfl (.keep .int (.keep .int (.keep .int (.keep .int (.keep .int (.keep .int (.keep .str (.keep .str (.keep .str .nil))))))))) .nil)) rfl (.cons rfl (.dat (ek_TItem.rlst)) (.cons rfl (.dat .int) (.cons rfl (.dat .int) (.cons rfl (.dat .int) (.cons rfl (.ptr rfl) (.cons rfl (.ptr rfl) (.cons rfl (.dat .bool) (.cons rfl (.dat .int) .nil)))))))))
        · have h18 := iteBT h6 hb
          refine RW.cond_t rfl ?_
          refine RW.sreg ?_
          refine rl.run 2 rfl ?_
          refine rl.done ?_
          refine RW.reg ?_
          refine rl.run 1 rfl ?_
          refine rl.done ?_
          refine RW.reg ?_
          refine rl.run 3 rfl ?_
          refine rl.done ?_
          cases h18
          exact hB1 _ rfl _ _ (Gh.ren0 [0, 1] (.cells rfl rfl (.keep .int (.keep .int (.keep .int (.keep .int (.keep .int (.keep .int (.keep .str (.keep .str (.keep .str .nil))))))))) (.cells rfl rfl (.keep .int (.keep .int (.keep .int (.keep .int (.keep .int (.keep .int (.keep .str (.keep .str (.keep .str .nil))))))))) .nil)) rfl (.cons rfl (.dat (ek_TItem.rlst)) (.cons rfl (.dat .int) (.cons rfl (.dat .int) (.cons rfl (.dat .int) (.cons rfl (.ptr rfl) (.cons rfl (.ptr rfl) (.cons rfl (.dat .bool) (.cons rfl (.dat .int) .nil)))))))))
  · intro y2 hC
    subst hC
    refine RW.sreg ?_
    refine rl.run 4 rfl ?_
    refine rl.done ?_
    refine RW.ret ?_
    cases h2
    exact RRet.mk rfl (OutT.tup (.cons (OutL.agg (.cons .int rfl (.cons .int rfl (.cons .int rfl (.cons .int rfl (.cons .int rfl (.cons .int rfl (.cons .str rfl (.cons .str rfl (.cons .str rfl .nil)))))))))) (.cons .bool .nil))) (by first | decide | simp)
theorem law_spec_l08Has {x0 : List TItem} {x1 : Int} {x2 : Int} {x3 : Int} {r : Bool} (hF : F_spec_l08Has x0 x1 x2 x3 = some r) : PCalls Try.prog 128 [.lst false 9 (fl (enc_TItem false) x0) x0.length, .int .i64 x1, .int .i64 x2, .int .i64 x3] (.bool r) := by
  refine PCalls.of_r k_spec_l08Has rfl ?_
  unfold F_spec_l08Has at hF
  refine RW.sreg ?_
  refine rl.run 1 rfl ?_
  refine rl.done ?_
  refine RW.sreg ?_
  refine rl.run 4 rfl ?_
  obtain ⟨v1, e1, h1⟩ := bindS hF
  refine rl.call rfl rfl rfl (CallW.val (r' := .tup [.agg (enc_TItem false v1.1), .bool v1.2]) ok_spec_l07Best (law_spec_l07Best e1) (.cons (.lst ek_TItem) (.cons .int (.cons .int (.cons .int .nil)))) (FlL.tup (.cons .refl (.cons .refl .nil))) ?_)
  refine rl.run 6 rfl ?_
  refine rl.done ?_
  refine RW.keep [10] (a' := [(10, .bool v1.2)]) (H' := [some ⟨[.int .i64 v1.1.Seq, .int .i64 v1.1.Rec.Kind, .int .i64 v1.1.Rec.Valid, .int .i64 v1.1.Rec.Uid, .int .i64 v1.1.Rec.Next, .int .i64 v1.1.Rec.Flags, .str v1.1.Rec.User, .str v1.1.Rec.Name, .str v1.1.Rec.Text], 0⟩]) rfl rfl ?_
  refine RW.sreg ?_
  refine rl.run 2 rfl ?_
  refine rl.done ?_
  refine RW.ret ?_
  cases h1
  exact RRet.mk rfl .bool (by first | decide | simp)
theorem law_spec_l08There {x0 : List TItem} {x1 : Int} {r : Bool} (hF : F_spec_l08There x0 x1 = some r) : PCalls Try.prog 126 [.lst false 9 (fl (enc_TItem false) x0) x0.length, .int .i64 x1] (.bool r) := by
  refine PCalls.of_r k_spec_l08There rfl ?_
  unfold F_spec_l08There at hF
  refine RW.sreg ?_
  refine rl.run 1 rfl ?_
  refine rl.done ?_
  refine RW.sreg ?_
  refine rl.run 2 rfl ?_
  obtain ⟨v1, e1, h1⟩ := bindS hF
  refine rl.call rfl rfl rfl (CallW.val (r' := .bool v1) ok_spec_l08Has (law_spec_l08Has e1) (.cons (.lst ek_TItem) (.cons .int (.cons .int (.cons .int .nil)))) .refl ?_)
  cases hb : v1
  · have h2 := iteBF h1 hb
    refine rl.run 7 rfl ?_
    refine rl.done ?_
    refine RW.keep [4] (a' := [(4, .bool false)]) (H' := []) rfl rfl ?_
    refine RW.ret ?_
    cases h2
    exact RRet.mk rfl .bool (by first | decide | simp)
  · have h3 := iteBT h1 hb
    refine rl.run 3 rfl ?_
    obtain ⟨v2, e2, h4⟩ := bindS h3
    refine rl.call rfl rfl rfl (CallW.val (r' := .bool v2) ok_spec_l08Has (law_spec_l08Has e2) (.cons (.lst ek_TItem) (.cons .int (.cons .int (.cons .int .nil)))) .refl ?_)
    refine rl.run 3 rfl ?_
    refine rl.done ?_
    refine RW.keep [4] (a' := [(4, .bool (!v2))]) (H' := []) rfl rfl ?_
    refine RW.ret ?_
    cases h4
    exact RRet.mk rfl .bool (by first | decide | simp)
theorem law_spec_l08Need {x0 : List TItem} {x1 : Int} {r : Bool} (hF : F_spec_l08Need x0 x1 = some r) : PCalls Try.prog 69 [.lst false 9 (fl (enc_TItem false) x0) x0.length, .int .i64 x1] (.bool r) := by
  refine PCalls.of_r k_spec_l08Need rfl ?_
  unfold F_spec_l08Need at hF
  refine RW.sreg ?_
  refine rl.run 1 rfl ?_
  refine rl.done ?_
  refine RW.sreg ?_
  refine rl.run 2 rfl ?_
  obtain ⟨v1, e1, h1⟩ := bindS hF
  refine rl.op (x_ia_lst (enc := enc_TItem) (o := false) rfl rfl rfl e1) ?_
  refine rl.op (x_ld_ela (off' := 0) (vs := (enc_TItem false v1)) ek_TItem rfl e1 rfl rfl rfl) ?_
  refine rl.run 2 rfl ?_
  refine rl.done ?_
  refine RW.sreg ?_
  refine rl.run 4 rfl ?_
  refine rl.done ?_
  refine RW.seq ?_
  refine RW.sreg ?_
  refine rl.run 1 rfl ?_
  refine rl.done ?_
  obtain ⟨y5, ey5, h3⟩ := bindS h1
  refine RW.cutq (σ := Unit) (fun y3 => [(0, .lst false 9 (fl (enc_TItem false) x0) x0.length), (5, .ptr 0 0), (6, .ptr 1 0)]) (fun y3 => [some ⟨[.int .i64 v1.Seq, .int .i64 v1.Rec.Kind, .int .i64 v1.Rec.Valid, .int .i64 v1.Rec.Uid, .int .i64 v1.Rec.Next, .int .i64 v1.Rec.Flags, .str v1.Rec.User, .str v1.Rec.Name, .str v1.Rec.Text], 0⟩, some ⟨[.int .i64 v1.Rec.Kind, .int .i64 v1.Rec.Valid, .int .i64 v1.Rec.Uid, .int .i64 v1.Rec.Next, .int .i64 v1.Rec.Flags, .str v1.Rec.User, .str v1.Rec.Name, .str v1.Rec.Text], 0⟩]) (fun y => y5 = .inr y) (fun _ _ _ _ g h => RW.gh g h) ?_ ?_
  · refine RW.blk ?_
    refine RW.iter (σ := Int) ey5 (fun s2 => [(0, .lst false 9 (fl (enc_TItem false) x0) x0.length), (1, .int .i64 x1), (5, .ptr 0 0), (6, .ptr 1 0), (7, .int .i64 s2)]) (fun s2 => [some ⟨[.int .i64 v1.Seq, .int .i64 v1.Rec.Kind, .int .i64 v1.Rec.Valid, .int .i64 v1.Rec.Uid, .int .i64 v1.Rec.Next, .int .i64 v1.Rec.Flags, .str v1.Rec.User, .str v1.Rec.Name, .str v1.Rec.Text], 0⟩, some ⟨[.int .i64 v1.Rec.Kind, .int .i64 v1.Rec.Valid, .int .i64 v1.Rec.Uid, .int .i64 v1.Rec.Next, .int .i64 v1.Rec.Flags, .str v1.Rec.User, .str v1.Rec.Name, .str v1.Rec.Text], 0⟩]) (Gh.ren0 [0, 1] (.cells rfl rfl (.keep .int (.keep .int (.keep .int (.keep .int (.keep .int (.keep .int (.keep .str (.keep .str (.keep .str .nil))))))))) (.cells rfl rfl (.keep .int (.keep .int (.keep .int (.keep .int (.keep .int (.keep .str (.keep .str (.keep .str .nil)))))))) .nil)) rfl (.cons rfl (.dat (ek_TItem.rlst)) (.cons rfl (.dat .int) (.cons rfl (.ptr rfl) (.cons rfl (.ptr rfl) (.cons rfl (.dat .int) .nil)))))) (fun s2 B o hS2 hB2 hE2 => ?_)
    unfold S_spec_l08Need_1 at hS2
    refine RW.seq ?_
    refine RW.sreg ?_
    refine rl.run 2 rfl ?_
    refine rl.gen rfl rfl fun b hb => ?_
    cases b
    · have h4 := iteBF hS2 hb
      refine rl.done ?_
      refine RW.cond_f rfl ?_
      refine RW.exit ?_
      refine blkA_eq ?_
      cases h4
      exact ⟨_, (hE2 _ rfl).symm, (Gh.ren0 [0, 1] (.cells rfl rfl (.keep .int (.keep .int (.keep .int (.keep .int (.keep .int (.keep .int (.keep .str (.keep .str (.keep .str .nil))))))))) (.cells rfl rfl (.keep .int (.keep .int (.keep .int (.keep .int (.keep .int (.keep .str (.keep .str (.keep .str .nil)))))))) .nil)) rfl (.cons rfl (.dat (ek_TItem.rlst)) (.cons rfl (.ptr rfl) (.cons rfl (.ptr rfl) .nil))))⟩
    · have h5 := iteBT hS2 hb
      refine rl.done ?_
      refine RW.cond_t rfl ?_
      refine RW.skip ?_
      refine RW.seq ?_
      refine RW.blk ?_
      refine RW.sdrw ?_
      refine rdraw.op rfl rfl ?_
      refine rdraw.op rfl rfl ?_
      obtain ⟨v4, e4, h6⟩ := bindS h5
      refine rdraw.op rfl (x_ia_lst (enc := enc_TItem) (o := false) rfl rfl rfl e4) ?_
      refine rdraw.op rfl rfl ?_
      refine rdraw.op rfl (x_ld_el (off' := 0) ek_TItem rfl e4 rfl rfl rfl) ?_
      refine rdraw.op rfl rfl ?_
      refine rdraw.op rfl rfl ?_
      refine rdraw.gen rfl rfl fun b hb => ?_
      cases b
      · have h7 := iteBF h6 hb
        refine rdraw.done ?_
        refine RW.cond_f rfl ?_
        refine RW.skip ?_
        refine RW.reg ?_
        refine rl.run 3 rfl ?_
        refine rl.done ?_
        cases h7
        exact hB2 _ rfl _ _ (Gh.ren0 [0, 1] (.cells rfl rfl (.keep .int (.keep .int (.keep .int (.keep .int (.keep .int (.keep .int (.keep .str (.keep .str (.keep .str .nil))))))))) (.cells rfl rfl (.keep .int (.keep .int (.keep .int (.keep .int (.keep .int (.keep .str (.keep .str (.keep .str .nil)))))))) .nil)) rfl (.cons rfl (.dat (ek_TItem.rlst)) (.cons rfl (.dat .int) (.cons rfl (.ptr rfl) (.cons rfl (.ptr rfl) (.cons rfl (.dat .int) .nil))))))
      · have h8 := iteBT h6 hb
        refine rdraw.done ?_
        refine RW.cond_t rfl ?_
        refine RW.sreg ?_
        refine rl.run 1 rfl ?_
        refine rl.done ?_
        refine RW.keep [4] (a' := [(4, .bool false)]) (H' := [some ⟨[.int .i64 v1.Seq, .int .i64 v1.Rec.Kind, .int .i64 v1.Rec.Valid, .int .i64 v1.Rec.Uid, .int .i64 v1.Rec.Next, .int .i64 v1.Rec.Flags, .str v1.Rec.User, .str v1.Rec.Name, .str v1.Rec.Text], 0⟩, some ⟨[.int .i64 v1.Rec.Kind, .int .i64 v1.Rec.Valid, .int .i64 v1.Rec.Uid, .int .i64 v1.Rec.Next, .int .i64 v1.Rec.Flags, .str v1.Rec.User, .str v1.Rec.Name, .str v1.Rec.Text], 0⟩]) rfl rfl ?_
        refine RW.ret ?_
        cases h8
        have h9 := elimL h3 (hE2 _ rfl)
        cases h9
        exact RRet.mk rfl .bool (by first | decide | simp)
  · intro y3 hC
    have h3 := elimR h3 hC
    refine RW.seq ?_
    refine RW.sreg ?_
    refine rl.run 2 rfl ?_
    refine rl.done ?_
    refine RW.blk ?_
    refine RW.sreg ?_
    refine rl.gen rfl rfl fun b hb => ?_
    cases b
    · have h10 := iteBF h3 hb
      refine rl.run 1 rfl ?_
      refine rl.done ?_
      refine RW.cond_f rfl ?_
      refine RW.sreg ?_
      refine rl.gen rfl rfl fun b hb => ?_
      cases b
      · have h11 := iteBF h10 hb
        refine rl.run 1 rfl ?_
        refine rl.done ?_
        refine RW.cond_f rfl ?_
        refine RW.sreg ?_
        refine rl.gen rfl rfl fun b hb => ?_
        cases b
        · have h12 := iteBF h11 hb
          refine rl.run 1 rfl ?_
          refine rl.done ?_
          refine RW.cond_f rfl ?_
          refine RW.skip ?_
          refine RW.sreg ?_
          refine rl.run 7 rfl ?_
          obtain ⟨v6, e6, h13⟩ := bindS h12
          refine rl.call rfl rfl rfl (CallW.val (r' := .tup [.agg (enc_TItem false v6.1), .bool v6.2]) ok_spec_l07Best (law_spec_l07Best e6) (.cons (.lst ek_TItem) (.cons .int (.cons .int (.cons .int .nil)))) (FlL.tup (.cons .refl (.cons .refl .nil))) ?_)
          refine rl.run 6 rfl ?_
          refine rl.done ?_
          refine RW.keep [0, 5, 6, 14] (a' := [(0, .lst false 9 (fl (enc_TItem false) x0) x0.length), (5, .ptr 0 0), (6, .ptr 1 0), (14, .ptr 2 0)]) (H' := [some ⟨[.int .i64 v1.Seq, .int .i64 v1.Rec.Kind, .int .i64 v1.Rec.Valid, .int .i64 v1.Rec.Uid, .int .i64 v1.Rec.Next, .int .i64 v1.Rec.Flags, .str v1.Rec.User, .str v1.Rec.Name, .str v1.Rec.Text], 0⟩, some ⟨[.int .i64 v1.Rec.Kind, .int .i64 v1.Rec.Valid, .int .i64 v1.Rec.Uid, .int .i64 v1.Rec.Next, .int .i64 v1.Rec.Flags, .str v1.Rec.User, .str v1.Rec.Name, .str v1.Rec.Text], 0⟩, some ⟨[.int .i64 v6.1.Seq, .int .i64 v6.1.Rec.Kind, .int .i64 v6.1.Rec.Valid, .int .i64 v6.1.Rec.Uid, .int .i64 v6.1.Rec.Next, .int .i64 v6.1.Rec.Flags, .str v6.1.Rec.User, .str v6.1.Rec.Name, .str v6.1.Rec.Text], 0⟩]) rfl rfl ?_
          refine RW.seq ?_
          obtain ⟨y7, ey7, h14⟩ := bindS h13
          refine RW.cutq (σ := Bool) (fun y7 => [(4, .bool y7)]) (fun y7 => []) (fun y => y7 = y) (fun _ _ _ _ g h => RW.gh g h) ?_ ?_
          · refine RW.reg ?_
            refine rl.run 3 rfl ?_
            obtain ⟨v8, e8, h15⟩ := bindS ey7
            refine rl.call rfl rfl rfl (CallW.val (r' := .bool v8) ok_spec_l08There (law_spec_l08There e8) (.cons (.lst ek_TItem) (.cons .int .nil)) .refl ?_)
            cases hb : v8
            · have h16 := iteBF h15 hb
              refine rl.run 25 rfl ?_
              refine rl.done ?_
              cases h16
              exact ⟨_, rfl, (Gh.ren0 [] .nil rfl (.cons rfl (.dat .bool) .nil))⟩
            · have h17 := iteBT h15 hb
              refine rl.run 6 rfl ?_
              obtain ⟨v9, e9, h18⟩ := bindS h17
              refine rl.call rfl rfl rfl (CallW.val (r' := .bool v9) ok_spec_l08Has (law_spec_l08Has e9) (.cons (.lst ek_TItem) (.cons .int (.cons .int (.cons .int .nil)))) .refl ?_)
              cases hb : v9
              · have h19 := iteBF h18 hb
                refine rl.run 18 rfl ?_
                refine rl.done ?_
                cases h19
                exact ⟨_, rfl, (Gh.ren0 [] .nil rfl (.cons rfl (.dat .bool) .nil))⟩
              · have h20 := iteBT h18 hb
                refine rl.run 7 rfl ?_
                obtain ⟨v10, e10, h21⟩ := bindS h20
                refine rl.call rfl rfl rfl (CallW.val (r' := .bool v10) ok_spec_l08Has (law_spec_l08Has e10) (.cons (.lst ek_TItem) (.cons .int (.cons .int (.cons .int .nil)))) .refl ?_)
                cases hb : v10
                · have h22 := iteBF h21 hb
                  refine rl.run 10 rfl ?_
                  refine rl.done ?_
                  cases h22
                  exact ⟨_, rfl, (Gh.ren0 [] .nil rfl (.cons rfl (.dat .bool) .nil))⟩
                · have h23 := iteBT h21 hb
                  refine rl.run 10 rfl ?_
                  refine rl.done ?_
                  cases h23
                  exact ⟨_, rfl, (Gh.ren0 [] .nil rfl (.cons rfl (.dat .bool) .nil))⟩
          · intro y hC
            subst hC
            refine RW.ret ?_
            cases h14
            exact RRet.mk rfl .bool (by first | decide | simp)
        · have h24 := iteBT h11 hb
          refine rl.run 1 rfl ?_
          refine rl.done ?_
          refine RW.cond_t rfl ?_
          refine RW.sreg ?_
          refine rl.run 5 rfl ?_
          obtain ⟨v11, e11, h25⟩ := bindS h24
          refine rl.call rfl rfl rfl (CallW.val (r' := .tup [.agg (enc_TItem false v11.1), .bool v11.2]) ok_spec_l07Best (law_spec_l07Best e11) (.cons (.lst ek_TItem) (.cons .int (.cons .int (.cons .int .nil)))) (FlL.tup (.cons .refl (.cons .refl .nil))) ?_)
          refine rl.run 6 rfl ?_
          refine rl.done ?_
          refine RW.keep [0, 5, 6, 12] (a' := [(0, .lst false 9 (fl (enc_TItem false) x0) x0.length), (5, .ptr 0 0), (6, .ptr 1 0), (12, .ptr 2 0)]) (H' := [some ⟨[.int .i64 v1.Seq, .int .i64 v1.Rec.Kind, .int .i64 v1.Rec.Valid, .int .i64 v1.Rec.Uid, .int .i64 v1.Rec.Next, .int .i64 v1.Rec.Flags, .str v1.Rec.User, .str v1.Rec.Name, .str v1.Rec.Text], 0⟩, some ⟨[.int .i64 v1.Rec.Kind, .int .i64 v1.Rec.Valid, .int .i64 v1.Rec.Uid, .int .i64 v1.Rec.Next, .int .i64 v1.Rec.Flags, .str v1.Rec.User, .str v1.Rec.Name, .str v1.Rec.Text], 0⟩, some ⟨[.int .i64 v11.1.Seq, .int .i64 v11.1.Rec.Kind, .int .i64 v11.1.Rec.Valid, .int .i64 v11.1.Rec.Uid, .int .i64 v11.1.Rec.Next, .int .i64 v11.1.Rec.Flags, .str v11.1.Rec.User, .str v11.1.Rec.Name, .str v11.1.Rec.Text], 0⟩]) rfl rfl ?_
          refine RW.seq ?_
          obtain ⟨y12, ey12, h26⟩ := bindS h25
          refine RW.cutq (σ := Bool) (fun y12 => [(4, .bool y12)]) (fun y12 => []) (fun y => y12 = y) (fun _ _ _ _ g h => RW.gh g h) ?_ ?_
          · refine RW.reg ?_
            refine rl.run 3 rfl ?_
            obtain ⟨v13, e13, h27⟩ := bindS ey12
            refine rl.call rfl rfl rfl (CallW.val (r' := .bool v13) ok_spec_l08There (law_spec_l08There e13) (.cons (.lst ek_TItem) (.cons .int .nil)) .refl ?_)
            cases hb : v13
            · have h28 := iteBF h27 hb
              refine rl.run 16 rfl ?_
              refine rl.done ?_
              cases h28
              exact ⟨_, rfl, (Gh.ren0 [] .nil rfl (.cons rfl (.dat .bool) .nil))⟩
            · have h29 := iteBT h27 hb
              refine rl.run 6 rfl ?_
              obtain ⟨v14, e14, h30⟩ := bindS h29
              refine rl.call rfl rfl rfl (CallW.val (r' := .bool v14) ok_spec_l08Has (law_spec_l08Has e14) (.cons (.lst ek_TItem) (.cons .int (.cons .int (.cons .int .nil)))) .refl ?_)
              cases hb : v14
              · have h31 := iteBF h30 hb
                refine rl.run 9 rfl ?_
                refine rl.done ?_
                cases h31
                exact ⟨_, rfl, (Gh.ren0 [] .nil rfl (.cons rfl (.dat .bool) .nil))⟩
              · have h32 := iteBT h30 hb
                refine rl.run 9 rfl ?_
                refine rl.done ?_
                cases h32
                exact ⟨_, rfl, (Gh.ren0 [] .nil rfl (.cons rfl (.dat .bool) .nil))⟩
          · intro y hC
            subst hC
            refine RW.ret ?_
            cases h26
            exact RRet.mk rfl .bool (by first | decide | simp)
      · have h33 := iteBT h10 hb
        refine rl.run 1 rfl ?_
        refine rl.done ?_
        refine RW.cond_t rfl ?_
        refine RW.sreg ?_
        refine rl.run 3 rfl ?_
        obtain ⟨v15, e15, h34⟩ := bindS h33
        refine rl.call rfl rfl rfl (CallW.val (r' := .tup [.agg (enc_TItem false v15.1), .bool v15.2]) ok_spec_l07Best (law_spec_l07Best e15) (.cons (.lst ek_TItem) (.cons .int (.cons .int (.cons .int .nil)))) (FlL.tup (.cons .refl (.cons .refl .nil))) ?_)
        refine rl.run 6 rfl ?_
        refine rl.done ?_
        refine RW.keep [0, 5, 6, 9] (a' := [(0, .lst false 9 (fl (enc_TItem false) x0) x0.length), (5, .ptr 0 0), (6, .ptr 1 0), (9, .ptr 2 0)]) (H' := [some ⟨[.int .i64 v1.Seq, .int .i64 v1.Rec.Kind, .int .i64 v1.Rec.Valid, .int .i64 v1.Rec.Uid, .int .i64 v1.Rec.Next, .int .i64 v1.Rec.Flags, .str v1.Rec.User, .str v1.Rec.Name, .str v1.Rec.Text], 0⟩, some ⟨[.int .i64 v1.Rec.Kind, .int .i64 v1.Rec.Valid, .int .i64 v1.Rec.Uid, .int .i64 v1.Rec.Next, .int .i64 v1.Rec.Flags, .str v1.Rec.User, .str v1.Rec.Name, .str v1.Rec.Text], 0⟩, some ⟨[.int .i64 v15.1.Seq, .int .i64 v15.1.Rec.Kind, .int .i64 v15.1.Rec.Valid, .int .i64 v15.1.Rec.Uid, .int .i64 v15.1.Rec.Next, .int .i64 v15.1.Rec.Flags, .str v15.1.Rec.User, .str v15.1.Rec.Name, .str v15.1.Rec.Text], 0⟩]) rfl rfl ?_
        refine RW.seq ?_
        refine RW.sreg ?_
        refine rl.run 1 rfl ?_
        refine rl.done ?_
        obtain ⟨y21, ey21, h36⟩ := bindS h34
        refine RW.cutq (σ := Unit) (fun y17 => []) (fun y17 => []) (fun y => y21 = .inr y) (fun _ _ _ _ g h => RW.gh g h) ?_ ?_
        · refine RW.blk ?_
          refine RW.iter (σ := Int) ey21 (fun s16 => [(0, .lst false 9 (fl (enc_TItem false) x0) x0.length), (5, .ptr 0 0), (6, .ptr 1 0), (9, .ptr 2 0), (11, .int .i64 s16)]) (fun s16 => [some ⟨[.int .i64 v1.Seq, .int .i64 v1.Rec.Kind, .int .i64 v1.Rec.Valid, .int .i64 v1.Rec.Uid, .int .i64 v1.Rec.Next, .int .i64 v1.Rec.Flags, .str v1.Rec.User, .str v1.Rec.Name, .str v1.Rec.Text], 0⟩, some ⟨[.int .i64 v1.Rec.Kind, .int .i64 v1.Rec.Valid, .int .i64 v1.Rec.Uid, .int .i64 v1.Rec.Next, .int .i64 v1.Rec.Flags, .str v1.Rec.User, .str v1.Rec.Name, .str v1.Rec.Text], 0⟩, some ⟨[.int .i64 v15.1.Seq, .int .i64 v15.1.Rec.Kind, .int .i64 v15.1.Rec.Valid, .int .i64 v15.1.Rec.Uid, .int .i64 v15.1.Rec.Next, .int .i64 v15.1.Rec.Flags, .str v15.1.Rec.User, .str v15.1.Rec.Name, .str v15.1.Rec.Text], 0⟩]) (Gh.ren0 [0, 1, 2] (.cells rfl rfl (.keep .int (.keep .int (.keep .int (.keep .int (.keep .int (.keep .int (.keep .str (.keep .str (.keep .str .nil))))))))) (.cells rfl rfl (.keep .int (.keep .int (.keep .int (.keep .int (.keep .int (.keep .str (.keep .str (.keep .str .nil)))))))) (.cells rfl rfl (.keep .int (.keep .int (.keep .int (.keep .int (.keep .int (.keep .int (.keep .str (.keep .str (.keep .str .nil))))))))) .nil))) rfl (.cons rfl (.dat (ek_TItem.rlst)) (.cons rfl (.ptr rfl) (.cons rfl (.ptr rfl) (.cons rfl (.ptr rfl) (.cons rfl (.dat .int) .nil)))))) (fun s16 B o hS35 hB35 hE35 => ?_)
          unfold S_spec_l08Need_2 at hS35
          refine RW.seq ?_
          refine RW.sreg ?_
          refine rl.run 3 rfl ?_
          refine rl.gen rfl rfl fun b hb => ?_
          cases b
          · have h37 := iteBF hS35 hb
            refine rl.done ?_
            refine RW.cond_f rfl ?_
            refine RW.exit ?_
            refine blkA_eq ?_
            cases h37
            exact ⟨_, (hE35 _ rfl).symm, (Gh.ren0 [] .nil rfl .nil)⟩
          · have h38 := iteBT hS35 hb
            refine rl.done ?_
            refine RW.cond_t rfl ?_
            refine RW.skip ?_
            refine RW.seq ?_
            refine RW.blk ?_
            refine RW.seq ?_
            obtain ⟨y18, ey18, h39⟩ := bindS h38
            refine RW.cutq (σ := Bool) (fun y18 => [(0, .lst false 9 (fl (enc_TItem false) x0) x0.length), (5, .ptr 0 0), (6, .ptr 1 0), (9, .ptr 2 0), (11, .int .i64 s16), (107, .bool y18)]) (fun y18 => [some ⟨[.int .i64 v1.Seq, .int .i64 v1.Rec.Kind, .int .i64 v1.Rec.Valid, .int .i64 v1.Rec.Uid, .int .i64 v1.Rec.Next, .int .i64 v1.Rec.Flags, .str v1.Rec.User, .str v1.Rec.Name, .str v1.Rec.Text], 0⟩, some ⟨[.int .i64 v1.Rec.Kind, .int .i64 v1.Rec.Valid, .int .i64 v1.Rec.Uid, .int .i64 v1.Rec.Next, .int .i64 v1.Rec.Flags, .str v1.Rec.User, .str v1.Rec.Name, .str v1.Rec.Text], 0⟩, some ⟨[.int .i64 v15.1.Seq, .int .i64 v15.1.Rec.Kind, .int .i64 v15.1.Rec.Valid, .int .i64 v15.1.Rec.Uid, .int .i64 v15.1.Rec.Next, .int .i64 v15.1.Rec.Flags, .str v15.1.Rec.User, .str v15.1.Rec.Name, .str v15.1.Rec.Text], 0⟩]) (fun y => y18 = y) (fun _ _ _ _ g h => RW.gh g h) ?_ ?_
            · refine RW.drw ?_
              refine rdraw.op rfl rfl ?_
              refine rdraw.op rfl rfl ?_
              obtain ⟨v19, e19, h40⟩ := bindS ey18
              refine rdraw.op rfl (x_ia_lst (enc := enc_TItem) (o := false) rfl rfl rfl e19) ?_
              refine rdraw.op rfl rfl ?_
              refine rdraw.op rfl rfl ?_
              refine rdraw.op rfl (x_ld_el (off' := 1) ek_TItem rfl e19 rfl rfl rfl) ?_
              refine rdraw.gen rfl rfl fun b hb => ?_
              cases b
              · have h41 := iteBF h40 hb
                refine rdraw.op rfl rfl ?_
                refine rdraw.off rfl ?_
                refine rdraw.off rfl ?_
                refine rdraw.off rfl ?_
                refine rdraw.off rfl ?_
                refine rdraw.off rfl ?_
                refine rdraw.off rfl ?_
                refine rdraw.off rfl ?_
                refine rdraw.off rfl ?_
                refine rdraw.off rfl ?_
                refine rdraw.op rfl rfl ?_
                refine rdraw.done ?_
                cases h41
                exact ⟨_, rfl, (Gh.ren0 [0, 1, 2] (.cells rfl rfl (.keep .int (.keep .int (.keep .int (.keep .int (.keep .int (.keep .int (.keep .str (.keep .str (.keep .str .nil))))))))) (.cells rfl rfl (.keep .int (.keep .int (.keep .int (.keep .int (.keep .int (.keep .str (.keep .str (.keep .str .nil)))))))) (.cells rfl rfl (.keep .int (.keep .int (.keep .int (.keep .int (.keep .int (.keep .int (.keep .str (.keep .str (.keep .str .nil))))))))) .nil))) rfl (.cons rfl (.dat (ek_TItem.rlst)) (.cons rfl (.ptr rfl) (.cons rfl (.ptr rfl) (.cons rfl (.ptr rfl) (.cons rfl (.dat .int) (.cons rfl (.dat .bool) .nil)))))))⟩
              · have h42 := iteBT h40 hb
                refine rdraw.op rfl rfl ?_
                refine rdraw.op rfl rfl ?_
                refine rdraw.op rfl rfl ?_
                obtain ⟨v20, e20, h43⟩ := bindS h42
                refine rdraw.op rfl (x_ia_lst (enc := enc_TItem) (o := false) rfl rfl rfl e20) ?_
                refine rdraw.op rfl rfl ?_
                refine rdraw.op rfl rfl ?_
                refine rdraw.op rfl (x_ld_el (off' := 2) ek_TItem rfl e20 rfl rfl rfl) ?_
                refine rdraw.op rfl rfl ?_
                refine rdraw.op rfl rfl ?_
                refine rdraw.gen rfl rfl fun b hb => ?_
                cases b
                · have h44 := iteBF h43 hb
                  refine rdraw.op rfl rfl ?_
                  refine rdraw.done ?_
                  cases h44
                  exact ⟨_, rfl, (Gh.ren0 [0, 1, 2] (.cells rfl rfl (.keep .int (.keep .int (.keep .int (.keep .int (.keep .int (.keep .int (.keep .str (.keep .str (.keep .str .nil))))))))) (.cells rfl rfl (.keep .int (.keep .int (.keep .int (.keep .int (.keep .int (.keep .str (.keep .str (.keep .str .nil)))))))) (.cells rfl rfl (.keep .int (.keep .int (.keep .int (.keep .int (.keep .int (.keep .int (.keep .str (.keep .str (.keep .str .nil))))))))) .nil))) rfl (.cons rfl (.dat (ek_TItem.rlst)) (.cons rfl (.ptr rfl) (.cons rfl (.ptr rfl) (.cons rfl (.ptr rfl) (.cons rfl (.dat .int) (.cons rfl (.dat .bool) .nil)))))))⟩
                · have h45 := iteBT h43 hb
                  refine rdraw.op rfl rfl ?_
                  refine rdraw.done ?_
                  cases h45
                  exact ⟨_, rfl, (Gh.ren0 [0, 1, 2] (.cells rfl rfl (.keep .int (.keep .int (.keep .int (.keep .int (.keep .int (.keep .int (.keep .str (.keep .str (.keep .str .nil))))))))) (.cells rfl rfl (.keep .int (.keep .int (.keep .int (.keep .int (.keep .int (.keep .str (.keep .str (.keep .str .nil)))))))) (.cells rfl rfl (.keep .int (.keep .int (.keep .int (.keep .int (.keep .int (.keep .int (.keep .str (.keep .str (.keep .str .nil))))))))) .nil))) rfl (.cons rfl (.dat (ek_TItem.rlst)) (.cons rfl (.ptr rfl) (.cons rfl (.ptr rfl) (.cons rfl (.ptr rfl) (.cons rfl (.dat .int) (.cons rfl (.dat .bool) .nil)))))))⟩
            · intro y hC
              subst hC
              cases hb : y18
              · have h46 := iteBF h39 hb
                refine RW.cond_f rfl ?_
                refine RW.skip ?_
                refine RW.reg ?_
                refine rl.run 3 rfl ?_
                refine rl.done ?_
                cases h46
                exact hB35 _ rfl _ _ (Gh.ren0 [0, 1, 2] (.cells rfl rfl (.keep .int (.keep .int (.keep .int (.keep .int (.keep .int (.keep .int (.keep .str (.keep .str (.keep .str .nil))))))))) (.cells rfl rfl (.keep .int (.keep .int (.keep .int (.keep .int (.keep .int (.keep .str (.keep .str (.keep .str .nil)))))))) (.cells rfl rfl (.keep .int (.keep .int (.keep .int (.keep .int (.keep .int (.keep .int (.keep .str (.keep .str (.keep .str .nil))))))))) .nil))) rfl (.cons rfl (.dat (ek_TItem.rlst)) (.cons rfl (.ptr rfl) (.cons rfl (.ptr rfl) (.cons rfl (.ptr rfl) (.cons rfl (.dat .int) .nil))))))
              · have h47 := iteBT h39 hb
                refine RW.cond_t rfl ?_
                refine RW.sreg ?_
                refine rl.run 6 rfl ?_
                refine rl.done ?_
                refine RW.keep [4] (a' := [(4, .bool (v15.1.Seq == v1.Seq))]) (H' := [some ⟨[.int .i64 v1.Seq, .int .i64 v1.Rec.Kind, .int .i64 v1.Rec.Valid, .int .i64 v1.Rec.Uid, .int .i64 v1.Rec.Next, .int .i64 v1.Rec.Flags, .str v1.Rec.User, .str v1.Rec.Name, .str v1.Rec.Text], 0⟩, some ⟨[.int .i64 v1.Rec.Kind, .int .i64 v1.Rec.Valid, .int .i64 v1.Rec.Uid, .int .i64 v1.Rec.Next, .int .i64 v1.Rec.Flags, .str v1.Rec.User, .str v1.Rec.Name, .str v1.Rec.Text], 0⟩, some ⟨[.int .i64 v15.1.Seq, .int .i64 v15.1.Rec.Kind, .int .i64 v15.1.Rec.Valid, .int .i64 v15.1.Rec.Uid, .int .i64 v15.1.Rec.Next, .int .i64 v15.1.Rec.Flags, .str v15.1.Rec.User, .str v15.1.Rec.Name, .str v15.1.Rec.Text], 0⟩]) rfl rfl ?_
                refine RW.ret ?_
                cases h47
                have h48 := elimL h36 (hE35 _ rfl)
                cases h48
                exact RRet.mk rfl .bool (by first | decide | simp)
        · intro y17 hC
          have h36 := elimR h36 hC
          refine RW.sreg ?_
          refine rl.run 1 rfl ?_
          refine rl.done ?_
          refine RW.ret ?_
          cases h36
          exact RRet.mk rfl .bool (by first | decide | simp)
    · have h49 := iteBT h3 hb
      refine rl.run 1 rfl ?_
      refine rl.done ?_
      refine RW.cond_t rfl ?_
      refine RW.seq ?_
      refine RW.sreg ?_
      refine rl.run 1 rfl ?_
      refine rl.done ?_
      obtain ⟨y29, ey29, h51⟩ := bindS h49
      refine RW.cutq (σ := Unit) (fun y23 => [(0, .lst false 9 (fl (enc_TItem false) x0) x0.length), (6, .ptr 0 0)]) (fun y23 => [some ⟨[.int .i64 v1.Rec.Kind, .int .i64 v1.Rec.Valid, .int .i64 v1.Rec.Uid, .int .i64 v1.Rec.Next, .int .i64 v1.Rec.Flags, .str v1.Rec.User, .str v1.Rec.Name, .str v1.Rec.Text], 0⟩]) (fun y => y29 = .inr y) (fun _ _ _ _ g h => RW.gh g h) ?_ ?_
      · refine RW.blk ?_
        refine RW.iter (σ := Int) ey29 (fun s22 => [(0, .lst false 9 (fl (enc_TItem false) x0) x0.length), (5, .ptr 0 0), (6, .ptr 1 0), (8, .int .i64 s22)]) (fun s22 => [some ⟨[.int .i64 v1.Seq, .int .i64 v1.Rec.Kind, .int .i64 v1.Rec.Valid, .int .i64 v1.Rec.Uid, .int .i64 v1.Rec.Next, .int .i64 v1.Rec.Flags, .str v1.Rec.User, .str v1.Rec.Name, .str v1.Rec.Text], 0⟩, some ⟨[.int .i64 v1.Rec.Kind, .int .i64 v1.Rec.Valid, .int .i64 v1.Rec.Uid, .int .i64 v1.Rec.Next, .int .i64 v1.Rec.Flags, .str v1.Rec.User, .str v1.Rec.Name, .str v1.Rec.Text], 0⟩]) (Gh.ren0 [0, 1] (.cells rfl rfl (.keep .int (.keep .int (.keep .int (.keep .int (.keep .int (.keep .int (.keep .str (.keep .str (.keep .str .nil))))))))) (.cells rfl rfl (.keep .int (.keep .int (.keep .int (.keep .int (.keep .int (.keep .str (.keep .str (.keep .str .nil)))))))) .nil)) rfl (.cons rfl (.dat (ek_TItem.rlst)) (.cons rfl (.ptr rfl) (.cons rfl (.ptr rfl) (.cons rfl (.dat .int) .nil))))) (fun s22 B o hS50 hB50 hE50 => ?_)
        unfold S_spec_l08Need_3 at hS50
        refine RW.seq ?_
        refine RW.sreg ?_
        refine rl.run 3 rfl ?_
        refine rl.gen rfl rfl fun b hb => ?_
        cases b
        · have h52 := iteBF hS50 hb
          refine rl.done ?_
          refine RW.cond_f rfl ?_
          refine RW.exit ?_
          refine blkA_eq ?_
          cases h52
          exact ⟨_, (hE50 _ rfl).symm, (Gh.ren0 [1] (.cells rfl rfl (.keep .int (.keep .int (.keep .int (.keep .int (.keep .int (.keep .str (.keep .str (.keep .str .nil)))))))) .nil) rfl (.cons rfl (.dat (ek_TItem.rlst)) (.cons rfl (.ptr rfl) .nil)))⟩
        · have h53 := iteBT hS50 hb
          refine rl.done ?_
          refine RW.cond_t rfl ?_
          refine RW.skip ?_
          refine RW.seq ?_
          refine RW.blk ?_
          refine RW.seq ?_
          obtain ⟨y24, ey24, h54⟩ := bindS h53
          refine RW.cutq (σ := Bool) (fun y24 => [(0, .lst false 9 (fl (enc_TItem false) x0) x0.length), (5, .ptr 0 0), (6, .ptr 1 0), (8, .int .i64 s22), (70, .bool y24)]) (fun y24 => [some ⟨[.int .i64 v1.Seq, .int .i64 v1.Rec.Kind, .int .i64 v1.Rec.Valid, .int .i64 v1.Rec.Uid, .int .i64 v1.Rec.Next, .int .i64 v1.Rec.Flags, .str v1.Rec.User, .str v1.Rec.Name, .str v1.Rec.Text], 0⟩, some ⟨[.int .i64 v1.Rec.Kind, .int .i64 v1.Rec.Valid, .int .i64 v1.Rec.Uid, .int .i64 v1.Rec.Next, .int .i64 v1.Rec.Flags, .str v1.Rec.User, .str v1.Rec.Name, .str v1.Rec.Text], 0⟩]) (fun y => y24 = y) (fun _ _ _ _ g h => RW.gh g h) ?_ ?_
          · refine RW.drw ?_
            refine rdraw.op rfl rfl ?_
            refine rdraw.op rfl rfl ?_
            obtain ⟨v25, e25, h55⟩ := bindS ey24
            refine rdraw.op rfl (x_ia_lst (enc := enc_TItem) (o := false) rfl rfl rfl e25) ?_
            refine rdraw.op rfl rfl ?_
            refine rdraw.op rfl rfl ?_
            refine rdraw.op rfl (x_ld_el (off' := 1) ek_TItem rfl e25 rfl rfl rfl) ?_
            refine rdraw.gen rfl rfl fun b hb => ?_
            cases b
            · have h56 := iteBF h55 hb
              refine rdraw.op rfl rfl ?_
              refine rdraw.off rfl ?_
              refine rdraw.off rfl ?_
              refine rdraw.off rfl ?_
              refine rdraw.off rfl ?_
              refine rdraw.off rfl ?_
              refine rdraw.off rfl ?_
              refine rdraw.off rfl ?_
              refine rdraw.off rfl ?_
              refine rdraw.off rfl ?_
              refine rdraw.op rfl rfl ?_
              refine rdraw.op rfl rfl ?_
              refine rdraw.off rfl ?_
              refine rdraw.off rfl ?_
              refine rdraw.off rfl ?_
              refine rdraw.off rfl ?_
              refine rdraw.off rfl ?_
              refine rdraw.off rfl ?_
              refine rdraw.op rfl rfl ?_
              refine rdraw.done ?_
              cases h56
              exact ⟨_, rfl, (Gh.ren0 [0, 1] (.cells rfl rfl (.keep .int (.keep .int (.keep .int (.keep .int (.keep .int (.keep .int (.keep .str (.keep .str (.keep .str .nil))))))))) (.cells rfl rfl (.keep .int (.keep .int (.keep .int (.keep .int (.keep .int (.keep .str (.keep .str (.keep .str .nil)))))))) .nil)) rfl (.cons rfl (.dat (ek_TItem.rlst)) (.cons rfl (.ptr rfl) (.cons rfl (.ptr rfl) (.cons rfl (.dat .int) (.cons rfl (.dat .bool) .nil))))))⟩
            · have h57 := iteBT h55 hb
              refine rdraw.op rfl rfl ?_
              refine rdraw.op rfl rfl ?_
              refine rdraw.op rfl rfl ?_
              obtain ⟨v26, e26, h58⟩ := bindS h57
              refine rdraw.op rfl (x_ia_lst (enc := enc_TItem) (o := false) rfl rfl rfl e26) ?_
              refine rdraw.op rfl rfl ?_
              refine rdraw.op rfl rfl ?_
              refine rdraw.op rfl (x_ld_el (off' := 2) ek_TItem rfl e26 rfl rfl rfl) ?_
              refine rdraw.op rfl rfl ?_
              refine rdraw.op rfl rfl ?_
              refine rdraw.gen rfl rfl fun b hb => ?_
              cases b
              · have h59 := iteBF h58 hb
                refine rdraw.op rfl rfl ?_
                refine rdraw.op rfl rfl ?_
                refine rdraw.off rfl ?_
                refine rdraw.off rfl ?_
                refine rdraw.off rfl ?_
                refine rdraw.off rfl ?_
                refine rdraw.off rfl ?_
                refine rdraw.off rfl ?_
                refine rdraw.op rfl rfl ?_
                refine rdraw.done ?_
                cases h59
                exact ⟨_, rfl, (Gh.ren0 [0, 1] (.cells rfl rfl (.keep .int (.keep .int (.keep .int (.keep .int (.keep .int (.keep .int (.keep .str (.keep .str (.keep .str .nil))))))))) (.cells rfl rfl (.keep .int (.keep .int (.keep .int (.keep .int (.keep .int (.keep .str (.keep .str (.keep .str .nil)))))))) .nil)) rfl (.cons rfl (.dat (ek_TItem.rlst)) (.cons rfl (.ptr rfl) (.cons rfl (.ptr rfl) (.cons rfl (.dat .int) (.cons rfl (.dat .bool) .nil))))))⟩
              · have h60 := iteBT h58 hb
                refine rdraw.op rfl rfl ?_
                refine rdraw.op rfl rfl ?_
                refine rdraw.op rfl rfl ?_
                refine rdraw.op rfl rfl ?_
                obtain ⟨v27, e27, h61⟩ := bindS h60
                refine rdraw.op rfl (x_ia_lst (enc := enc_TItem) (o := false) rfl rfl rfl e27) ?_
                refine rdraw.op rfl (x_ld_ela (off' := 0) (vs := (enc_TItem false v27)) ek_TItem rfl e27 rfl rfl rfl) ?_
                refine rdraw.op rfl rfl ?_
                obtain ⟨v28, e28, h62⟩ := bindS h61
                refine rdraw.call rfl rfl rfl (CallW.val (r' := .bool v28) ok_spec_l08Bigger (law_spec_l08Bigger e28) (.cons (.dat (.agg (ek_TItem.dat false _))) (.cons (DFL.agg (.cons .int (.cons .int (.cons .int (.cons .int (.cons .int (.cons .int (.cons .str (.cons .str (.cons .str .nil)))))))))) .nil)) .refl ⟨rfl, ?_⟩)
                cases hb : v28
                · have h63 := iteBF h62 hb
                  refine rdraw.op rfl rfl ?_
                  refine rdraw.done ?_
                  cases h63
                  exact ⟨_, rfl, (Gh.ren0 [0, 1] (.cells rfl rfl (.keep .int (.keep .int (.keep .int (.keep .int (.keep .int (.keep .int (.keep .str (.keep .str (.keep .str .nil))))))))) (.cells rfl rfl (.keep .int (.keep .int (.keep .int (.keep .int (.keep .int (.keep .str (.keep .str (.keep .str .nil)))))))) .nil)) rfl (.cons rfl (.dat (ek_TItem.rlst)) (.cons rfl (.ptr rfl) (.cons rfl (.ptr rfl) (.cons rfl (.dat .int) (.cons rfl (.dat .bool) .nil))))))⟩
                · have h64 := iteBT h62 hb
                  refine rdraw.op rfl rfl ?_
                  refine rdraw.done ?_
                  cases h64
                  exact ⟨_, rfl, (Gh.ren0 [0, 1] (.cells rfl rfl (.keep .int (.keep .int (.keep .int (.keep .int (.keep .int (.keep .int (.keep .str (.keep .str (.keep .str .nil))))))))) (.cells rfl rfl (.keep .int (.keep .int (.keep .int (.keep .int (.keep .int (.keep .str (.keep .str (.keep .str .nil)))))))) .nil)) rfl (.cons rfl (.dat (ek_TItem.rlst)) (.cons rfl (.ptr rfl) (.cons rfl (.ptr rfl) (.cons rfl (.dat .int) (.cons rfl (.dat .bool) .nil))))))⟩
          · intro y hC
            subst hC
            cases hb : y24
            · have h65 := iteBF h54 hb
              refine RW.cond_f rfl ?_
              refine RW.skip ?_
              refine RW.reg ?_
              refine rl.run 3 rfl ?_
              refine rl.done ?_
              cases h65
              exact hB50 _ rfl _ _ (Gh.ren0 [0, 1] (.cells rfl rfl (.keep .int (.keep .int (.keep .int (.keep .int (.keep .int (.keep .int (.keep .str (.keep .str (.keep .str .nil))))))))) (.cells rfl rfl (.keep .int (.keep .int (.keep .int (.keep .int (.keep .int (.keep .str (.keep .str (.keep .str .nil)))))))) .nil)) rfl (.cons rfl (.dat (ek_TItem.rlst)) (.cons rfl (.ptr rfl) (.cons rfl (.ptr rfl) (.cons rfl (.dat .int) .nil)))))
            · have h66 := iteBT h54 hb
              refine RW.cond_t rfl ?_
              refine RW.sreg ?_
              refine rl.run 1 rfl ?_
              refine rl.done ?_
              refine RW.ret ?_
              cases h66
              have h67 := elimL h51 (hE50 _ rfl)
              cases h67
              exact RRet.mk rfl .bool (by first | decide | simp)
      · intro y23 hC
        have h51 := elimR h51 hC
        refine RW.sreg ?_
        refine rl.run 3 rfl ?_
        obtain ⟨v30, e30, h68⟩ := bindS h51
        refine rl.call rfl rfl rfl (CallW.val (r' := .bool v30) ok_spec_l08There (law_spec_l08There e30) (.cons (.lst ek_TItem) (.cons .int .nil)) .refl ?_)
        refine rl.run 1 rfl ?_
        refine rl.done ?_
        refine RW.ret ?_
        cases h68
        exact RRet.mk rfl .bool (by first | decide | simp)
theorem law_spec_NeededAll {x0 : List TItem} {r : List Bool} (hF : F_spec_NeededAll x0 = some r) : PCalls Try.prog 18 [.lst false 9 (fl (enc_TItem false) x0) x0.length] (.lst true 1 (fl (encO true) r) r.length) := by
  refine PCalls.of_r k_spec_NeededAll rfl ?_
  unfold F_spec_NeededAll at hF
  refine RW.sreg ?_
  refine rl.run 1 rfl ?_
  refine rl.done ?_
  refine RW.sreg ?_
  refine rl.run 1 rfl ?_
  obtain ⟨v1, e1, h1⟩ := bindS hF
  refine rl.call rfl rfl rfl (CallW.val (r' := .bool v1) ok_spec_ItemsOk (law_spec_ItemsOk e1) (.cons (.lst ek_TItem) .nil) .refl ?_)
  cases hb : v1
  · have h2 := iteBF h1 hb
    refine rl.run 1 rfl ?_
    refine rl.done ?_
    refine RW.sreg ?_
    refine rl.run 2 rfl ?_
    refine rl.done ?_
    refine RW.seq ?_
    refine RW.sreg ?_
    refine rl.run 1 rfl ?_
    refine rl.done ?_
    refine RW.gh (Gh.nil_t 4 1 rfl) ?_
    obtain ⟨y5, ey5, h4⟩ := bindS h2
    refine RW.cutq (σ := (List Bool)) (fun y3 => [(4, .sl 0 0 y3.length)]) (fun y3 => [some ⟨fl (encO true) y3, 1⟩]) (fun y => y5 = y) (fun _ _ _ _ g h => RW.gh g h) ?_ ?_
    · refine RW.blk ?_
      refine RW.iter (σ := Int × (List Bool)) ey5 (fun s2 => [(0, .lst false 9 (fl (enc_TItem false) x0) x0.length), (3, .bool false), (4, .sl 0 0 s2.2.length), (5, .int .i64 s2.1)]) (fun s2 => [some ⟨fl (encO true) s2.2, 1⟩]) (Gh.ren0 [0] (.same rfl (ekO.fref _ _) .nil) rfl (.cons rfl (.dat (ek_TItem.rlst)) (.cons rfl (.dat .bool) (.cons rfl (.slq rfl rfl) (.cons rfl (.dat .int) .nil))))) (fun s2 B o hS3 hB3 hE3 => ?_)
      unfold S_spec_NeededAll_1 at hS3
      refine RW.seq ?_
      refine RW.sreg ?_
      refine rl.run 3 rfl ?_
      refine rl.gen rfl rfl fun b hb => ?_
      cases b
      · have h5 := iteBF hS3 hb
        refine rl.done ?_
        refine RW.cond_f rfl ?_
        refine RW.exit ?_
        refine blkA_eq ?_
        cases h5
        exact ⟨_, (hE3 _ rfl).symm, (Gh.ren0 [0] (.same rfl (ekO.fref _ _) .nil) rfl (.cons rfl (.slq rfl rfl) .nil))⟩
      · have h6 := iteBT hS3 hb
        refine rl.done ?_
        refine RW.cond_t rfl ?_
        refine RW.skip ?_
        refine RW.seq ?_
        refine RW.blk ?_
        refine RW.reg ?_
        refine rl.run 8 rfl ?_
        obtain ⟨v4, e4, h7⟩ := bindS h6
        refine rl.op (x_app rfl rfl (rapp_sl (l := s2.2) (m := [false]) (o := true) ekO rfl rfl (acont_slq (m := [false]) (o := true) fkO rfl rfl) rfl (fkO.fst _ _) e4)) ?_
        refine rl.run 1 rfl ?_
        refine rl.done ?_
        refine RW.reg ?_
        refine rl.run 3 rfl ?_
        refine rl.done ?_
        cases h7
        exact hB3 _ rfl _ _ (Gh.ren0 [2] (.same rfl (ekO.fref _ _) .nil) rfl (.cons rfl (.dat (ek_TItem.rlst)) (.cons rfl (.dat .bool) (.cons rfl (.slq rfl rfl) (.cons rfl (.dat .int) .nil)))))
    · intro y3 hC
      subst hC
      refine RW.sreg ?_
      refine rl.run 2 rfl ?_
      refine rl.done ?_
      refine RW.ret ?_
      cases h4
      exact RRet.mk rfl (OutR.ownq ekO rfl rfl) (by first | decide | simp)
  · have h8 := iteBT h1 hb
    refine rl.run 1 rfl ?_
    refine rl.done ?_
    refine RW.sreg ?_
    refine rl.run 2 rfl ?_
    refine rl.done ?_
    refine RW.seq ?_
    refine RW.sreg ?_
    refine rl.run 1 rfl ?_
    refine rl.done ?_
    refine RW.gh (Gh.nil_t 4 1 rfl) ?_
    obtain ⟨y10, ey10, h10⟩ := bindS h8
    refine RW.cutq (σ := (List Bool)) (fun y7 => [(4, .sl 0 0 y7.length)]) (fun y7 => [some ⟨fl (encO true) y7, 1⟩]) (fun y => y10 = y) (fun _ _ _ _ g h => RW.gh g h) ?_ ?_
    · refine RW.blk ?_
      refine RW.iter (σ := Int × (List Bool)) ey10 (fun s6 => [(0, .lst false 9 (fl (enc_TItem false) x0) x0.length), (3, .bool true), (4, .sl 0 0 s6.2.length), (5, .int .i64 s6.1)]) (fun s6 => [some ⟨fl (encO true) s6.2, 1⟩]) (Gh.ren0 [0] (.same rfl (ekO.fref _ _) .nil) rfl (.cons rfl (.dat (ek_TItem.rlst)) (.cons rfl (.dat .bool) (.cons rfl (.slq rfl rfl) (.cons rfl (.dat .int) .nil))))) (fun s6 B o hS9 hB9 hE9 => ?_)
      unfold S_spec_NeededAll_2 at hS9
      refine RW.seq ?_
      refine RW.sreg ?_
      refine rl.run 3 rfl ?_
      refine rl.gen rfl rfl fun b hb => ?_
      cases b
      · have h11 := iteBF hS9 hb
        refine rl.done ?_
        refine RW.cond_f rfl ?_
        refine RW.exit ?_
        refine blkA_eq ?_
        cases h11
        exact ⟨_, (hE9 _ rfl).symm, (Gh.ren0 [0] (.same rfl (ekO.fref _ _) .nil) rfl (.cons rfl (.slq rfl rfl) .nil))⟩
      · have h12 := iteBT hS9 hb
        refine rl.done ?_
        refine RW.cond_t rfl ?_
        refine RW.skip ?_
        refine RW.seq ?_
        refine RW.blk ?_
        refine RW.reg ?_
        refine rl.run 5 rfl ?_
        obtain ⟨v8, e8, h13⟩ := bindS h12
        refine rl.call rfl rfl rfl (CallW.val (r' := .bool v8) ok_spec_l08Need (law_spec_l08Need e8) (.cons (.lst ek_TItem) (.cons .int .nil)) .refl ?_)
        refine rl.run 2 rfl ?_
        obtain ⟨v9, e9, h14⟩ := bindS h13
        refine rl.op (x_app rfl rfl (rapp_sl (l := s6.2) (m := [v8]) (o := true) ekO rfl rfl (acont_slq (m := [v8]) (o := true) fkO rfl rfl) rfl (fkO.fst _ _) e9)) ?_
        refine rl.run 1 rfl ?_
        refine rl.done ?_
        refine RW.reg ?_
        refine rl.run 3 rfl ?_
        refine rl.done ?_
        cases h14
        exact hB9 _ rfl _ _ (Gh.ren0 [2] (.same rfl (ekO.fref _ _) .nil) rfl (.cons rfl (.dat (ek_TItem.rlst)) (.cons rfl (.dat .bool) (.cons rfl (.slq rfl rfl) (.cons rfl (.dat .int) .nil)))))
    · intro y7 hC
      subst hC
      refine RW.sreg ?_
      refine rl.run 2 rfl ?_
      refine rl.done ?_
      refine RW.ret ?_
      cases h10
      exact RRet.mk rfl (OutR.ownq ekO rfl rfl) (by first | decide | simp)
theorem law_laws_toRec {x0 : TRec} {r : TRec} (hF : F_laws_toRec x0 = some r) : PCalls Try.prog 129 [.agg (enc_TRec false x0)] (.agg (enc_TRec true r)) := by
  refine PCalls.of_r k_laws_toRec rfl ?_
  unfold F_laws_toRec at hF
  refine RW.sreg ?_
  refine rl.run 2 rfl ?_
  refine rl.done ?_
  refine RW.sreg ?_
  refine rl.run 1 rfl ?_
  refine rl.done ?_
  refine RW.sreg ?_
  refine rl.run 4 rfl ?_
  refine rl.done ?_
  refine RW.sreg ?_
  refine rl.run 4 rfl ?_
  refine rl.done ?_
  refine RW.sreg ?_
  refine rl.run 4 rfl ?_
  refine rl.done ?_
  refine RW.sreg ?_
  refine rl.run 4 rfl ?_
  refine rl.done ?_
  refine RW.keep [1, 2, 3] (a' := [(1, .ptr 0 0), (2, .ptr 1 0), (3, .ptr 2 0)]) (H' := [some ⟨[.int .i64 x0.Kind, .int .i64 x0.Valid, .int .i64 x0.Uid, .int .i64 x0.Next, .int .i64 x0.Flags, .str x0.User, .str x0.Name, .str x0.Text], 0⟩, some ⟨[.int .i64 0, .int .i64 0, .int .i64 0, .int .i64 0, .int .i64 0, .str [], .str [], .str []], 0⟩, some ⟨[.int .i64 x0.Kind, .int .i64 x0.Valid, .int .i64 x0.Uid, .int .i64 x0.Next, .int .i64 0, .str [], .str [], .str []], 0⟩]) rfl rfl ?_
  refine RW.sreg ?_
  refine rl.run 4 rfl ?_
  refine rl.done ?_
  refine RW.sreg ?_
  refine rl.run 4 rfl ?_
  refine rl.done ?_
  refine RW.sreg ?_
  refine rl.run 4 rfl ?_
  refine rl.done ?_
  refine RW.sreg ?_
  refine rl.run 4 rfl ?_
  refine rl.done ?_
  refine RW.keep [2, 3] (a' := [(2, .ptr 1 0), (3, .ptr 2 0)]) (H' := [some ⟨[.int .i64 x0.Kind, .int .i64 x0.Valid, .int .i64 x0.Uid, .int .i64 x0.Next, .int .i64 x0.Flags, .str x0.User, .str x0.Name, .str x0.Text], 0⟩, some ⟨[.int .i64 0, .int .i64 0, .int .i64 0, .int .i64 0, .int .i64 0, .str [], .str [], .str []], 0⟩, some ⟨[.int .i64 x0.Kind, .int .i64 x0.Valid, .int .i64 x0.Uid, .int .i64 x0.Next, .int .i64 x0.Flags, .str x0.User, .str x0.Name, .str x0.Text], 0⟩]) rfl rfl ?_
  refine RW.sreg ?_
  refine rl.run 2 rfl ?_
  refine rl.done ?_
  refine RW.ret ?_
  cases hF
  exact RRet.mk rfl (OutL.agg (.cons .int rfl (.cons .int rfl (.cons .int rfl (.cons .int rfl (.cons .int rfl (.cons .str rfl (.cons .str rfl (.cons .str rfl .nil))))))))) (by first | decide | simp)
theorem law_laws_toItem {x0 : TItem} {r : TItem} (hF : F_laws_toItem x0 = some r) : PCalls Try.prog 70 [.agg (enc_TItem false x0)] (.agg (enc_TItem true r)) := by
  refine PCalls.of_r k_laws_toItem rfl ?_
  unfold F_laws_toItem at hF
  refine RW.sreg ?_
  refine rl.run 2 rfl ?_
  refine rl.done ?_
  refine RW.sreg ?_
  refine rl.run 1 rfl ?_
  refine rl.done ?_
  refine RW.sreg ?_
  refine rl.run 4 rfl ?_
  refine rl.done ?_
  refine RW.sreg ?_
  refine rl.run 2 rfl ?_
  obtain ⟨v1, e1, h1⟩ := bindS hF
  refine rl.call rfl rfl rfl (CallW.val (r' := .agg (enc_TRec false v1)) ok_laws_toRec (law_laws_toRec e1) (.cons (DFL.agg (.cons .int (.cons .int (.cons .int (.cons .int (.cons .int (.cons .str (.cons .str (.cons .str .nil))))))))) .nil) .refl ?_)
  refine rl.run 2 rfl ?_
  refine rl.done ?_
  refine RW.sreg ?_
  refine rl.run 2 rfl ?_
  refine rl.done ?_
  refine RW.keep [2] (a' := [(2, .ptr 1 0)]) (H' := [some ⟨[.int .i64 x0.Seq, .int .i64 x0.Rec.Kind, .int .i64 x0.Rec.Valid, .int .i64 x0.Rec.Uid, .int .i64 x0.Rec.Next, .int .i64 x0.Rec.Flags, .str x0.Rec.User, .str x0.Rec.Name, .str x0.Rec.Text], 0⟩, some ⟨[.int .i64 x0.Seq, .int .i64 v1.Kind, .int .i64 v1.Valid, .int .i64 v1.Uid, .int .i64 v1.Next, .int .i64 v1.Flags, .str v1.User, .str v1.Name, .str v1.Text], 0⟩, some ⟨[.int .i64 x0.Seq, .int .i64 v1.Kind, .int .i64 v1.Valid, .int .i64 v1.Uid, .int .i64 v1.Next, .int .i64 v1.Flags, .str v1.User, .str v1.Name, .str v1.Text], 0⟩]) rfl rfl ?_
  refine RW.ret ?_
  cases h1
  exact RRet.mk rfl (OutL.agg (.cons .int rfl (.cons .int rfl (.cons .int rfl (.cons .int rfl (.cons .int rfl (.cons .int rfl (.cons .str rfl (.cons .str rfl (.cons .str rfl .nil)))))))))) (by first | decide | simp)
theorem law_laws_toItemS {x0 : List TItem} {r : List TItem} (hF : F_laws_toItemS x0 = some r) : PCalls Try.prog 19 [.lst false 9 (fl (enc_TItem false) x0) x0.length] (.lst true 9 (fl (enc_TItem true) r) r.length) := by
  refine PCalls.of_r k_laws_toItemS rfl ?_
  unfold F_laws_toItemS at hF
  refine RW.sreg ?_
  refine rl.run 1 rfl ?_
  refine rl.done ?_
  refine RW.sreg ?_
  refine rl.run 2 rfl ?_
  obtain ⟨v1, e1, h1⟩ := bindS hF
  refine rl.op (x_ms ek_TItem rfl rfl e1 rfl) ?_
  refine rl.run 1 rfl ?_
  refine rl.done ?_
  refine RW.seq ?_
  refine RW.sreg ?_
  refine rl.run 1 rfl ?_
  refine rl.done ?_
  obtain ⟨y8, ey8, h3⟩ := bindS h1
  refine RW.cutq (σ := (List TItem)) (fun y3 => [(3, .sl 0 0 y3.length)]) (fun y3 => [some ⟨fl (enc_TItem true) y3, 9⟩]) (fun y => y8 = y) (fun _ _ _ _ g h => RW.gh g h) ?_ ?_
  · refine RW.blk ?_
    refine RW.iter (σ := Int × (List TItem)) ey8 (fun s2 => [(0, .lst false 9 (fl (enc_TItem false) x0) x0.length), (3, .sl 0 0 s2.2.length), (4, .int .i64 s2.1)]) (fun s2 => [some ⟨fl (enc_TItem true) s2.2, 9⟩]) (Gh.ren0 [0] (.same rfl (ek_TItem.fref _ _) .nil) rfl (.cons rfl (.dat (ek_TItem.rlst)) (.cons rfl (.slq rfl rfl) (.cons rfl (.dat .int) .nil)))) (fun s2 B o hS2 hB2 hE2 => ?_)
    unfold S_laws_toItemS_1 at hS2
    refine RW.seq ?_
    refine RW.sreg ?_
    refine rl.run 3 rfl ?_
    refine rl.gen rfl rfl fun b hb => ?_
    cases b
    · have h4 := iteBF hS2 hb
      refine rl.done ?_
      refine RW.cond_f rfl ?_
      refine RW.exit ?_
      refine blkA_eq ?_
      cases h4
      exact ⟨_, (hE2 _ rfl).symm, (Gh.ren0 [0] (.same rfl (ek_TItem.fref _ _) .nil) rfl (.cons rfl (.slq rfl rfl) .nil))⟩
    · have h5 := iteBT hS2 hb
      refine rl.done ?_
      refine RW.cond_t rfl ?_
      refine RW.skip ?_
      refine RW.seq ?_
      refine RW.blk ?_
      refine RW.reg ?_
      refine rl.run 4 rfl ?_
      obtain ⟨v4, e4, h6⟩ := bindS h5
      refine rl.op (x_ia_lst (enc := enc_TItem) (o := false) rfl rfl rfl e4) ?_
      refine rl.op (x_ld_ela (off' := 0) (vs := (enc_TItem false v4)) ek_TItem rfl e4 rfl rfl rfl) ?_
      obtain ⟨v5, e5, h7⟩ := bindS h6
      refine rl.call rfl rfl rfl (CallW.val (r' := .agg (enc_TItem false v5)) ok_laws_toItem (law_laws_toItem e5) (.cons (.dat (.agg (ek_TItem.dat false _))) .nil) .refl ?_)
      obtain ⟨v6, e6, h8⟩ := bindS h7
      refine rl.op (x_ia_sl rfl rfl rfl rfl e6) ?_
      obtain ⟨v7, e7, h9⟩ := bindS h8
      refine rl.op0 (x_st_sl' (off' := 0) (o := true) (e' := v5) ek_TItem e6 rfl rfl rfl rfl rfl rfl rfl rfl rfl e7) ?_
      refine rl.done ?_
      refine RW.reg ?_
      refine rl.run 3 rfl ?_
      refine rl.done ?_
      cases h9
      exact hB2 _ rfl _ _ (Gh.ren0 [0] (.same rfl (ek_TItem.fref _ _) .nil) rfl (.cons rfl (.dat (ek_TItem.rlst)) (.cons rfl (.slq rfl (set'_len e7)) (.cons rfl (.dat .int) .nil))))
  · intro y3 hC
    subst hC
    refine RW.sreg ?_
    refine rl.run 2 rfl ?_
    refine rl.done ?_
    refine RW.ret ?_
    cases h3
    exact RRet.mk rfl (OutR.ownq ek_TItem rfl rfl) (by first | decide | simp)
theorem law_impl_in {x0 : Int} {x1 : Int} {x2 : Int} {r : Bool} (hF : F_impl_in x0 x1 x2 = some r) : PCalls Try.prog 130 [.int .i64 x0, .int .i64 x1, .int .i64 x2] (.bool r) := by
  refine PCalls.of_r k_impl_in rfl ?_
  unfold F_impl_in at hF
  refine RW.sreg ?_
  refine rl.run 1 rfl ?_
  refine rl.done ?_
  refine RW.sreg ?_
  refine rl.run 2 rfl ?_
  refine rl.gen rfl rfl fun b hb => ?_
  cases b
  · have h1 := iteBF hF hb
    refine rl.run 6 rfl ?_
    refine rl.done ?_
    refine RW.keep [6] (a' := [(6, .bool false)]) (H' := []) rfl rfl ?_
    refine RW.ret ?_
    cases h1
    exact RRet.mk rfl .bool (by first | decide | simp)
  · have h2 := iteBT hF hb
    refine rl.run 6 rfl ?_
    refine rl.done ?_
    refine RW.keep [6] (a' := [(6, .bool (decide (x0 ≤ x2)))]) (H' := []) rfl rfl ?_
    refine RW.ret ?_
    cases h2
    exact RRet.mk rfl .bool (by first | decide | simp)
theorem law_impl_WordOk {x0 : List UInt8} {r : Bool} (hF : F_impl_WordOk x0 = some r) : PCalls Try.prog 190 [.str x0] (.bool r) := by
  refine PCalls.of_r k_impl_WordOk rfl ?_
  unfold F_impl_WordOk at hF
  refine RW.sreg ?_
  refine rl.run 1 rfl ?_
  refine rl.done ?_
  refine RW.seq ?_
  refine RW.sreg ?_
  refine rl.run 2 rfl ?_
  obtain ⟨v1, e1, h1⟩ := bindS hF
  refine rl.call rfl rfl rfl (CallW.val (r' := .bool v1) ok_impl_in (law_impl_in e1) (.cons .int (.cons .int (.cons .int .nil))) .refl ?_)
  cases hb : v1
  · have h2 := iteBF h1 hb
    refine rl.run 1 rfl ?_
    refine rl.done ?_
    refine RW.cond_t rfl ?_
    refine RW.sreg ?_
    refine rl.run 1 rfl ?_
    refine rl.done ?_
    refine RW.ret ?_
    cases h2
    exact RRet.mk rfl .bool (by first | decide | simp)
  · have h3 := iteBT h1 hb
    refine rl.run 1 rfl ?_
    refine rl.done ?_
    refine RW.cond_f rfl ?_
    refine RW.skip ?_
    refine RW.seq ?_
    refine RW.sreg ?_
    refine rl.run 3 rfl ?_
    refine rl.done ?_
    obtain ⟨y7, ey7, h5⟩ := bindS h3
    refine RW.cutq (σ := Unit) (fun y3 => []) (fun y3 => []) (fun y => y7 = .inr y) (fun _ _ _ _ g h => RW.gh g h) ?_ ?_
    · refine RW.blk ?_
      refine RW.iter (σ := Int) ey7 (fun s2 => [(0, .str x0), (9, .int .i64 (x0.length : Int)), (10, .int .i64 s2)]) (fun s2 => []) (Gh.ren0 [] .nil rfl (.cons rfl (.dat .str) (.cons rfl (.dat .int) (.cons rfl (.dat .int) .nil)))) (fun s2 B o hS4 hB4 hE4 => ?_)
      unfold S_impl_WordOk_1 at hS4
      refine RW.sreg ?_
      refine rl.gen rfl rfl fun b hb => ?_
      cases b
      · have h6 := iteBF hS4 hb
        refine rl.done ?_
        refine RW.seq ?_
        refine RW.cond_f rfl ?_
        refine RW.exit ?_
        refine blkA_eq ?_
        cases h6
        exact ⟨_, (hE4 _ rfl).symm, (Gh.ren0 [] .nil rfl .nil)⟩
      · have h7 := iteBT hS4 hb
        refine rl.done ?_
        refine RW.seq ?_
        refine RW.cond_t rfl ?_
        refine RW.skip ?_
        refine RW.seq ?_
        refine RW.blk ?_
        refine RW.sreg ?_
        refine rl.run 2 rfl ?_
        refine rl.done ?_
        refine RW.seq ?_
        obtain ⟨y4, ey4, h8⟩ := bindS h7
        refine RW.cutq (σ := Bool) (fun y4 => [(0, .str x0), (9, .int .i64 (x0.length : Int)), (10, .int .i64 s2), (22, .bool y4)]) (fun y4 => []) (fun y => y4 = y) (fun _ _ _ _ g h => RW.gh g h) ?_ ?_
        · refine RW.reg ?_
          refine rl.run 2 rfl ?_
          obtain ⟨v5, e5, h9⟩ := bindS ey4
          refine rl.op (x_idx rfl rfl e5) ?_
          refine rl.gen rfl rfl fun b hb => ?_
          cases b
          · have h10 := iteBF h9 hb
            refine rl.run 3 rfl ?_
            obtain ⟨v6, e6, h11⟩ := bindS h10
            refine rl.gop rfl (x_idx rfl rfl e6) ?_
            refine rl.gen rfl rfl fun b hb => ?_
            cases b
            · have h12 := iteBF h11 hb
              refine rl.run 1 rfl ?_
              refine rl.done ?_
              cases h12
              exact ⟨_, rfl, (Gh.ren0 [] .nil rfl (.cons rfl (.dat .str) (.cons rfl (.dat .int) (.cons rfl (.dat .int) (.cons rfl (.dat .bool) .nil)))))⟩
            · have h13 := iteBT h11 hb
              refine rl.run 1 rfl ?_
              refine rl.done ?_
              cases h13
              exact ⟨_, rfl, (Gh.ren0 [] .nil rfl (.cons rfl (.dat .str) (.cons rfl (.dat .int) (.cons rfl (.dat .int) (.cons rfl (.dat .bool) .nil)))))⟩
          · have h14 := iteBT h9 hb
            refine rl.run 6 rfl ?_
            refine rl.done ?_
            cases h14
            exact ⟨_, rfl, (Gh.ren0 [] .nil rfl (.cons rfl (.dat .str) (.cons rfl (.dat .int) (.cons rfl (.dat .int) (.cons rfl (.dat .bool) .nil)))))⟩
        · intro y hC
          subst hC
          cases hb : y4
          · have h15 := iteBF h8 hb
            refine RW.cond_f rfl ?_
            refine RW.skip ?_
            refine RW.reg ?_
            refine rl.run 2 rfl ?_
            refine rl.done ?_
            cases h15
            exact hB4 _ rfl _ _ (Gh.ren0 [] .nil rfl (.cons rfl (.dat .str) (.cons rfl (.dat .int) (.cons rfl (.dat .int) .nil))))
          · have h16 := iteBT h8 hb
            refine RW.cond_t rfl ?_
            refine RW.sreg ?_
            refine rl.run 1 rfl ?_
            refine rl.done ?_
            refine RW.ret ?_
            cases h16
            have h17 := elimL h5 (hE4 _ rfl)
            cases h17
            exact RRet.mk rfl .bool (by first | decide | simp)
    · intro y3 hC
      have h5 := elimR h5 hC
      refine RW.sreg ?_
      refine rl.run 1 rfl ?_
      refine rl.done ?_
      refine RW.ret ?_
      cases h5
      exact RRet.mk rfl .bool (by first | decide | simp)
theorem law_impl_RecOk {x0 : TRec} {r : Bool} (hF : F_impl_RecOk x0 = some r) : PCalls Try.prog 131 [.agg (enc_TRec false x0)] (.bool r) := by
  refine PCalls.of_r k_impl_RecOk rfl ?_
  unfold F_impl_RecOk at hF
  refine RW.sreg ?_
  refine rl.run 2 rfl ?_
  refine rl.done ?_
  refine RW.seq ?_
  refine RW.sreg ?_
  refine rl.run 2 rfl ?_
  obtain ⟨v1, e1, h1⟩ := bindS hF
  refine rl.call rfl rfl rfl (CallW.val (r' := .bool v1) ok_impl_in (law_impl_in e1) (.cons .int (.cons .int (.cons .int .nil))) .refl ?_)
  cases hb : v1
  · have h2 := iteBF h1 hb
    refine rl.run 1 rfl ?_
    refine rl.done ?_
    refine RW.cond_t rfl ?_
    refine RW.sreg ?_
    refine rl.run 1 rfl ?_
    refine rl.done ?_
    refine RW.ret ?_
    cases h2
    exact RRet.mk rfl .bool (by first | decide | simp)
  · have h3 := iteBT h1 hb
    refine rl.run 1 rfl ?_
    refine rl.done ?_
    refine RW.cond_f rfl ?_
    refine RW.skip ?_
    refine RW.sreg ?_
    refine rl.run 3 rfl ?_
    refine rl.done ?_
    refine RW.sreg ?_
    refine rl.run 4 rfl ?_
    refine rl.done ?_
    refine RW.sreg ?_
    refine rl.run 1 rfl ?_
    refine rl.done ?_
    refine RW.seq ?_
    refine RW.seq ?_
    obtain ⟨y2, ey2, h4⟩ := bindS h3
    refine RW.cutq (σ := Bool) (fun y2 => [(1, .ptr 0 0), (3, .ptr 1 0), (4, .bool true), (24, .bool y2)]) (fun y2 => [some ⟨[.int .i64 x0.Kind, .int .i64 x0.Valid, .int .i64 x0.Uid, .int .i64 x0.Next, .int .i64 x0.Flags, .str x0.User, .str x0.Name, .str x0.Text], 0⟩, some ⟨[.int .i64 0, .int .i64 0, .int .i64 x0.Uid, .int .i64 x0.Next, .int .i64 x0.Flags, .str x0.User, .str x0.Name, .str x0.Text], 0⟩]) (fun y => y2 = y) (fun _ _ _ _ g h => RW.gh g h) ?_ ?_
    · refine RW.reg ?_
      refine rl.run 2 rfl ?_
      refine rl.gen rfl rfl fun b hb => ?_
      cases b
      · have h5 := iteBF ey2 hb
        refine rl.run 3 rfl ?_
        refine rl.gen rfl rfl fun b hb => ?_
        cases b
        · have h6 := iteBF h5 hb
          refine rl.run 4 rfl ?_
          refine rl.gen rfl rfl fun b hb => ?_
          cases b
          · have h7 := iteBF h6 hb
            refine rl.run 1 rfl ?_
            refine rl.done ?_
            cases h7
            exact ⟨_, rfl, (Gh.ren0 [0, 1] (.cells rfl rfl (.keep .int (.keep .int (.keep .int (.keep .int (.keep .int (.keep .str (.keep .str (.keep .str .nil)))))))) (.cells rfl rfl (.keep .int (.keep .int (.keep .int (.keep .int (.keep .int (.keep .str (.keep .str (.keep .str .nil)))))))) .nil)) rfl (.cons rfl (.ptr rfl) (.cons rfl (.ptr rfl) (.cons rfl (.dat .bool) (.cons rfl (.dat .bool) .nil)))))⟩
          · have h8 := iteBT h6 hb
            refine rl.run 1 rfl ?_
            refine rl.done ?_
            cases h8
            exact ⟨_, rfl, (Gh.ren0 [0, 1] (.cells rfl rfl (.keep .int (.keep .int (.keep .int (.keep .int (.keep .int (.keep .str (.keep .str (.keep .str .nil)))))))) (.cells rfl rfl (.keep .int (.keep .int (.keep .int (.keep .int (.keep .int (.keep .str (.keep .str (.keep .str .nil)))))))) .nil)) rfl (.cons rfl (.ptr rfl) (.cons rfl (.ptr rfl) (.cons rfl (.dat .bool) (.cons rfl (.dat .bool) .nil)))))⟩
        · have h9 := iteBT h5 hb
          refine rl.run 6 rfl ?_
          refine rl.done ?_
          cases h9
          exact ⟨_, rfl, (Gh.ren0 [0, 1] (.cells rfl rfl (.keep .int (.keep .int (.keep .int (.keep .int (.keep .int (.keep .str (.keep .str (.keep .str .nil)))))))) (.cells rfl rfl (.keep .int (.keep .int (.keep .int (.keep .int (.keep .int (.keep .str (.keep .str (.keep .str .nil)))))))) .nil)) rfl (.cons rfl (.ptr rfl) (.cons rfl (.ptr rfl) (.cons rfl (.dat .bool) (.cons rfl (.dat .bool) .nil)))))⟩
      · have h10 := iteBT ey2 hb
        refine rl.run 10 rfl ?_
        refine rl.done ?_
        cases h10
        exact ⟨_, rfl, (Gh.ren0 [0, 1] (.cells rfl rfl (.keep .int (.keep .int (.keep .int (.keep .int (.keep .int (.keep .str (.keep .str (.keep .str .nil)))))))) (.cells rfl rfl (.keep .int (.keep .int (.keep .int (.keep .int (.keep .int (.keep .str (.keep .str (.keep .str .nil)))))))) .nil)) rfl (.cons rfl (.ptr rfl) (.cons rfl (.ptr rfl) (.cons rfl (.dat .bool) (.cons rfl (.dat .bool) .nil)))))⟩
    · intro y hC
      subst hC
      obtain ⟨y3, ey3, h11⟩ := bindS h4
      refine RW.cutq (σ := Bool × Int) (fun y3 => [(1, .ptr 0 0), (3, .ptr 1 0), (4, .bool y3.1)]) (fun y3 => [some ⟨[.int .i64 x0.Kind, .int .i64 x0.Valid, .int .i64 x0.Uid, .int .i64 x0.Next, .int .i64 x0.Flags, .str x0.User, .str x0.Name, .str x0.Text], 0⟩, some ⟨[.int .i64 0, .int .i64 0, .int .i64 y3.2, .int .i64 x0.Next, .int .i64 x0.Flags, .str x0.User, .str x0.Name, .str x0.Text], 0⟩]) (fun y => y3 = y) (fun _ _ _ _ g h => RW.gh g h) ?_ ?_
      · cases hb : y2
        · have h12 := iteBF ey3 hb
          refine RW.cond_f rfl ?_
          refine RW.skip ?_
          cases h12
          exact ⟨_, rfl, (Gh.ren0 [0, 1] (.cells rfl rfl (.keep .int (.keep .int (.keep .int (.keep .int (.keep .int (.keep .str (.keep .str (.keep .str .nil)))))))) (.cells rfl rfl (.keep .int (.keep .int (.keep .int (.keep .int (.keep .int (.keep .str (.keep .str (.keep .str .nil)))))))) .nil)) rfl (.cons rfl (.ptr rfl) (.cons rfl (.ptr rfl) (.cons rfl (.dat .bool) .nil))))⟩
        · have h13 := iteBT ey3 hb
          refine RW.cond_t rfl ?_
          refine RW.sreg ?_
          refine rl.run 2 rfl ?_
          obtain ⟨v4, e4, h14⟩ := bindS h13
          refine rl.call rfl rfl rfl (CallW.val (r' := .bool v4) ok_impl_in (law_impl_in e4) (.cons .int (.cons .int (.cons .int .nil))) .refl ?_)
          cases hb : v4
          · have h15 := iteBF h14 hb
            refine rl.run 1 rfl ?_
            refine rl.done ?_
            refine RW.reg ?_
            refine rl.run 2 rfl ?_
            refine rl.done ?_
            cases h15
            exact ⟨_, rfl, (Gh.ren0 [0, 1] (.cells rfl rfl (.keep .int (.keep .int (.keep .int (.keep .int (.keep .int (.keep .str (.keep .str (.keep .str .nil)))))))) (.cells rfl rfl (.keep .int (.keep .int (.keep .int (.keep .int (.keep .int (.keep .str (.keep .str (.keep .str .nil)))))))) .nil)) rfl (.cons rfl (.ptr rfl) (.cons rfl (.ptr rfl) (.cons rfl (.dat .bool) .nil))))⟩
          · have h16 := iteBT h14 hb
            refine rl.run 1 rfl ?_
            refine rl.done ?_
            refine RW.reg ?_
            refine rl.run 2 rfl ?_
            refine rl.done ?_
            cases h16
            exact ⟨_, rfl, (Gh.ren0 [0, 1] (.cells rfl rfl (.keep .int (.keep .int (.keep .int (.keep .int (.keep .int (.keep .str (.keep .str (.keep .str .nil)))))))) (.cells rfl rfl (.keep .int (.keep .int (.keep .int (.keep .int (.keep .int (.keep .str (.keep .str (.keep .str .nil)))))))) .nil)) rfl (.cons rfl (.ptr rfl) (.cons rfl (.ptr rfl) (.cons rfl (.dat .bool) .nil))))⟩
      · intro y hC
        subst hC
        refine RW.seq ?_
        refine RW.seq ?_
        obtain ⟨y5, ey5, h17⟩ := bindS h11
        refine RW.cutq (σ := Bool) (fun y5 => [(1, .ptr 0 0), (3, .ptr 1 0), (4, .bool y3.1), (36, .bool y5)]) (fun y5 => [some ⟨[.int .i64 x0.Kind, .int .i64 x0.Valid, .int .i64 x0.Uid, .int .i64 x0.Next, .int .i64 x0.Flags, .str x0.User, .str x0.Name, .str x0.Text], 0⟩, some ⟨[.int .i64 0, .int .i64 0, .int .i64 y3.2, .int .i64 x0.Next, .int .i64 x0.Flags, .str x0.User, .str x0.Name, .str x0.Text], 0⟩]) (fun y => y5 = y) (fun _ _ _ _ g h => RW.gh g h) ?_ ?_
        · refine RW.reg ?_
          refine rl.run 2 rfl ?_
          refine rl.gen rfl rfl fun b hb => ?_
          cases b
          · have h18 := iteBF ey5 hb
            refine rl.run 3 rfl ?_
            refine rl.gen rfl rfl fun b hb => ?_
            cases b
            · have h19 := iteBF h18 hb
              refine rl.run 1 rfl ?_
              refine rl.done ?_
              cases h19
              exact ⟨_, rfl, (Gh.ren0 [0, 1] (.cells rfl rfl (.keep .int (.keep .int (.keep .int (.keep .int (.keep .int (.keep .str (.keep .str (.keep .str .nil)))))))) (.cells rfl rfl (.keep .int (.keep .int (.keep .int (.keep .int (.keep .int (.keep .str (.keep .str (.keep .str .nil)))))))) .nil)) rfl (.cons rfl (.ptr rfl) (.cons rfl (.ptr rfl) (.cons rfl (.dat .bool) (.cons rfl (.dat .bool) .nil)))))⟩
            · have h20 := iteBT h18 hb
              refine rl.run 1 rfl ?_
              refine rl.done ?_
              cases h20
              exact ⟨_, rfl, (Gh.ren0 [0, 1] (.cells rfl rfl (.keep .int (.keep .int (.keep .int (.keep .int (.keep .int (.keep .str (.keep .str (.keep .str .nil)))))))) (.cells rfl rfl (.keep .int (.keep .int (.keep .int (.keep .int (.keep .int (.keep .str (.keep .str (.keep .str .nil)))))))) .nil)) rfl (.cons rfl (.ptr rfl) (.cons rfl (.ptr rfl) (.cons rfl (.dat .bool) (.cons rfl (.dat .bool) .nil)))))⟩
          · have h21 := iteBT ey5 hb
            refine rl.run 5 rfl ?_
            refine rl.done ?_
            cases h21
            exact ⟨_, rfl, (Gh.ren0 [0, 1] (.cells rfl rfl (.keep .int (.keep .int (.keep .int (.keep .int (.keep .int (.keep .str (.keep .str (.keep .str .nil)))))))) (.cells rfl rfl (.keep .int (.keep .int (.keep .int (.keep .int (.keep .int (.keep .str (.keep .str (.keep .str .nil)))))))) .nil)) rfl (.cons rfl (.ptr rfl) (.cons rfl (.ptr rfl) (.cons rfl (.dat .bool) (.cons rfl (.dat .bool) .nil)))))⟩
        · intro y hC
          subst hC
          obtain ⟨y6, ey6, h22⟩ := bindS h17
          refine RW.cutq (σ := Bool × Int) (fun y6 => [(1, .ptr 0 0), (3, .ptr 1 0), (4, .bool y6.1)]) (fun y6 => [some ⟨[.int .i64 x0.Kind, .int .i64 x0.Valid, .int .i64 x0.Uid, .int .i64 x0.Next, .int .i64 x0.Flags, .str x0.User, .str x0.Name, .str x0.Text], 0⟩, some ⟨[.int .i64 0, .int .i64 0, .int .i64 y3.2, .int .i64 x0.Next, .int .i64 y6.2, .str x0.User, .str x0.Name, .str x0.Text], 0⟩]) (fun y => y6 = y) (fun _ _ _ _ g h => RW.gh g h) ?_ ?_
          · cases hb : y5
            · have h23 := iteBF ey6 hb
              refine RW.cond_f rfl ?_
              refine RW.skip ?_
              cases h23
              exact ⟨_, rfl, (Gh.ren0 [0, 1] (.cells rfl rfl (.keep .int (.keep .int (.keep .int (.keep .int (.keep .int (.keep .str (.keep .str (.keep .str .nil)))))))) (.cells rfl rfl (.keep .int (.keep .int (.keep .int (.keep .int (.keep .int (.keep .str (.keep .str (.keep .str .nil)))))))) .nil)) rfl (.cons rfl (.ptr rfl) (.cons rfl (.ptr rfl) (.cons rfl (.dat .bool) .nil))))⟩
            · have h24 := iteBT ey6 hb
              refine RW.cond_t rfl ?_
              refine RW.seq ?_
              obtain ⟨y7, ey7, h25⟩ := bindS h24
              refine RW.cutq (σ := Bool) (fun y7 => [(1, .ptr 0 0), (3, .ptr 1 0), (4, .bool y7)]) (fun y7 => [some ⟨[.int .i64 x0.Kind, .int .i64 x0.Valid, .int .i64 x0.Uid, .int .i64 x0.Next, .int .i64 x0.Flags, .str x0.User, .str x0.Name, .str x0.Text], 0⟩, some ⟨[.int .i64 0, .int .i64 0, .int .i64 y3.2, .int .i64 x0.Next, .int .i64 x0.Flags, .str x0.User, .str x0.Name, .str x0.Text], 0⟩]) (fun y => y7 = y) (fun _ _ _ _ g h => RW.gh g h) ?_ ?_
              · refine RW.reg ?_
                refine rl.run 2 rfl ?_
                cases hb : y3.1
                · have h26 := iteBF ey7 hb
                  refine rl.run 5 rfl ?_
                  refine rl.done ?_
                  cases h26
                  exact ⟨_, rfl, (Gh.ren0 [0, 1] (.cells rfl rfl (.keep .int (.keep .int (.keep .int (.keep .int (.keep .int (.keep .str (.keep .str (.keep .str .nil)))))))) (.cells rfl rfl (.keep .int (.keep .int (.keep .int (.keep .int (.keep .int (.keep .str (.keep .str (.keep .str .nil)))))))) .nil)) rfl (.cons rfl (.ptr rfl) (.cons rfl (.ptr rfl) (.cons rfl (.dat .bool) .nil))))⟩
                · have h27 := iteBT ey7 hb
                  refine rl.run 2 rfl ?_
                  obtain ⟨v8, e8, h28⟩ := bindS h27
                  refine rl.call rfl rfl rfl (CallW.val (r' := .bool v8) ok_impl_in (law_impl_in e8) (.cons .int (.cons .int (.cons .int .nil))) .refl ?_)
                  cases hb : v8
                  · have h29 := iteBF h28 hb
                    refine rl.run 2 rfl ?_
                    refine rl.done ?_
                    cases h29
                    exact ⟨_, rfl, (Gh.ren0 [0, 1] (.cells rfl rfl (.keep .int (.keep .int (.keep .int (.keep .int (.keep .int (.keep .str (.keep .str (.keep .str .nil)))))))) (.cells rfl rfl (.keep .int (.keep .int (.keep .int (.keep .int (.keep .int (.keep .str (.keep .str (.keep .str .nil)))))))) .nil)) rfl (.cons rfl (.ptr rfl) (.cons rfl (.ptr rfl) (.cons rfl (.dat .bool) .nil))))⟩
                  · have h30 := iteBT h28 hb
                    refine rl.run 2 rfl ?_
                    refine rl.done ?_
                    cases h30
                    exact ⟨_, rfl, (Gh.ren0 [0, 1] (.cells rfl rfl (.keep .int (.keep .int (.keep .int (.keep .int (.keep .int (.keep .str (.keep .str (.keep .str .nil)))))))) (.cells rfl rfl (.keep .int (.keep .int (.keep .int (.keep .int (.keep .int (.keep .str (.keep .str (.keep .str .nil)))))))) .nil)) rfl (.cons rfl (.ptr rfl) (.cons rfl (.ptr rfl) (.cons rfl (.dat .bool) .nil))))⟩
              · intro y hC
                subst hC
                refine RW.reg ?_
                refine rl.run 2 rfl ?_
                refine rl.done ?_
                cases h25
                exact ⟨_, rfl, (Gh.ren0 [0, 1] (.cells rfl rfl (.keep .int (.keep .int (.keep .int (.keep .int (.keep .int (.keep .str (.keep .str (.keep .str .nil)))))))) (.cells rfl rfl (.keep .int (.keep .int (.keep .int (.keep .int (.keep .int (.keep .str (.keep .str (.keep .str .nil)))))))) .nil)) rfl (.cons rfl (.ptr rfl) (.cons rfl (.ptr rfl) (.cons rfl (.dat .bool) .nil))))⟩
          · intro y hC
            subst hC
            refine RW.seq ?_
            refine RW.sreg ?_
            refine rl.run 2 rfl ?_
            refine rl.done ?_
            obtain ⟨y9, ey9, h31⟩ := bindS h22
            refine RW.cutq (σ := Bool × Int × (List UInt8) × (List UInt8) × (List UInt8)) (fun y9 => [(3, .ptr 0 0), (4, .bool y9.1)]) (fun y9 => [some ⟨[.int .i64 0, .int .i64 0, .int .i64 y3.2, .int .i64 y9.2.1, .int .i64 y6.2, .str y9.2.2.1, .str y9.2.2.2.1, .str y9.2.2.2.2], 0⟩]) (fun y => y9 = .inr y) (fun _ _ _ _ g h => RW.gh g h) ?_ ?_
            · refine RW.blk ?_
              refine RW.sreg ?_
              refine rl.gen rfl rfl fun b hb => ?_
              cases b
              · have h32 := iteBF ey9 hb
                refine rl.run 1 rfl ?_
                refine rl.done ?_
                refine RW.cond_f rfl ?_
                refine RW.sreg ?_
                refine rl.gen rfl rfl fun b hb => ?_
                cases b
                · have h33 := iteBF h32 hb
                  refine rl.run 1 rfl ?_
                  refine rl.done ?_
                  refine RW.cond_f rfl ?_
                  refine RW.seq ?_
                  refine RW.sreg ?_
                  refine rl.gen rfl rfl fun b hb => ?_
                  cases b
                  · have h34 := iteBF h33 hb
                    refine rl.run 1 rfl ?_
                    refine rl.done ?_
                    refine RW.cond_f rfl ?_
                    refine RW.sreg ?_
                    refine rl.gen rfl rfl fun b hb => ?_
                    cases b
                    · have h35 := iteBF h34 hb
                      refine rl.run 1 rfl ?_
                      refine rl.done ?_
                      refine RW.cond_f rfl ?_
                      refine RW.reg ?_
                      refine rl.gen rfl rfl fun b hb => ?_
                      cases b
                      · have h36 := iteBF h35 hb
                        refine rl.run 1 rfl ?_
                        refine rl.done ?_
                        refine RW.cond_f rfl ?_
                        refine RW.sreg ?_
                        refine rl.run 1 rfl ?_
                        refine rl.done ?_
                        refine RW.keep [2] (a' := [(2, .bool false)]) (H' := [some ⟨[.int .i64 x0.Kind, .int .i64 x0.Valid, .int .i64 x0.Uid, .int .i64 x0.Next, .int .i64 x0.Flags, .str x0.User, .str x0.Name, .str x0.Text], 0⟩, some ⟨[.int .i64 0, .int .i64 0, .int .i64 y3.2, .int .i64 x0.Next, .int .i64 y6.2, .str x0.User, .str x0.Name, .str x0.Text], 0⟩]) rfl rfl ?_
                        refine RW.ret ?_
                        cases h36
                        have h37 := elimL h31 rfl
                        cases h37
                        exact RRet.mk rfl .bool (by first | decide | simp)
                      · have h38 := iteBT h35 hb
                        refine rl.run 1 rfl ?_
                        refine rl.done ?_
                        refine RW.cond_t rfl ?_
                        refine RW.skip ?_
                        cases h38
                        exact ⟨_, rfl, (Gh.ren0 [1] (.cells rfl rfl (.keep .int (.keep .int (.keep .int (.keep .int (.keep .int (.keep .str (.keep .str (.keep .str .nil)))))))) .nil) rfl (.cons rfl (.ptr rfl) (.cons rfl (.dat .bool) .nil)))⟩
                    · have h39 := iteBT h34 hb
                      refine rl.run 1 rfl ?_
                      refine rl.done ?_
                      refine RW.cond_t rfl ?_
                      refine RW.skip ?_
                      refine RW.cond_t rfl ?_
                      refine RW.skip ?_
                      cases h39
                      exact ⟨_, rfl, (Gh.ren0 [1] (.cells rfl rfl (.keep .int (.keep .int (.keep .int (.keep .int (.keep .int (.keep .str (.keep .str (.keep .str .nil)))))))) .nil) rfl (.cons rfl (.ptr rfl) (.cons rfl (.dat .bool) .nil)))⟩
                  · have h40 := iteBT h33 hb
                    refine rl.run 1 rfl ?_
                    refine rl.done ?_
                    refine RW.cond_t rfl ?_
                    refine RW.skip ?_
                    refine RW.cond_t rfl ?_
                    refine RW.skip ?_
                    cases h40
                    exact ⟨_, rfl, (Gh.ren0 [1] (.cells rfl rfl (.keep .int (.keep .int (.keep .int (.keep .int (.keep .int (.keep .str (.keep .str (.keep .str .nil)))))))) .nil) rfl (.cons rfl (.ptr rfl) (.cons rfl (.dat .bool) .nil)))⟩
                · have h41 := iteBT h32 hb
                  refine rl.run 1 rfl ?_
                  refine rl.done ?_
                  refine RW.cond_t rfl ?_
                  refine RW.seq ?_
                  obtain ⟨y10, ey10, h42⟩ := bindS h41
                  refine RW.cutq (σ := Bool) (fun y10 => [(3, .ptr 0 0), (4, .bool y10)]) (fun y10 => [some ⟨[.int .i64 0, .int .i64 0, .int .i64 y3.2, .int .i64 x0.Next, .int .i64 y6.2, .str x0.User, .str x0.Name, .str x0.Text], 0⟩]) (fun y => y10 = y) (fun _ _ _ _ g h => RW.gh g h) ?_ ?_
                  · refine RW.reg ?_
                    refine rl.run 2 rfl ?_
                    cases hb : y6.1
                    · have h43 := iteBF ey10 hb
                      refine rl.run 6 rfl ?_
                      refine rl.done ?_
                      cases h43
                      exact ⟨_, rfl, (Gh.ren0 [1] (.cells rfl rfl (.keep .int (.keep .int (.keep .int (.keep .int (.keep .int (.keep .str (.keep .str (.keep .str .nil)))))))) .nil) rfl (.cons rfl (.ptr rfl) (.cons rfl (.dat .bool) .nil)))⟩
                    · have h44 := iteBT ey10 hb
                      refine rl.run 3 rfl ?_
                      refine rl.gen rfl rfl fun b hb => ?_
                      cases b
                      · have h45 := iteBF h44 hb
                        refine rl.run 2 rfl ?_
                        refine rl.done ?_
                        cases h45
                        exact ⟨_, rfl, (Gh.ren0 [1] (.cells rfl rfl (.keep .int (.keep .int (.keep .int (.keep .int (.keep .int (.keep .str (.keep .str (.keep .str .nil)))))))) .nil) rfl (.cons rfl (.ptr rfl) (.cons rfl (.dat .bool) .nil)))⟩
                      · have h46 := iteBT h44 hb
                        refine rl.run 2 rfl ?_
                        refine rl.done ?_
                        cases h46
                        exact ⟨_, rfl, (Gh.ren0 [1] (.cells rfl rfl (.keep .int (.keep .int (.keep .int (.keep .int (.keep .int (.keep .str (.keep .str (.keep .str .nil)))))))) .nil) rfl (.cons rfl (.ptr rfl) (.cons rfl (.dat .bool) .nil)))⟩
                  · intro y hC
                    subst hC
                    refine RW.reg ?_
                    refine rl.run 2 rfl ?_
                    refine rl.done ?_
                    cases h42
                    exact ⟨_, rfl, (Gh.ren0 [0] (.cells rfl rfl (.keep .int (.keep .int (.keep .int (.keep .int (.keep .int (.keep .str (.keep .str (.keep .str .nil)))))))) .nil) rfl (.cons rfl (.ptr rfl) (.cons rfl (.dat .bool) .nil)))⟩
              · have h47 := iteBT ey9 hb
                refine rl.run 1 rfl ?_
                refine rl.done ?_
                refine RW.cond_t rfl ?_
                refine RW.seq ?_
                obtain ⟨y11, ey11, h48⟩ := bindS h47
                refine RW.cutq (σ := Bool) (fun y11 => [(3, .ptr 0 0), (4, .bool y11)]) (fun y11 => [some ⟨[.int .i64 0, .int .i64 0, .int .i64 y3.2, .int .i64 x0.Next, .int .i64 y6.2, .str x0.User, .str x0.Name, .str x0.Text], 0⟩]) (fun y => y11 = y) (fun _ _ _ _ g h => RW.gh g h) ?_ ?_
                · refine RW.reg ?_
                  refine rl.run 2 rfl ?_
                  obtain ⟨v12, e12, h49⟩ := bindS ey11
                  refine rl.call rfl rfl rfl (CallW.val (r' := .bool v12) ok_impl_WordOk (law_impl_WordOk e12) (.cons .str .nil) .refl ?_)
                  cases hb : v12
                  · have h50 := iteBF h49 hb
                    refine rl.run 11 rfl ?_
                    refine rl.done ?_
                    cases h50
                    exact ⟨_, rfl, (Gh.ren0 [1] (.cells rfl rfl (.keep .int (.keep .int (.keep .int (.keep .int (.keep .int (.keep .str (.keep .str (.keep .str .nil)))))))) .nil) rfl (.cons rfl (.ptr rfl) (.cons rfl (.dat .bool) .nil)))⟩
                  · have h51 := iteBT h49 hb
                    refine rl.run 3 rfl ?_
                    obtain ⟨v13, e13, h52⟩ := bindS h51
                    refine rl.call rfl rfl rfl (CallW.val (r' := .bool v13) ok_impl_WordOk (law_impl_WordOk e13) (.cons .str .nil) .refl ?_)
                    cases hb : v13
                    · have h53 := iteBF h52 hb
                      refine rl.run 7 rfl ?_
                      refine rl.done ?_
                      cases h53
                      exact ⟨_, rfl, (Gh.ren0 [1] (.cells rfl rfl (.keep .int (.keep .int (.keep .int (.keep .int (.keep .int (.keep .str (.keep .str (.keep .str .nil)))))))) .nil) rfl (.cons rfl (.ptr rfl) (.cons rfl (.dat .bool) .nil)))⟩
                    · have h54 := iteBT h52 hb
                      refine rl.run 4 rfl ?_
                      obtain ⟨v14, e14, h55⟩ := bindS h54
                      refine rl.call rfl rfl rfl (CallW.val (r' := .bool v14) ok_impl_in (law_impl_in e14) (.cons .int (.cons .int (.cons .int .nil))) .refl ?_)
                      cases hb : v14
                      · have h56 := iteBF h55 hb
                        refine rl.run 2 rfl ?_
                        refine rl.done ?_
                        cases h56
                        exact ⟨_, rfl, (Gh.ren0 [1] (.cells rfl rfl (.keep .int (.keep .int (.keep .int (.keep .int (.keep .int (.keep .str (.keep .str (.keep .str .nil)))))))) .nil) rfl (.cons rfl (.ptr rfl) (.cons rfl (.dat .bool) .nil)))⟩
                      · have h57 := iteBT h55 hb
                        refine rl.run 2 rfl ?_
                        refine rl.done ?_
                        cases h57
                        exact ⟨_, rfl, (Gh.ren0 [1] (.cells rfl rfl (.keep .int (.keep .int (.keep .int (.keep .int (.keep .int (.keep .str (.keep .str (.keep .str .nil)))))))) .nil) rfl (.cons rfl (.ptr rfl) (.cons rfl (.dat .bool) .nil)))⟩
                · intro y hC
                  subst hC
                  refine RW.reg ?_
                  refine rl.run 6 rfl ?_
                  refine rl.done ?_
                  cases h48
                  exact ⟨_, rfl, (Gh.ren0 [0] (.cells rfl rfl (.keep .int (.keep .int (.keep .int (.keep .int (.keep .int (.keep .str (.keep .str (.keep .str .nil)))))))) .nil) rfl (.cons rfl (.ptr rfl) (.cons rfl (.dat .bool) .nil)))⟩
            · intro y9_ hC
              have h31 := elimR h31 hC
              refine RW.sreg ?_
              refine rl.run 2 rfl ?_
              cases hb : y9_.1
              · have h58 := iteBF h31 hb
                refine rl.run 5 rfl ?_
                refine rl.done ?_
                refine RW.ret ?_
                cases h58
                exact RRet.mk rfl .bool (by first | decide | simp)
              · have h59 := iteBT h31 hb
                refine rl.run 5 rfl ?_
                refine rl.done ?_
                refine RW.ret ?_
                cases h59
                exact RRet.mk rfl .bool (by first | decide | simp)
theorem law_impl_ItemsOk_1_w {x0 : TItem} {x1 : TItem} {r : Bool} (hF : F_impl_ItemsOk_1_w x0 x1 = some r) : ACalls Try.prog 1 133 [.agg (enc_TItem false x0), .ptr 0 0] [some ⟨[.int .i64 x1.Seq, .int .i64 x1.Rec.Kind, .int .i64 x1.Rec.Valid, .int .i64 x1.Rec.Uid, .int .i64 x1.Rec.Next, .int .i64 x1.Rec.Flags, .str x1.Rec.User, .str x1.Rec.Name, .str x1.Rec.Text], 0⟩] (.bool r) [some ⟨[.int .i64 x1.Seq, .int .i64 x1.Rec.Kind, .int .i64 x1.Rec.Valid, .int .i64 x1.Rec.Uid, .int .i64 x1.Rec.Next, .int .i64 x1.Rec.Flags, .str x1.Rec.User, .str x1.Rec.Name, .str x1.Rec.Text], 0⟩] := by
  refine ACalls.of_s k_impl_ItemsOk_1 rfl ?_
  unfold F_impl_ItemsOk_1_w at hF
  refine RW.sreg ?_
  refine rl.run 2 rfl ?_
  refine rl.done ?_
  refine RW.sreg ?_
  refine rl.run 4 rfl ?_
  refine rl.gen rfl rfl fun b hb => ?_
  cases b
  · have h1 := iteBF hF hb
    refine rl.run 6 rfl ?_
    refine rl.done ?_
    refine RW.keep [3] (a' := [(3, .bool false)]) (H' := [some ⟨[.int .i64 x1.Seq, .int .i64 x1.Rec.Kind, .int .i64 x1.Rec.Valid, .int .i64 x1.Rec.Uid, .int .i64 x1.Rec.Next, .int .i64 x1.Rec.Flags, .str x1.Rec.User, .str x1.Rec.Name, .str x1.Rec.Text], 0⟩, some ⟨[.int .i64 x0.Seq, .int .i64 x0.Rec.Kind, .int .i64 x0.Rec.Valid, .int .i64 x0.Rec.Uid, .int .i64 x0.Rec.Next, .int .i64 x0.Rec.Flags, .str x0.Rec.User, .str x0.Rec.Name, .str x0.Rec.Text], 0⟩]) rfl rfl ?_
    refine RW.ret ?_
    cases h1
    exact RRetS.mk rfl .bool (Gh.renN [0] (.cells rfl rfl (.keep .int (.keep .int (.keep .int (.keep .int (.keep .int (.keep .int (.keep .str (.keep .str (.keep .str .nil))))))))) .nil) rfl rfl rfl .nil)
  · have h2 := iteBT hF hb
    refine rl.run 6 rfl ?_
    refine rl.done ?_
    refine RW.keep [3] (a' := [(3, .bool (!(x0.Seq == x1.Seq && (x0.Rec.Kind == x1.Rec.Kind && (x0.Rec.Valid == x1.Rec.Valid && (x0.Rec.Uid == x1.Rec.Uid && (x0.Rec.Next == x1.Rec.Next && (x0.Rec.Flags == x1.Rec.Flags && (x0.Rec.User == x1.Rec.User && (x0.Rec.Name == x1.Rec.Name && (x0.Rec.Text == x1.Rec.Text && true)))))))))))]) (H' := [some ⟨[.int .i64 x1.Seq, .int .i64 x1.Rec.Kind, .int .i64 x1.Rec.Valid, .int .i64 x1.Rec.Uid, .int .i64 x1.Rec.Next, .int .i64 x1.Rec.Flags, .str x1.Rec.User, .str x1.Rec.Name, .str x1.Rec.Text], 0⟩, some ⟨[.int .i64 x0.Seq, .int .i64 x0.Rec.Kind, .int .i64 x0.Rec.Valid, .int .i64 x0.Rec.Uid, .int .i64 x0.Rec.Next, .int .i64 x0.Rec.Flags, .str x0.Rec.User, .str x0.Rec.Name, .str x0.Rec.Text], 0⟩]) rfl rfl ?_
    refine RW.ret ?_
    cases h2
    exact RRetS.mk rfl .bool (Gh.renN [0] (.cells rfl rfl (.keep .int (.keep .int (.keep .int (.keep .int (.keep .int (.keep .int (.keep .str (.keep .str (.keep .str .nil))))))))) .nil) rfl rfl rfl .nil)
theorem law_slices_IndexFunc_Item_ItemsOk_1 {x0 : List TItem} {x1 : TItem} {r : Int} (hF : F_slices_IndexFunc_Item_ItemsOk_1 x0 x1 = some r) : ACalls Try.prog 1 191 [.lst false 9 (fl (enc_TItem false) x0) x0.length, .fn 133 [.ptr 0 0]] [some ⟨[.int .i64 x1.Seq, .int .i64 x1.Rec.Kind, .int .i64 x1.Rec.Valid, .int .i64 x1.Rec.Uid, .int .i64 x1.Rec.Next, .int .i64 x1.Rec.Flags, .str x1.Rec.User, .str x1.Rec.Name, .str x1.Rec.Text], 0⟩] (.int .i64 r) [some ⟨[.int .i64 x1.Seq, .int .i64 x1.Rec.Kind, .int .i64 x1.Rec.Valid, .int .i64 x1.Rec.Uid, .int .i64 x1.Rec.Next, .int .i64 x1.Rec.Flags, .str x1.Rec.User, .str x1.Rec.Name, .str x1.Rec.Text], 0⟩] := by
  refine ACalls.of_s k_slices_IndexFunc_Item rfl ?_
  unfold F_slices_IndexFunc_Item_ItemsOk_1 at hF
  refine RW.sreg ?_
  refine rl.run 1 rfl ?_
  refine rl.done ?_
  refine RW.seq ?_
  refine RW.sreg ?_
  refine rl.run 3 rfl ?_
  refine rl.done ?_
  obtain ⟨y5, ey5, h2⟩ := bindS hF
  refine RW.cutq (σ := Unit) (fun y2 => []) (fun y2 => [some ⟨[.int .i64 x1.Seq, .int .i64 x1.Rec.Kind, .int .i64 x1.Rec.Valid, .int .i64 x1.Rec.Uid, .int .i64 x1.Rec.Next, .int .i64 x1.Rec.Flags, .str x1.Rec.User, .str x1.Rec.Name, .str x1.Rec.Text], 0⟩]) (fun y => y5 = .inr y) (fun _ _ _ _ g h => RW.gh g h) ?_ ?_
  · refine RW.blk ?_
    refine RW.iter (σ := Int) ey5 (fun s1 => [(0, .lst false 9 (fl (enc_TItem false) x0) x0.length), (1, .fn 133 [.ptr 0 0]), (7, .int .i64 (x0.length : Int)), (8, .int .i64 s1)]) (fun s1 => [some ⟨[.int .i64 x1.Seq, .int .i64 x1.Rec.Kind, .int .i64 x1.Rec.Valid, .int .i64 x1.Rec.Uid, .int .i64 x1.Rec.Next, .int .i64 x1.Rec.Flags, .str x1.Rec.User, .str x1.Rec.Name, .str x1.Rec.Text], 0⟩]) (Gh.renN [0] (.cells rfl rfl (.keep .int (.keep .int (.keep .int (.keep .int (.keep .int (.keep .int (.keep .str (.keep .str (.keep .str .nil))))))))) .nil) rfl rfl rfl (.cons rfl (.dat (ek_TItem.rlst)) (.cons rfl (RnL.fn (.cons (.ptr rfl) .nil)) (.cons rfl (.dat .int) (.cons rfl (.dat .int) .nil))))) (fun s1 B o hS1 hB1 hE1 => ?_)
    unfold S_slices_IndexFunc_Item_ItemsOk_1_1 at hS1
    refine RW.sreg ?_
    refine rl.gen rfl rfl fun b hb => ?_
    cases b
    · have h3 := iteBF hS1 hb
      refine rl.done ?_
      refine RW.seq ?_
      refine RW.cond_f rfl ?_
      refine RW.exit ?_
      refine blkA_eq ?_
      cases h3
      exact ⟨_, (hE1 _ rfl).symm, (Gh.renN [0] (.cells rfl rfl (.keep .int (.keep .int (.keep .int (.keep .int (.keep .int (.keep .int (.keep .str (.keep .str (.keep .str .nil))))))))) .nil) rfl rfl rfl .nil)⟩
    · have h4 := iteBT hS1 hb
      refine rl.done ?_
      refine RW.seq ?_
      refine RW.cond_t rfl ?_
      refine RW.skip ?_
      refine RW.seq ?_
      refine RW.blk ?_
      refine RW.sreg ?_
      refine rl.run 2 rfl ?_
      refine rl.done ?_
      refine RW.sreg ?_
      refine rl.run 3 rfl ?_
      obtain ⟨v3, e3, h5⟩ := bindS h4
      refine rl.op (x_ia_lst (enc := enc_TItem) (o := false) rfl rfl rfl e3) ?_
      refine rl.op (x_ld_ela (off' := 0) (vs := (enc_TItem false v3)) ek_TItem rfl e3 rfl rfl rfl) ?_
      obtain ⟨v4, e4, h6⟩ := bindS h5
      refine rl.call rfl rfl rfl (CallW.embR [0] ok_impl_ItemsOk_1 (law_impl_ItemsOk_1_w e4) (.cells rfl rfl (.keep .int (.keep .int (.keep .int (.keep .int (.keep .int (.keep .int (.keep .str (.keep .str (.keep .str .nil))))))))) .nil) rfl rfl (.cons (.dat (ek_TItem.rrec)) (.cons (.ptr rfl) .nil)) .bool ?_)
      cases hb : v4
      · have h7 := iteBF h6 hb
        refine rl.done ?_
        refine RW.cond_f rfl ?_
        refine RW.skip ?_
        refine RW.reg ?_
        refine rl.run 2 rfl ?_
        refine rl.done ?_
        cases h7
        exact hB1 _ rfl _ _ (Gh.renN [0] (.cells rfl rfl (.keep .int (.keep .int (.keep .int (.keep .int (.keep .int (.keep .int (.keep .str (.keep .str (.keep .str .nil))))))))) .nil) rfl rfl rfl (.cons rfl (.dat (ek_TItem.rlst)) (.cons rfl (RnL.fn (.cons (.ptr rfl) .nil)) (.cons rfl (.dat .int) (.cons rfl (.dat .int) .nil)))))
      · have h8 := iteBT h6 hb
        refine rl.done ?_
        refine RW.cond_t rfl ?_
        refine RW.sreg ?_
        refine rl.run 2 rfl ?_
        refine rl.done ?_
        refine RW.keep [4] (a' := [(4, .int .i64 s1)]) (H' := [some ⟨[.int .i64 x1.Seq, .int .i64 x1.Rec.Kind, .int .i64 x1.Rec.Valid, .int .i64 x1.Rec.Uid, .int .i64 x1.Rec.Next, .int .i64 x1.Rec.Flags, .str x1.Rec.User, .str x1.Rec.Name, .str x1.Rec.Text], 0⟩]) rfl rfl ?_
        refine RW.ret ?_
        cases h8
        have h9 := elimL h2 (hE1 _ rfl)
        cases h9
        exact RRetS.mk rfl .int (Gh.renN [0] (.cells rfl rfl (.keep .int (.keep .int (.keep .int (.keep .int (.keep .int (.keep .int (.keep .str (.keep .str (.keep .str .nil))))))))) .nil) rfl rfl rfl .nil)
  · intro y2 hC
    have h2 := elimR h2 hC
    refine RW.sreg ?_
    refine rl.run 1 rfl ?_
    refine rl.done ?_
    refine RW.ret ?_
    cases h2
    exact RRetS.mk rfl .int (Gh.renN [0] (.cells rfl rfl (.keep .int (.keep .int (.keep .int (.keep .int (.keep .int (.keep .int (.keep .str (.keep .str (.keep .str .nil))))))))) .nil) rfl rfl rfl .nil)
theorem law_slices_ContainsFunc_Item_ItemsOk_1 {x0 : List TItem} {x1 : TItem} {r : Bool} (hF : F_slices_ContainsFunc_Item_ItemsOk_1 x0 x1 = some r) : ACalls Try.prog 1 132 [.lst false 9 (fl (enc_TItem false) x0) x0.length, .fn 133 [.ptr 0 0]] [some ⟨[.int .i64 x1.Seq, .int .i64 x1.Rec.Kind, .int .i64 x1.Rec.Valid, .int .i64 x1.Rec.Uid, .int .i64 x1.Rec.Next, .int .i64 x1.Rec.Flags, .str x1.Rec.User, .str x1.Rec.Name, .str x1.Rec.Text], 0⟩] (.bool r) [some ⟨[.int .i64 x1.Seq, .int .i64 x1.Rec.Kind, .int .i64 x1.Rec.Valid, .int .i64 x1.Rec.Uid, .int .i64 x1.Rec.Next, .int .i64 x1.Rec.Flags, .str x1.Rec.User, .str x1.Rec.Name, .str x1.Rec.Text], 0⟩] := by
  refine ACalls.of_s k_slices_ContainsFunc_Item rfl ?_
  unfold F_slices_ContainsFunc_Item_ItemsOk_1 at hF
  refine RW.sreg ?_
  refine rl.run 1 rfl ?_
  refine rl.done ?_
  refine RW.sreg ?_
  refine rl.run 2 rfl ?_
  obtain ⟨v1, e1, h1⟩ := bindS hF
  refine rl.call rfl rfl rfl (CallW.embR [0] ok_slices_IndexFunc_Item (law_slices_IndexFunc_Item_ItemsOk_1 e1) (.cells rfl rfl (.keep .int (.keep .int (.keep .int (.keep .int (.keep .int (.keep .int (.keep .str (.keep .str (.keep .str .nil))))))))) .nil) rfl rfl (.cons (.dat (ek_TItem.rlst)) (.cons (RnL.fn (.cons (.ptr rfl) .nil)) .nil)) .int ?_)
  refine rl.run 2 rfl ?_
  refine rl.done ?_
  refine RW.ret ?_
  cases h1
  exact RRetS.mk rfl .bool (Gh.renN [0] (.cells rfl rfl (.keep .int (.keep .int (.keep .int (.keep .int (.keep .int (.keep .int (.keep .str (.keep .str (.keep .str .nil))))))))) .nil) rfl rfl rfl .nil)
theorem law_impl_ItemsOk {x0 : List TItem} {r : Bool} (hF : F_impl_ItemsOk x0 = some r) : PCalls Try.prog 71 [.lst false 9 (fl (enc_TItem false) x0) x0.length] (.bool r) := by
  refine PCalls.of_r k_impl_ItemsOk rfl ?_
  unfold F_impl_ItemsOk at hF
  refine RW.sreg ?_
  refine rl.run 1 rfl ?_
  refine rl.done ?_
  refine RW.seq ?_
  refine RW.sreg ?_
  refine rl.run 2 rfl ?_
  refine rl.gen rfl rfl fun b hb => ?_
  cases b
  · have h1 := iteBF hF hb
    refine rl.done ?_
    refine RW.cond_f rfl ?_
    refine RW.skip ?_
    refine RW.seq ?_
    refine RW.sreg ?_
    refine rl.run 3 rfl ?_
    refine rl.done ?_
    obtain ⟨y9, ey9, h3⟩ := bindS h1
    refine RW.cutq (σ := Unit) (fun y2 => []) (fun y2 => []) (fun y => y9 = .inr y) (fun _ _ _ _ g h => RW.gh g h) ?_ ?_
    · refine RW.blk ?_
      refine RW.iter (σ := Int) ey9 (fun s1 => [(0, .lst false 9 (fl (enc_TItem false) x0) x0.length), (8, .lst false 9 (fl (enc_TItem false) x0) x0.length), (9, .int .i64 (x0.length : Int)), (10, .int .i64 s1)]) (fun s1 => []) (Gh.ren0 [] .nil rfl (.cons rfl (.dat (ek_TItem.rlst)) (.cons rfl (.dat (ek_TItem.rlst)) (.cons rfl (.dat .int) (.cons rfl (.dat .int) .nil))))) (fun s1 B o hS2 hB2 hE2 => ?_)
      unfold S_impl_ItemsOk_1 at hS2
      refine RW.sreg ?_
      refine rl.gen rfl rfl fun b hb => ?_
      cases b
      · have h4 := iteBF hS2 hb
        refine rl.done ?_
        refine RW.seq ?_
        refine RW.cond_f rfl ?_
        refine RW.exit ?_
        refine blkA_eq ?_
        cases h4
        exact ⟨_, (hE2 _ rfl).symm, (Gh.ren0 [] .nil rfl .nil)⟩
      · have h5 := iteBT hS2 hb
        refine rl.done ?_
        refine RW.seq ?_
        refine RW.cond_t rfl ?_
        refine RW.skip ?_
        refine RW.seq ?_
        refine RW.blk ?_
        refine RW.sreg ?_
        refine rl.run 1 rfl ?_
        obtain ⟨v3, e3, h6⟩ := bindS h5
        refine rl.op (x_ia_lst (enc := enc_TItem) (o := false) rfl rfl rfl e3) ?_
        refine rl.op (x_ld_ela (off' := 0) (vs := (enc_TItem false v3)) ek_TItem rfl e3 rfl rfl rfl) ?_
        refine rl.run 3 rfl ?_
        refine rl.done ?_
        refine RW.seq ?_
        refine RW.seq ?_
        obtain ⟨y4, ey4, h7⟩ := bindS h6
        refine RW.cutq (σ := Bool) (fun y4 => [(0, .lst false 9 (fl (enc_TItem false) x0) x0.length), (3, .int .i64 s1), (4, .ptr 0 0), (8, .lst false 9 (fl (enc_TItem false) x0) x0.length), (9, .int .i64 (x0.length : Int)), (10, .int .i64 s1), (24, .bool y4)]) (fun y4 => [some ⟨[.int .i64 v3.Seq, .int .i64 v3.Rec.Kind, .int .i64 v3.Rec.Valid, .int .i64 v3.Rec.Uid, .int .i64 v3.Rec.Next, .int .i64 v3.Rec.Flags, .str v3.Rec.User, .str v3.Rec.Name, .str v3.Rec.Text], 0⟩]) (fun y => y4 = y) (fun _ _ _ _ g h => RW.gh g h) ?_ ?_
        · refine RW.reg ?_
          refine rl.run 2 rfl ?_
          obtain ⟨v5, e5, h8⟩ := bindS ey4
          refine rl.call rfl rfl rfl (CallW.val (r' := .bool v5) ok_impl_in (law_impl_in e5) (.cons .int (.cons .int (.cons .int .nil))) .refl ?_)
          cases hb : v5
          · have h9 := iteBF h8 hb
            refine rl.run 7 rfl ?_
            refine rl.done ?_
            cases h9
            exact ⟨_, rfl, (Gh.ren0 [0] (.cells rfl rfl (.keep .int (.keep .int (.keep .int (.keep .int (.keep .int (.keep .int (.keep .str (.keep .str (.keep .str .nil))))))))) .nil) rfl (.cons rfl (.dat (ek_TItem.rlst)) (.cons rfl (.dat .int) (.cons rfl (.ptr rfl) (.cons rfl (.dat (ek_TItem.rlst)) (.cons rfl (.dat .int) (.cons rfl (.dat .int) (.cons rfl (.dat .bool) .nil))))))))⟩
          · have h10 := iteBT h8 hb
            refine rl.run 4 rfl ?_
            obtain ⟨v6, e6, h11⟩ := bindS h10
            refine rl.call rfl rfl rfl (CallW.val (r' := .bool v6) ok_impl_RecOk (law_impl_RecOk e6) (.cons (DFL.agg (.cons .int (.cons .int (.cons .int (.cons .int (.cons .int (.cons .str (.cons .str (.cons .str .nil))))))))) .nil) .refl ?_)
            cases hb : v6
            · have h12 := iteBF h11 hb
              refine rl.run 2 rfl ?_
              refine rl.done ?_
              cases h12
              exact ⟨_, rfl, (Gh.ren0 [0] (.cells rfl rfl (.keep .int (.keep .int (.keep .int (.keep .int (.keep .int (.keep .int (.keep .str (.keep .str (.keep .str .nil))))))))) .nil) rfl (.cons rfl (.dat (ek_TItem.rlst)) (.cons rfl (.dat .int) (.cons rfl (.ptr rfl) (.cons rfl (.dat (ek_TItem.rlst)) (.cons rfl (.dat .int) (.cons rfl (.dat .int) (.cons rfl (.dat .bool) .nil))))))))⟩
            · have h13 := iteBT h11 hb
              refine rl.run 2 rfl ?_
              refine rl.done ?_
              cases h13
              exact ⟨_, rfl, (Gh.ren0 [0] (.cells rfl rfl (.keep .int (.keep .int (.keep .int (.keep .int (.keep .int (.keep .int (.keep .str (.keep .str (.keep .str .nil))))))))) .nil) rfl (.cons rfl (.dat (ek_TItem.rlst)) (.cons rfl (.dat .int) (.cons rfl (.ptr rfl) (.cons rfl (.dat (ek_TItem.rlst)) (.cons rfl (.dat .int) (.cons rfl (.dat .int) (.cons rfl (.dat .bool) .nil))))))))⟩
        · intro y hC
          subst hC
          cases hb : y4
          · have h14 := iteBF h7 hb
            refine RW.cond_f rfl ?_
            refine RW.skip ?_
            refine RW.sreg ?_
            refine rl.run 2 rfl ?_
            obtain ⟨v7, e7, h15⟩ := bindS h14
            refine rl.op (x_sle ek_TItem rfl rfl rfl abnd_hi e7) ?_
            refine rl.run 1 rfl ?_
            obtain ⟨v8, e8, h16⟩ := bindS h15
            refine rl.call rfl rfl rfl (CallW.embR [0] ok_slices_ContainsFunc_Item (law_slices_ContainsFunc_Item_ItemsOk_1 e8) (.cells rfl rfl (.keep .int (.keep .int (.keep .int (.keep .int (.keep .int (.keep .int (.keep .str (.keep .str (.keep .str .nil))))))))) .nil) rfl rfl (.cons (.dat (ek_TItem.rlst)) (.cons (RnL.fn (.cons (.ptr rfl) .nil)) .nil)) .bool ?_)
            cases hb : v8
            · have h17 := iteBF h16 hb
              refine rl.done ?_
              refine RW.cond_f rfl ?_
              refine RW.skip ?_
              refine RW.reg ?_
              refine rl.run 2 rfl ?_
              refine rl.done ?_
              cases h17
              exact hB2 _ rfl _ _ (Gh.ren0 [] .nil rfl (.cons rfl (.dat (ek_TItem.rlst)) (.cons rfl (.dat (ek_TItem.rlst)) (.cons rfl (.dat .int) (.cons rfl (.dat .int) .nil)))))
            · have h18 := iteBT h16 hb
              refine rl.done ?_
              refine RW.cond_t rfl ?_
              refine RW.sreg ?_
              refine rl.run 1 rfl ?_
              refine rl.done ?_
              refine RW.keep [2] (a' := [(2, .bool false)]) (H' := [some ⟨[.int .i64 v3.Seq, .int .i64 v3.Rec.Kind, .int .i64 v3.Rec.Valid, .int .i64 v3.Rec.Uid, .int .i64 v3.Rec.Next, .int .i64 v3.Rec.Flags, .str v3.Rec.User, .str v3.Rec.Name, .str v3.Rec.Text], 0⟩]) rfl rfl ?_
              refine RW.ret ?_
              cases h18
              have h19 := elimL h3 (hE2 _ rfl)
              cases h19
              exact RRet.mk rfl .bool (by first | decide | simp)
          · have h20 := iteBT h7 hb
            refine RW.cond_t rfl ?_
            refine RW.sreg ?_
            refine rl.run 1 rfl ?_
            refine rl.done ?_
            refine RW.ret ?_
            cases h20
            have h21 := elimL h3 (hE2 _ rfl)
            cases h21
            exact RRet.mk rfl .bool (by first | decide | simp)
    · intro y2 hC
      have h3 := elimR h3 hC
      refine RW.sreg ?_
      refine rl.run 1 rfl ?_
      refine rl.done ?_
      refine RW.ret ?_
      cases h3
      exact RRet.mk rfl .bool (by first | decide | simp)
  · have h22 := iteBT hF hb
    refine rl.done ?_
    refine RW.cond_t rfl ?_
    refine RW.sreg ?_
    refine rl.run 1 rfl ?_
    refine rl.done ?_
    refine RW.ret ?_
    cases h22
    exact RRet.mk rfl .bool (by first | decide | simp)
theorem law_impl_needed_1_w {x0 : TItem} {x1 : TItem} {r : Bool} (hF : F_impl_needed_1_w x0 x1 = some r) : ACalls Try.prog 1 134 [.agg (enc_TItem false x0), .ptr 0 0] [some ⟨[.int .i64 x1.Seq, .int .i64 x1.Rec.Kind, .int .i64 x1.Rec.Valid, .int .i64 x1.Rec.Uid, .int .i64 x1.Rec.Next, .int .i64 x1.Rec.Flags, .str x1.Rec.User, .str x1.Rec.Name, .str x1.Rec.Text], 0⟩] (.bool r) [some ⟨[.int .i64 x1.Seq, .int .i64 x1.Rec.Kind, .int .i64 x1.Rec.Valid, .int .i64 x1.Rec.Uid, .int .i64 x1.Rec.Next, .int .i64 x1.Rec.Flags, .str x1.Rec.User, .str x1.Rec.Name, .str x1.Rec.Text], 0⟩] := by
  refine ACalls.of_s k_impl_needed_1 rfl ?_
  unfold F_impl_needed_1_w at hF
  refine RW.sreg ?_
  refine rl.run 2 rfl ?_
  refine rl.done ?_
  refine RW.sreg ?_
  refine rl.run 6 rfl ?_
  refine rl.done ?_
  refine RW.ret ?_
  cases hF
  exact RRetS.mk rfl .bool (Gh.renN [0] (.cells rfl rfl (.keep .int (.keep .int (.keep .int (.keep .int (.keep .int (.keep .int (.keep .str (.keep .str (.keep .str .nil))))))))) .nil) rfl rfl rfl .nil)
theorem law_slices_IndexFunc_Item_needed_1 {x0 : List TItem} {x1 : TItem} {r : Int} (hF : F_slices_IndexFunc_Item_needed_1 x0 x1 = some r) : ACalls Try.prog 1 191 [.lst false 9 (fl (enc_TItem false) x0) x0.length, .fn 134 [.ptr 0 0]] [some ⟨[.int .i64 x1.Seq, .int .i64 x1.Rec.Kind, .int .i64 x1.Rec.Valid, .int .i64 x1.Rec.Uid, .int .i64 x1.Rec.Next, .int .i64 x1.Rec.Flags, .str x1.Rec.User, .str x1.Rec.Name, .str x1.Rec.Text], 0⟩] (.int .i64 r) [some ⟨[.int .i64 x1.Seq, .int .i64 x1.Rec.Kind, .int .i64 x1.Rec.Valid, .int .i64 x1.Rec.Uid, .int .i64 x1.Rec.Next, .int .i64 x1.Rec.Flags, .str x1.Rec.User, .str x1.Rec.Name, .str x1.Rec.Text], 0⟩] := by
  refine ACalls.of_s k_slices_IndexFunc_Item rfl ?_
  unfold F_slices_IndexFunc_Item_needed_1 at hF
  refine RW.sreg ?_
  refine rl.run 1 rfl ?_
  refine rl.done ?_
  refine RW.seq ?_
  refine RW.sreg ?_
  refine rl.run 3 rfl ?_
  refine rl.done ?_
  obtain ⟨y5, ey5, h2⟩ := bindS hF
  refine RW.cutq (σ := Unit) (fun y2 => []) (fun y2 => [some ⟨[.int .i64 x1.Seq, .int .i64 x1.Rec.Kind, .int .i64 x1.Rec.Valid, .int .i64 x1.Rec.Uid, .int .i64 x1.Rec.Next, .int .i64 x1.Rec.Flags, .str x1.Rec.User, .str x1.Rec.Name, .str x1.Rec.Text], 0⟩]) (fun y => y5 = .inr y) (fun _ _ _ _ g h => RW.gh g h) ?_ ?_
  · refine RW.blk ?_
    refine RW.iter (σ := Int) ey5 (fun s1 => [(0, .lst false 9 (fl (enc_TItem false) x0) x0.length), (1, .fn 134 [.ptr 0 0]), (7, .int .i64 (x0.length : Int)), (8, .int .i64 s1)]) (fun s1 => [some ⟨[.int .i64 x1.Seq, .int .i64 x1.Rec.Kind, .int .i64 x1.Rec.Valid, .int .i64 x1.Rec.Uid, .int .i64 x1.Rec.Next, .int .i64 x1.Rec.Flags, .str x1.Rec.User, .str x1.Rec.Name, .str x1.Rec.Text], 0⟩]) (Gh.renN [0] (.cells rfl rfl (.keep .int (.keep .int (.keep .int (.keep .int (.keep .int (.keep .int (.keep .str (.keep .str (.keep .str .nil))))))))) .nil) rfl rfl rfl (.cons rfl (.dat (ek_TItem.rlst)) (.cons rfl (RnL.fn (.cons (.ptr rfl) .nil)) (.cons rfl (.dat .int) (.cons rfl (.dat .int) .nil))))) (fun s1 B o hS1 hB1 hE1 => ?_)
    unfold S_slices_IndexFunc_Item_needed_1_1 at hS1
    refine RW.sreg ?_
    refine rl.gen rfl rfl fun b hb => ?_
    cases b
    · have h3 := iteBF hS1 hb
      refine rl.done ?_
      refine RW.seq ?_
      refine RW.cond_f rfl ?_
      refine RW.exit ?_
      refine blkA_eq ?_
      cases h3
      exact ⟨_, (hE1 _ rfl).symm, (Gh.renN [0] (.cells rfl rfl (.keep .int (.keep .int (.keep .int (.keep .int (.keep .int (.keep .int (.keep .str (.keep .str (.keep .str .nil))))))))) .nil) rfl rfl rfl .nil)⟩
    · have h4 := iteBT hS1 hb
      refine rl.done ?_
      refine RW.seq ?_
      refine RW.cond_t rfl ?_
      refine RW.skip ?_
      refine RW.seq ?_
      refine RW.blk ?_
      refine RW.sreg ?_
      refine rl.run 2 rfl ?_
      refine rl.done ?_
      refine RW.sreg ?_
      refine rl.run 3 rfl ?_
      obtain ⟨v3, e3, h5⟩ := bindS h4
      refine rl.op (x_ia_lst (enc := enc_TItem) (o := false) rfl rfl rfl e3) ?_
      refine rl.op (x_ld_ela (off' := 0) (vs := (enc_TItem false v3)) ek_TItem rfl e3 rfl rfl rfl) ?_
      obtain ⟨v4, e4, h6⟩ := bindS h5
      refine rl.call rfl rfl rfl (CallW.embR [0] ok_impl_needed_1 (law_impl_needed_1_w e4) (.cells rfl rfl (.keep .int (.keep .int (.keep .int (.keep .int (.keep .int (.keep .int (.keep .str (.keep .str (.keep .str .nil))))))))) .nil) rfl rfl (.cons (.dat (ek_TItem.rrec)) (.cons (.ptr rfl) .nil)) .bool ?_)
      cases hb : v4
      · have h7 := iteBF h6 hb
        refine rl.done ?_
        refine RW.cond_f rfl ?_
        refine RW.skip ?_
        refine RW.reg ?_
        refine rl.run 2 rfl ?_
        refine rl.done ?_
        cases h7
        exact hB1 _ rfl _ _ (Gh.renN [0] (.cells rfl rfl (.keep .int (.keep .int (.keep .int (.keep .int (.keep .int (.keep .int (.keep .str (.keep .str (.keep .str .nil))))))))) .nil) rfl rfl rfl (.cons rfl (.dat (ek_TItem.rlst)) (.cons rfl (RnL.fn (.cons (.ptr rfl) .nil)) (.cons rfl (.dat .int) (.cons rfl (.dat .int) .nil)))))
      · have h8 := iteBT h6 hb
        refine rl.done ?_
        refine RW.cond_t rfl ?_
        refine RW.sreg ?_
        refine rl.run 2 rfl ?_
        refine rl.done ?_
        refine RW.keep [4] (a' := [(4, .int .i64 s1)]) (H' := [some ⟨[.int .i64 x1.Seq, .int .i64 x1.Rec.Kind, .int .i64 x1.Rec.Valid, .int .i64 x1.Rec.Uid, .int .i64 x1.Rec.Next, .int .i64 x1.Rec.Flags, .str x1.Rec.User, .str x1.Rec.Name, .str x1.Rec.Text], 0⟩]) rfl rfl ?_
        refine RW.ret ?_
        cases h8
        have h9 := elimL h2 (hE1 _ rfl)
        cases h9
        exact RRetS.mk rfl .int (Gh.renN [0] (.cells rfl rfl (.keep .int (.keep .int (.keep .int (.keep .int (.keep .int (.keep .int (.keep .str (.keep .str (.keep .str .nil))))))))) .nil) rfl rfl rfl .nil)
  · intro y2 hC
    have h2 := elimR h2 hC
    refine RW.sreg ?_
    refine rl.run 1 rfl ?_
    refine rl.done ?_
    refine RW.ret ?_
    cases h2
    exact RRetS.mk rfl .int (Gh.renN [0] (.cells rfl rfl (.keep .int (.keep .int (.keep .int (.keep .int (.keep .int (.keep .int (.keep .str (.keep .str (.keep .str .nil))))))))) .nil) rfl rfl rfl .nil)
theorem law_slices_ContainsFunc_Item_needed_1 {x0 : List TItem} {x1 : TItem} {r : Bool} (hF : F_slices_ContainsFunc_Item_needed_1 x0 x1 = some r) : ACalls Try.prog 1 132 [.lst false 9 (fl (enc_TItem false) x0) x0.length, .fn 134 [.ptr 0 0]] [some ⟨[.int .i64 x1.Seq, .int .i64 x1.Rec.Kind, .int .i64 x1.Rec.Valid, .int .i64 x1.Rec.Uid, .int .i64 x1.Rec.Next, .int .i64 x1.Rec.Flags, .str x1.Rec.User, .str x1.Rec.Name, .str x1.Rec.Text], 0⟩] (.bool r) [some ⟨[.int .i64 x1.Seq, .int .i64 x1.Rec.Kind, .int .i64 x1.Rec.Valid, .int .i64 x1.Rec.Uid, .int .i64 x1.Rec.Next, .int .i64 x1.Rec.Flags, .str x1.Rec.User, .str x1.Rec.Name, .str x1.Rec.Text], 0⟩] := by
  refine ACalls.of_s k_slices_ContainsFunc_Item rfl ?_
  unfold F_slices_ContainsFunc_Item_needed_1 at hF
  refine RW.sreg ?_
  refine rl.run 1 rfl ?_
  refine rl.done ?_
  refine RW.sreg ?_
  refine rl.run 2 rfl ?_
  obtain ⟨v1, e1, h1⟩ := bindS hF
  refine rl.call rfl rfl rfl (CallW.embR [0] ok_slices_IndexFunc_Item (law_slices_IndexFunc_Item_needed_1 e1) (.cells rfl rfl (.keep .int (.keep .int (.keep .int (.keep .int (.keep .int (.keep .int (.keep .str (.keep .str (.keep .str .nil))))))))) .nil) rfl rfl (.cons (.dat (ek_TItem.rlst)) (.cons (RnL.fn (.cons (.ptr rfl) .nil)) .nil)) .int ?_)
  refine rl.run 2 rfl ?_
  refine rl.done ?_
  refine RW.ret ?_
  cases h1
  exact RRetS.mk rfl .bool (Gh.renN [0] (.cells rfl rfl (.keep .int (.keep .int (.keep .int (.keep .int (.keep .int (.keep .int (.keep .str (.keep .str (.keep .str .nil))))))))) .nil) rfl rfl rfl .nil)
theorem law_impl_needed_2_w {x0 : TItem} {x1 : TRec} {r : Bool} (hF : F_impl_needed_2_w x0 x1 = some r) : ACalls Try.prog 1 136 [.agg (enc_TItem false x0), .ptr 0 0] [some ⟨[.int .i64 x1.Kind, .int .i64 x1.Valid, .int .i64 x1.Uid, .int .i64 x1.Next, .int .i64 x1.Flags, .str x1.User, .str x1.Name, .str x1.Text], 0⟩] (.bool r) [some ⟨[.int .i64 x1.Kind, .int .i64 x1.Valid, .int .i64 x1.Uid, .int .i64 x1.Next, .int .i64 x1.Flags, .str x1.User, .str x1.Name, .str x1.Text], 0⟩] := by
  refine ACalls.of_s k_impl_needed_2 rfl ?_
  unfold F_impl_needed_2_w at hF
  refine RW.sreg ?_
  refine rl.run 2 rfl ?_
  refine rl.done ?_
  refine RW.sreg ?_
  refine rl.run 5 rfl ?_
  refine rl.gen rfl rfl fun b hb => ?_
  cases b
  · have h1 := iteBF hF hb
    refine rl.run 7 rfl ?_
    refine rl.done ?_
    refine RW.keep [3] (a' := [(3, .bool false)]) (H' := [some ⟨[.int .i64 x1.Kind, .int .i64 x1.Valid, .int .i64 x1.Uid, .int .i64 x1.Next, .int .i64 x1.Flags, .str x1.User, .str x1.Name, .str x1.Text], 0⟩, some ⟨[.int .i64 x0.Seq, .int .i64 x0.Rec.Kind, .int .i64 x0.Rec.Valid, .int .i64 x0.Rec.Uid, .int .i64 x0.Rec.Next, .int .i64 x0.Rec.Flags, .str x0.Rec.User, .str x0.Rec.Name, .str x0.Rec.Text], 0⟩]) rfl rfl ?_
    refine RW.ret ?_
    cases h1
    exact RRetS.mk rfl .bool (Gh.renN [0] (.cells rfl rfl (.keep .int (.keep .int (.keep .int (.keep .int (.keep .int (.keep .str (.keep .str (.keep .str .nil)))))))) .nil) rfl rfl rfl .nil)
  · have h2 := iteBT hF hb
    refine rl.run 7 rfl ?_
    refine rl.done ?_
    refine RW.keep [3] (a' := [(3, .bool (x0.Rec.Kind != 2))]) (H' := [some ⟨[.int .i64 x1.Kind, .int .i64 x1.Valid, .int .i64 x1.Uid, .int .i64 x1.Next, .int .i64 x1.Flags, .str x1.User, .str x1.Name, .str x1.Text], 0⟩, some ⟨[.int .i64 x0.Seq, .int .i64 x0.Rec.Kind, .int .i64 x0.Rec.Valid, .int .i64 x0.Rec.Uid, .int .i64 x0.Rec.Next, .int .i64 x0.Rec.Flags, .str x0.Rec.User, .str x0.Rec.Name, .str x0.Rec.Text], 0⟩]) rfl rfl ?_
    refine RW.ret ?_
    cases h2
    exact RRetS.mk rfl .bool (Gh.renN [0] (.cells rfl rfl (.keep .int (.keep .int (.keep .int (.keep .int (.keep .int (.keep .str (.keep .str (.keep .str .nil)))))))) .nil) rfl rfl rfl .nil)
theorem law_slices_IndexFunc_Item_needed_2 {x0 : List TItem} {x1 : TRec} {r : Int} (hF : F_slices_IndexFunc_Item_needed_2 x0 x1 = some r) : ACalls Try.prog 1 191 [.lst false 9 (fl (enc_TItem false) x0) x0.length, .fn 136 [.ptr 0 0]] [some ⟨[.int .i64 x1.Kind, .int .i64 x1.Valid, .int .i64 x1.Uid, .int .i64 x1.Next, .int .i64 x1.Flags, .str x1.User, .str x1.Name, .str x1.Text], 0⟩] (.int .i64 r) [some ⟨[.int .i64 x1.Kind, .int .i64 x1.Valid, .int .i64 x1.Uid, .int .i64 x1.Next, .int .i64 x1.Flags, .str x1.User, .str x1.Name, .str x1.Text], 0⟩] := by
  refine ACalls.of_s k_slices_IndexFunc_Item rfl ?_
  unfold F_slices_IndexFunc_Item_needed_2 at hF
  refine RW.sreg ?_
  refine rl.run 1 rfl ?_
  refine rl.done ?_
  refine RW.seq ?_
  refine RW.sreg ?_
  refine rl.run 3 rfl ?_
  refine rl.done ?_
  obtain ⟨y5, ey5, h2⟩ := bindS hF
  refine RW.cutq (σ := Unit) (fun y2 => []) (fun y2 => [some ⟨[.int .i64 x1.Kind, .int .i64 x1.Valid, .int .i64 x1.Uid, .int .i64 x1.Next, .int .i64 x1.Flags, .str x1.User, .str x1.Name, .str x1.Text], 0⟩]) (fun y => y5 = .inr y) (fun _ _ _ _ g h => RW.gh g h) ?_ ?_
  · refine RW.blk ?_
    refine RW.iter (σ := Int) ey5 (fun s1 => [(0, .lst false 9 (fl (enc_TItem false) x0) x0.length), (1, .fn 136 [.ptr 0 0]), (7, .int .i64 (x0.length : Int)), (8, .int .i64 s1)]) (fun s1 => [some ⟨[.int .i64 x1.Kind, .int .i64 x1.Valid, .int .i64 x1.Uid, .int .i64 x1.Next, .int .i64 x1.Flags, .str x1.User, .str x1.Name, .str x1.Text], 0⟩]) (Gh.renN [0] (.cells rfl rfl (.keep .int (.keep .int (.keep .int (.keep .int (.keep .int (.keep .str (.keep .str (.keep .str .nil)))))))) .nil) rfl rfl rfl (.cons rfl (.dat (ek_TItem.rlst)) (.cons rfl (RnL.fn (.cons (.ptr rfl) .nil)) (.cons rfl (.dat .int) (.cons rfl (.dat .int) .nil))))) (fun s1 B o hS1 hB1 hE1 => ?_)
    unfold S_slices_IndexFunc_Item_needed_2_1 at hS1
    refine RW.sreg ?_
    refine rl.gen rfl rfl fun b hb => ?_
    cases b
    · have h3 := iteBF hS1 hb
      refine rl.done ?_
      refine RW.seq ?_
      refine RW.cond_f rfl ?_
      refine RW.exit ?_
      refine blkA_eq ?_
      cases h3
      exact ⟨_, (hE1 _ rfl).symm, (Gh.renN [0] (.cells rfl rfl (.keep .int (.keep .int (.keep .int (.keep .int (.keep .int (.keep .str (.keep .str (.keep .str .nil)))))))) .nil) rfl rfl rfl .nil)⟩
    · have h4 := iteBT hS1 hb
      refine rl.done ?_
      refine RW.seq ?_
      refine RW.cond_t rfl ?_
      refine RW.skip ?_
      refine RW.seq ?_
      refine RW.blk ?_
      refine RW.sreg ?_
      refine rl.run 2 rfl ?_
      refine rl.done ?_
      refine RW.sreg ?_
      refine rl.run 3 rfl ?_
      obtain ⟨v3, e3, h5⟩ := bindS h4
      refine rl.op (x_ia_lst (enc := enc_TItem) (o := false) rfl rfl rfl e3) ?_
      refine rl.op (x_ld_ela (off' := 0) (vs := (enc_TItem false v3)) ek_TItem rfl e3 rfl rfl rfl) ?_
      obtain ⟨v4, e4, h6⟩ := bindS h5
      refine rl.call rfl rfl rfl (CallW.embR [0] ok_impl_needed_2 (law_impl_needed_2_w e4) (.cells rfl rfl (.keep .int (.keep .int (.keep .int (.keep .int (.keep .int (.keep .str (.keep .str (.keep .str .nil)))))))) .nil) rfl rfl (.cons (.dat (ek_TItem.rrec)) (.cons (.ptr rfl) .nil)) .bool ?_)
      cases hb : v4
      · have h7 := iteBF h6 hb
        refine rl.done ?_
        refine RW.cond_f rfl ?_
        refine RW.skip ?_
        refine RW.reg ?_
        refine rl.run 2 rfl ?_
        refine rl.done ?_
        cases h7
        exact hB1 _ rfl _ _ (Gh.renN [0] (.cells rfl rfl (.keep .int (.keep .int (.keep .int (.keep .int (.keep .int (.keep .str (.keep .str (.keep .str .nil)))))))) .nil) rfl rfl rfl (.cons rfl (.dat (ek_TItem.rlst)) (.cons rfl (RnL.fn (.cons (.ptr rfl) .nil)) (.cons rfl (.dat .int) (.cons rfl (.dat .int) .nil)))))
      · have h8 := iteBT h6 hb
        refine rl.done ?_
        refine RW.cond_t rfl ?_
        refine RW.sreg ?_
        refine rl.run 2 rfl ?_
        refine rl.done ?_
        refine RW.keep [4] (a' := [(4, .int .i64 s1)]) (H' := [some ⟨[.int .i64 x1.Kind, .int .i64 x1.Valid, .int .i64 x1.Uid, .int .i64 x1.Next, .int .i64 x1.Flags, .str x1.User, .str x1.Name, .str x1.Text], 0⟩]) rfl rfl ?_
        refine RW.ret ?_
        cases h8
        have h9 := elimL h2 (hE1 _ rfl)
        cases h9
        exact RRetS.mk rfl .int (Gh.renN [0] (.cells rfl rfl (.keep .int (.keep .int (.keep .int (.keep .int (.keep .int (.keep .str (.keep .str (.keep .str .nil)))))))) .nil) rfl rfl rfl .nil)
  · intro y2 hC
    have h2 := elimR h2 hC
    refine RW.sreg ?_
    refine rl.run 1 rfl ?_
    refine rl.done ?_
    refine RW.ret ?_
    cases h2
    exact RRetS.mk rfl .int (Gh.renN [0] (.cells rfl rfl (.keep .int (.keep .int (.keep .int (.keep .int (.keep .int (.keep .str (.keep .str (.keep .str .nil)))))))) .nil) rfl rfl rfl .nil)
theorem law_slices_ContainsFunc_Item_needed_2 {x0 : List TItem} {x1 : TRec} {r : Bool} (hF : F_slices_ContainsFunc_Item_needed_2 x0 x1 = some r) : ACalls Try.prog 1 132 [.lst false 9 (fl (enc_TItem false) x0) x0.length, .fn 136 [.ptr 0 0]] [some ⟨[.int .i64 x1.Kind, .int .i64 x1.Valid, .int .i64 x1.Uid, .int .i64 x1.Next, .int .i64 x1.Flags, .str x1.User, .str x1.Name, .str x1.Text], 0⟩] (.bool r) [some ⟨[.int .i64 x1.Kind, .int .i64 x1.Valid, .int .i64 x1.Uid, .int .i64 x1.Next, .int .i64 x1.Flags, .str x1.User, .str x1.Name, .str x1.Text], 0⟩] := by
  refine ACalls.of_s k_slices_ContainsFunc_Item rfl ?_
  unfold F_slices_ContainsFunc_Item_needed_2 at hF
  refine RW.sreg ?_
  refine rl.run 1 rfl ?_
  refine rl.done ?_
  refine RW.sreg ?_
  refine rl.run 2 rfl ?_
  obtain ⟨v1, e1, h1⟩ := bindS hF
  refine rl.call rfl rfl rfl (CallW.embR [0] ok_slices_IndexFunc_Item (law_slices_IndexFunc_Item_needed_2 e1) (.cells rfl rfl (.keep .int (.keep .int (.keep .int (.keep .int (.keep .int (.keep .str (.keep .str (.keep .str .nil)))))))) .nil) rfl rfl (.cons (.dat (ek_TItem.rlst)) (.cons (RnL.fn (.cons (.ptr rfl) .nil)) .nil)) .int ?_)
  refine rl.run 2 rfl ?_
  refine rl.done ?_
  refine RW.ret ?_
  cases h1
  exact RRetS.mk rfl .bool (Gh.renN [0] (.cells rfl rfl (.keep .int (.keep .int (.keep .int (.keep .int (.keep .int (.keep .str (.keep .str (.keep .str .nil)))))))) .nil) rfl rfl rfl .nil)
theorem law_impl_bySeq {x0 : TItem} {x1 : TItem} {r : Bool} (hF : F_impl_bySeq x0 x1 = some r) : PCalls Try.prog 140 [.agg (enc_TItem false x0), .agg (enc_TItem false x1)] (.bool r) := by
  refine PCalls.of_r k_impl_bySeq rfl ?_
  unfold F_impl_bySeq at hF
  refine RW.sreg ?_
  refine rl.run 3 rfl ?_
  refine rl.done ?_
  refine RW.sreg ?_
  refine rl.run 6 rfl ?_
  refine rl.done ?_
  refine RW.ret ?_
  cases hF
  exact RRet.mk rfl .bool (by first | decide | simp)
theorem law_impl_about {x0 : TRec} {x1 : Int} {x2 : Int} {r : Bool} (hF : F_impl_about x0 x1 x2 = some r) : PCalls Try.prog 139 [.agg (enc_TRec false x0), .int .i64 x1, .int .i64 x2] (.bool r) := by
  refine PCalls.of_r k_impl_about rfl ?_
  unfold F_impl_about at hF
  refine RW.sreg ?_
  refine rl.run 2 rfl ?_
  refine rl.done ?_
  refine RW.sreg ?_
  refine rl.run 3 rfl ?_
  refine rl.gen rfl rfl fun b hb => ?_
  cases b
  · have h1 := iteBF hF hb
    refine rl.run 7 rfl ?_
    refine rl.done ?_
    refine RW.keep [6] (a' := [(6, .bool false)]) (H' := [some ⟨[.int .i64 x0.Kind, .int .i64 x0.Valid, .int .i64 x0.Uid, .int .i64 x0.Next, .int .i64 x0.Flags, .str x0.User, .str x0.Name, .str x0.Text], 0⟩]) rfl rfl ?_
    refine RW.ret ?_
    cases h1
    exact RRet.mk rfl .bool (by first | decide | simp)
  · have h2 := iteBT hF hb
    refine rl.run 7 rfl ?_
    refine rl.done ?_
    refine RW.keep [6] (a' := [(6, .bool (x0.Valid == x2))]) (H' := [some ⟨[.int .i64 x0.Kind, .int .i64 x0.Valid, .int .i64 x0.Uid, .int .i64 x0.Next, .int .i64 x0.Flags, .str x0.User, .str x0.Name, .str x0.Text], 0⟩]) rfl rfl ?_
    refine RW.ret ?_
    cases h2
    exact RRet.mk rfl .bool (by first | decide | simp)
theorem law_impl_boxThere_1_w {x0 : TRec} {x1 : Int} {r : Bool} (hF : F_impl_boxThere_1_w x0 x1 = some r) : ACalls Try.prog 1 192 [.agg (enc_TRec false x0), .ptr 0 0] [some ⟨[.int .i64 x1], 0⟩] (.bool r) [some ⟨[.int .i64 x1], 0⟩] := by
  refine ACalls.of_s k_impl_boxThere_1 rfl ?_
  unfold F_impl_boxThere_1_w at hF
  refine RW.sreg ?_
  refine rl.run 2 rfl ?_
  refine rl.done ?_
  refine RW.sreg ?_
  refine rl.run 2 rfl ?_
  obtain ⟨v1, e1, h1⟩ := bindS hF
  refine rl.call rfl rfl rfl (CallW.val (r' := .bool v1) ok_impl_about (law_impl_about e1) (.cons (DFL.agg (.cons .int (.cons .int (.cons .int (.cons .int (.cons .int (.cons .str (.cons .str (.cons .str .nil))))))))) (.cons .int (.cons .int .nil))) .refl ?_)
  refine rl.run 1 rfl ?_
  refine rl.done ?_
  refine RW.ret ?_
  cases h1
  exact RRetS.mk rfl .bool (Gh.renN [0] (.cells rfl rfl (.keep .int .nil) .nil) rfl rfl rfl .nil)
theorem law_impl_latest_boxThere_1_bySeq {x0 : List TItem} {x1 : Int} {r : TItem × Bool} (hF : F_impl_latest_boxThere_1_bySeq x0 x1 = some r) : ACalls Try.prog 1 137 [.lst false 9 (fl (enc_TItem false) x0) x0.length, .fn 192 [.ptr 0 0], .fn 140 []] [some ⟨[.int .i64 x1], 0⟩] (.tup [.agg (enc_TItem true r.1), .bool r.2]) [some ⟨[.int .i64 x1], 0⟩] := by
  refine ACalls.of_s k_impl_latest rfl ?_
  unfold F_impl_latest_boxThere_1_bySeq at hF
  refine RW.sreg ?_
  refine rl.run 2 rfl ?_
  refine rl.done ?_
  refine RW.sreg ?_
  refine rl.run 4 rfl ?_
  refine rl.done ?_
  refine RW.seq ?_
  refine RW.sreg ?_
  refine rl.run 3 rfl ?_
  refine rl.done ?_
  obtain ⟨y7, ey7, h2⟩ := bindS hF
  refine RW.cutq (σ := Bool × Int × Int × Int × Int × Int × Int × (List UInt8) × (List UInt8) × (List UInt8)) (fun y2 => [(6, .ptr 1 0), (8, .ptr 2 0), (9, .bool y2.1)]) (fun y2 => [some ⟨[.int .i64 x1], 0⟩, some ⟨[.int .i64 0, .int .i64 0, .int .i64 0, .int .i64 0, .int .i64 0, .int .i64 0, .str [], .str [], .str []], 0⟩, some ⟨[.int .i64 y2.2.1, .int .i64 y2.2.2.1, .int .i64 y2.2.2.2.1, .int .i64 y2.2.2.2.2.1, .int .i64 y2.2.2.2.2.2.1, .int .i64 y2.2.2.2.2.2.2.1, .str y2.2.2.2.2.2.2.2.1, .str y2.2.2.2.2.2.2.2.2.1, .str y2.2.2.2.2.2.2.2.2.2], 0⟩]) (fun y => y7 = y) (fun _ _ _ _ g h => RW.gh g h) ?_ ?_
  · refine RW.blk ?_
    refine RW.iter (σ := Bool × Int × Int × Int × Int × Int × Int × Int × (List UInt8) × (List UInt8) × (List UInt8)) ey7 (fun s1 => [(1, .fn 192 [.ptr 0 0]), (2, .fn 140 []), (6, .ptr 1 0), (8, .ptr 2 0), (9, .bool s1.1), (13, .lst false 9 (fl (enc_TItem false) x0) x0.length), (14, .int .i64 (x0.length : Int)), (15, .int .i64 s1.2.1)]) (fun s1 => [some ⟨[.int .i64 x1], 0⟩, some ⟨[.int .i64 0, .int .i64 0, .int .i64 0, .int .i64 0, .int .i64 0, .int .i64 0, .str [], .str [], .str []], 0⟩, some ⟨[.int .i64 s1.2.2.1, .int .i64 s1.2.2.2.1, .int .i64 s1.2.2.2.2.1, .int .i64 s1.2.2.2.2.2.1, .int .i64 s1.2.2.2.2.2.2.1, .int .i64 s1.2.2.2.2.2.2.2.1, .str s1.2.2.2.2.2.2.2.2.1, .str s1.2.2.2.2.2.2.2.2.2.1, .str s1.2.2.2.2.2.2.2.2.2.2], 0⟩]) (Gh.renN [0, 1, 2] (.cells rfl rfl (.keep .int .nil) (.cells rfl rfl (.keep .int (.keep .int (.keep .int (.keep .int (.keep .int (.keep .int (.keep .str (.keep .str (.keep .str .nil))))))))) (.cells rfl rfl (.keep .int (.keep .int (.keep .int (.keep .int (.keep .int (.keep .int (.keep .str (.keep .str (.keep .str .nil))))))))) .nil))) rfl rfl rfl (.cons rfl (RnL.fn (.cons (.ptr rfl) .nil)) (.cons rfl (RnL.fn .nil) (.cons rfl (.ptr rfl) (.cons rfl (.ptr rfl) (.cons rfl (.dat .bool) (.cons rfl (.dat (ek_TItem.rlst)) (.cons rfl (.dat .int) (.cons rfl (.dat .int) .nil))))))))) (fun s1 B o hS1 hB1 hE1 => ?_)
    unfold S_impl_latest_boxThere_1_bySeq_1 at hS1
    refine RW.sreg ?_
    refine rl.gen rfl rfl fun b hb => ?_
    cases b
    · have h3 := iteBF hS1 hb
      refine rl.done ?_
      refine RW.seq ?_
      refine RW.cond_f rfl ?_
      refine RW.exit ?_
      refine blkA_eq ?_
      cases h3
      exact ⟨_, (hE1 _ rfl).symm, (Gh.renN [0, 1, 2] (.cells rfl rfl (.keep .int .nil) (.cells rfl rfl (.keep .int (.keep .int (.keep .int (.keep .int (.keep .int (.keep .int (.keep .str (.keep .str (.keep .str .nil))))))))) (.cells rfl rfl (.keep .int (.keep .int (.keep .int (.keep .int (.keep .int (.keep .int (.keep .str (.keep .str (.keep .str .nil))))))))) .nil))) rfl rfl rfl (.cons rfl (.ptr rfl) (.cons rfl (.ptr rfl) (.cons rfl (.dat .bool) .nil))))⟩
    · have h4 := iteBT hS1 hb
      refine rl.done ?_
      refine RW.seq ?_
      refine RW.cond_t rfl ?_
      refine RW.skip ?_
      refine RW.seq ?_
      refine RW.blk ?_
      refine RW.sreg ?_
      obtain ⟨v3, e3, h5⟩ := bindS h4
      refine rl.op (x_ia_lst (enc := enc_TItem) (o := false) rfl rfl rfl e3) ?_
      refine rl.op (x_ld_ela (off' := 0) (vs := (enc_TItem false v3)) ek_TItem rfl e3 rfl rfl rfl) ?_
      refine rl.run 2 rfl ?_
      refine rl.done ?_
      refine RW.seq ?_
      obtain ⟨y4, ey4, h6⟩ := bindS h5
      refine RW.cutq (σ := Bool) (fun y4 => [(1, .fn 192 [.ptr 0 0]), (2, .fn 140 []), (6, .ptr 1 0), (8, .ptr 2 0), (9, .bool s1.1), (11, .ptr 3 0), (13, .lst false 9 (fl (enc_TItem false) x0) x0.length), (14, .int .i64 (x0.length : Int)), (15, .int .i64 s1.2.1), (32, .bool y4)]) (fun y4 => [some ⟨[.int .i64 x1], 0⟩, some ⟨[.int .i64 0, .int .i64 0, .int .i64 0, .int .i64 0, .int .i64 0, .int .i64 0, .str [], .str [], .str []], 0⟩, some ⟨[.int .i64 s1.2.2.1, .int .i64 s1.2.2.2.1, .int .i64 s1.2.2.2.2.1, .int .i64 s1.2.2.2.2.2.1, .int .i64 s1.2.2.2.2.2.2.1, .int .i64 s1.2.2.2.2.2.2.2.1, .str s1.2.2.2.2.2.2.2.2.1, .str s1.2.2.2.2.2.2.2.2.2.1, .str s1.2.2.2.2.2.2.2.2.2.2], 0⟩, some ⟨[.int .i64 v3.Seq, .int .i64 v3.Rec.Kind, .int .i64 v3.Rec.Valid, .int .i64 v3.Rec.Uid, .int .i64 v3.Rec.Next, .int .i64 v3.Rec.Flags, .str v3.Rec.User, .str v3.Rec.Name, .str v3.Rec.Text], 0⟩]) (fun y => y4 = y) (fun _ _ _ _ g h => RW.gh g h) ?_ ?_
      · refine RW.reg ?_
        refine rl.run 3 rfl ?_
        obtain ⟨v5, e5, h7⟩ := bindS ey4
        refine rl.call rfl rfl rfl (CallW.embR [0] ok_impl_boxThere_1 (law_impl_boxThere_1_w e5) (.cells rfl rfl (.keep .int .nil) .nil) rfl rfl (.cons (RnL.agg (.cons (.dat .int) (.cons (.dat .int) (.cons (.dat .int) (.cons (.dat .int) (.cons (.dat .int) (.cons (.dat .str) (.cons (.dat .str) (.cons (.dat .str) .nil))))))))) (.cons (.ptr rfl) .nil)) .bool ?_)
        cases hb : v5
        · have h8 := iteBF h7 hb
          refine rl.run 10 rfl ?_
          refine rl.done ?_
          cases h8
          exact ⟨_, rfl, (Gh.renN [0, 1, 2, 3] (.cells rfl rfl (.keep .int .nil) (.cells rfl rfl (.keep .int (.keep .int (.keep .int (.keep .int (.keep .int (.keep .int (.keep .str (.keep .str (.keep .str .nil))))))))) (.cells rfl rfl (.keep .int (.keep .int (.keep .int (.keep .int (.keep .int (.keep .int (.keep .str (.keep .str (.keep .str .nil))))))))) (.cells rfl rfl (.keep .int (.keep .int (.keep .int (.keep .int (.keep .int (.keep .int (.keep .str (.keep .str (.keep .str .nil))))))))) .nil)))) rfl rfl rfl (.cons rfl (RnL.fn (.cons (.ptr rfl) .nil)) (.cons rfl (RnL.fn .nil) (.cons rfl (.ptr rfl) (.cons rfl (.ptr rfl) (.cons rfl (.dat .bool) (.cons rfl (.ptr rfl) (.cons rfl (.dat (ek_TItem.rlst)) (.cons rfl (.dat .int) (.cons rfl (.dat .int) (.cons rfl (.dat .bool) .nil)))))))))))⟩
        · have h9 := iteBT h7 hb
          refine rl.run 4 rfl ?_
          cases hb : (!s1.1)
          · have h10 := iteBF h9 hb
            refine rl.run 3 rfl ?_
            obtain ⟨v6, e6, h11⟩ := bindS h10
            refine rl.call rfl rfl rfl (CallW.val (r' := .bool v6) ok_impl_bySeq (law_impl_bySeq e6) (.cons (DFL.agg (.cons .int (.cons .int (.cons .int (.cons .int (.cons .int (.cons .int (.cons .str (.cons .str (.cons .str .nil)))))))))) (.cons (DFL.agg (.cons .int (.cons .int (.cons .int (.cons .int (.cons .int (.cons .int (.cons .str (.cons .str (.cons .str .nil)))))))))) .nil)) .refl ?_)
            cases hb : v6
            · have h12 := iteBF h11 hb
              refine rl.run 2 rfl ?_
              refine rl.done ?_
              cases h12
              exact ⟨_, rfl, (Gh.renN [0, 1, 2, 3] (.cells rfl rfl (.keep .int .nil) (.cells rfl rfl (.keep .int (.keep .int (.keep .int (.keep .int (.keep .int (.keep .int (.keep .str (.keep .str (.keep .str .nil))))))))) (.cells rfl rfl (.keep .int (.keep .int (.keep .int (.keep .int (.keep .int (.keep .int (.keep .str (.keep .str (.keep .str .nil))))))))) (.cells rfl rfl (.keep .int (.keep .int (.keep .int (.keep .int (.keep .int (.keep .int (.keep .str (.keep .str (.keep .str .nil))))))))) .nil)))) rfl rfl rfl (.cons rfl (RnL.fn (.cons (.ptr rfl) .nil)) (.cons rfl (RnL.fn .nil) (.cons rfl (.ptr rfl) (.cons rfl (.ptr rfl) (.cons rfl (.dat .bool) (.cons rfl (.ptr rfl) (.cons rfl (.dat (ek_TItem.rlst)) (.cons rfl (.dat .int) (.cons rfl (.dat .int) (.cons rfl (.dat .bool) .nil)))))))))))⟩
            · have h13 := iteBT h11 hb
              refine rl.run 2 rfl ?_
              refine rl.done ?_
              cases h13
              exact ⟨_, rfl, (Gh.renN [0, 1, 2, 3] (.cells rfl rfl (.keep .int .nil) (.cells rfl rfl (.keep .int (.keep .int (.keep .int (.keep .int (.keep .int (.keep .int (.keep .str (.keep .str (.keep .str .nil))))))))) (.cells rfl rfl (.keep .int (.keep .int (.keep .int (.keep .int (.keep .int (.keep .int (.keep .str (.keep .str (.keep .str .nil))))))))) (.cells rfl rfl (.keep .int (.keep .int (.keep .int (.keep .int (.keep .int (.keep .int (.keep .str (.keep .str (.keep .str .nil))))))))) .nil)))) rfl rfl rfl (.cons rfl (RnL.fn (.cons (.ptr rfl) .nil)) (.cons rfl (RnL.fn .nil) (.cons rfl (.ptr rfl) (.cons rfl (.ptr rfl) (.cons rfl (.dat .bool) (.cons rfl (.ptr rfl) (.cons rfl (.dat (ek_TItem.rlst)) (.cons rfl (.dat .int) (.cons rfl (.dat .int) (.cons rfl (.dat .bool) .nil)))))))))))⟩
          · have h14 := iteBT h9 hb
            refine rl.run 6 rfl ?_
            refine rl.done ?_
            cases h14
            exact ⟨_, rfl, (Gh.renN [0, 1, 2, 3] (.cells rfl rfl (.keep .int .nil) (.cells rfl rfl (.keep .int (.keep .int (.keep .int (.keep .int (.keep .int (.keep .int (.keep .str (.keep .str (.keep .str .nil))))))))) (.cells rfl rfl (.keep .int (.keep .int (.keep .int (.keep .int (.keep .int (.keep .int (.keep .str (.keep .str (.keep .str .nil))))))))) (.cells rfl rfl (.keep .int (.keep .int (.keep .int (.keep .int (.keep .int (.keep .int (.keep .str (.keep .str (.keep .str .nil))))))))) .nil)))) rfl rfl rfl (.cons rfl (RnL.fn (.cons (.ptr rfl) .nil)) (.cons rfl (RnL.fn .nil) (.cons rfl (.ptr rfl) (.cons rfl (.ptr rfl) (.cons rfl (.dat .bool) (.cons rfl (.ptr rfl) (.cons rfl (.dat (ek_TItem.rlst)) (.cons rfl (.dat .int) (.cons rfl (.dat .int) (.cons rfl (.dat .bool) .nil)))))))))))⟩
      · intro y hC
        subst hC
        cases hb : y4
        · have h15 := iteBF h6 hb
          refine RW.cond_f rfl ?_
          refine RW.skip ?_
          refine RW.reg ?_
          refine rl.run 2 rfl ?_
          refine rl.done ?_
          cases h15
          exact hB1 _ rfl _ _ (Gh.renN [0, 1, 2] (.cells rfl rfl (.keep .int .nil) (.cells rfl rfl (.keep .int (.keep .int (.keep .int (.keep .int (.keep .int (.keep .int (.keep .str (.keep .str (.keep .str .nil))))))))) (.cells rfl rfl (.keep .int (.keep .int (.keep .int (.keep .int (.keep .int (.keep .int (.keep .str (.keep .str (.keep .str .nil))))))))) .nil))) rfl rfl rfl (.cons rfl (RnL.fn (.cons (.ptr rfl) .nil)) (.cons rfl (RnL.fn .nil) (.cons rfl (.ptr rfl) (.cons rfl (.ptr rfl) (.cons rfl (.dat .bool) (.cons rfl (.dat (ek_TItem.rlst)) (.cons rfl (.dat .int) (.cons rfl (.dat .int) .nil)))))))))
        · have h16 := iteBT h6 hb
          refine RW.cond_t rfl ?_
          refine RW.reg ?_
          refine rl.run 3 rfl ?_
          refine rl.done ?_
          refine RW.reg ?_
          refine rl.run 2 rfl ?_
          refine rl.done ?_
          cases h16
          exact hB1 _ rfl _ _ (Gh.renN [0, 1, 2] (.cells rfl rfl (.keep .int .nil) (.cells rfl rfl (.keep .int (.keep .int (.keep .int (.keep .int (.keep .int (.keep .int (.keep .str (.keep .str (.keep .str .nil))))))))) (.cells rfl rfl (.keep .int (.keep .int (.keep .int (.keep .int (.keep .int (.keep .int (.keep .str (.keep .str (.keep .str .nil))))))))) .nil))) rfl rfl rfl (.cons rfl (RnL.fn (.cons (.ptr rfl) .nil)) (.cons rfl (RnL.fn .nil) (.cons rfl (.ptr rfl) (.cons rfl (.ptr rfl) (.cons rfl (.dat .bool) (.cons rfl (.dat (ek_TItem.rlst)) (.cons rfl (.dat .int) (.cons rfl (.dat .int) .nil)))))))))
  · intro y2 hC
    subst hC
    refine RW.sreg ?_
    refine rl.run 4 rfl ?_
    refine rl.done ?_
    refine RW.ret ?_
    cases h2
    exact RRetS.mk rfl (.tup (fac (.agg (sc_TItem _ _)) (fac .bool fan))) (Gh.renN [0] (.cells rfl rfl (.keep .int .nil) .nil) rfl rfl rfl .nil)
end Go.Proofs.Ytgdcbjoaoagbpaa.V
