/- What a call comes to. -/
import Derived.Test.YtgdcbjoaoagbpaaXT
import Derived.Test.YtgdcbjoaoagbpaaXU
namespace Go.Proofs.Ytgdcbjoaoagbpaa.V
open Go Go.Proofs Go.RowKit
set_option maxRecDepth 100000
theorem law_laws_szStringS {x0 : List (List UInt8)} {x1 : Int} {r : Int} (hF : F_laws_szStringS x0 x1 = some r) : PCalls Try.prog 81 [.lst false 1 (fl (encS false) x0) x0.length, .int .i64 x1] (.int .i64 r) := by
 refine PCalls.of_r k_laws_szStringS rfl ?_
 unfold F_laws_szStringS at hF
 refine RW.sreg (rl.run 1 rfl (rl.done (RW.sreg (rl.run 5 rfl (rl.done (RW.seq (RW.sreg (rl.run 1 rfl ?_))))))))
 refine rl.gen rfl rfl fun b hb => ?_
 cases b
 ·have h1 := iteBF hF hb
  refine rl.done (RW.cond_f rfl (RW.skip (RW.seq (RW.sreg (rl.run 1 rfl (rl.done ?_))))))
  obtain ⟨y4, ey4, h3⟩ := bindS h1
  refine RW.cutq (σ := Int) (fun y2 => [(1, .int .i64 y2)]) (fun y2 => []) (fun y => y4 = .inr y) (fun _ _ _ _ g h => RW.gh g h) ?_ ?_
  ·refine RW.blk ?_
   refine RW.iter (σ := Int × Int) ey4 (fun s1 => [(0, .lst false 1 (fl (encS false) x0) x0.length), (1, .int .i64 s1.1), (5, .int .i64 s1.2)]) (fun s1 => []) (Gh.ren0 [] .nil rfl (.cons rfl (.dat (ekS.rlst)) (.cons rfl (.dat .int) (.cons rfl (.dat .int) .nil)))) (fun s1 B o hS2 hB2 hE2 => ?_)
   unfold S_laws_szStringS_1 at hS2
   refine RW.seq (RW.sreg (rl.run 3 rfl ?_))
   refine rl.gen rfl rfl fun b hb => ?_
   cases b
   ·have h4 := iteBF hS2 hb
    refine rl.done (RW.cond_f rfl (RW.exit (blkA_eq ?_)))
    cases h4
    exact ⟨_, (hE2 _ rfl).symm, (Gh.ren0 [] .nil rfl (.cons rfl (.dat .int) .nil))⟩
   ·have h5 := iteBT hS2 hb
    refine rl.done (RW.cond_t rfl (RW.skip (RW.seq (RW.blk (RW.sreg (rl.run 3 rfl ?_))))))
    obtain ⟨v3, e3, h6⟩ := bindS h5
    refine rl.op (x_ia_lst (enc := encS) (o := false) rfl rfl rfl e3) ?_
    refine rl.op (x_ld_el (off' := 0) ekS rfl e3 rfl rfl rfl) ?_
    refine rl.run 3 rfl (rl.done ?_)
    refine RW.keep [0, 1, 5] (a' := [(0, .lst false 1 (fl (encS false) x0) x0.length), (1, .int .i64 (w64 (s1.1 - (v3.length : Int)))), (5, .int .i64 s1.2)]) (H' := []) rfl rfl ?_
    refine RW.sreg (rl.run 1 rfl ?_)
    refine rl.gen rfl rfl fun b hb => ?_
    cases b
    ·have h7 := iteBF h6 hb
     refine rl.done (RW.cond_f rfl (RW.skip (RW.reg (rl.run 3 rfl (rl.done ?_)))))
     cases h7
     exact hB2 _ rfl _ _ (Gh.ren0 [] .nil rfl (.cons rfl (.dat (ekS.rlst)) (.cons rfl (.dat .int) (.cons rfl (.dat .int) .nil))))
    ·have h8 := iteBT h6 hb
     refine rl.done (RW.cond_t rfl (RW.sreg (rl.run 1 rfl (rl.done (RW.ret ?_)))))
     cases h8
     have h9 := elimL h3 (hE2 _ rfl)
     cases h9
     exact RRet.mk rfl .int (by first | decide | simp)
  ·intro y2 hC
   have h3 := elimR h3 hC
   refine RW.sreg (rl.run 2 rfl (rl.done (RW.ret ?_)))
   cases h3
   exact RRet.mk rfl .int (by first | decide | simp)
 ·have h10 := iteBT hF hb
  refine rl.done (RW.cond_t rfl (RW.sreg (rl.run 1 rfl (rl.done (RW.ret ?_)))))
  cases h10
  exact RRet.mk rfl .int (by first | decide | simp)
theorem law_laws_szWrite {x0 : TWrite} {x1 : Int} {r : Int} (hF : F_laws_szWrite x0 x1 = some r) : PCalls Try.prog 146 [.agg (enc_TWrite false x0), .int .i64 x1] (.int .i64 r) := by
 refine PCalls.of_r k_laws_szWrite rfl ?_
 unfold F_laws_szWrite at hF
 refine RW.sreg (rl.run 2 rfl (rl.done (RW.sreg (rl.run 6 rfl (rl.done (RW.seq (RW.sreg (rl.run 1 rfl ?_))))))))
 refine rl.gen rfl rfl fun b hb => ?_
 cases b
 ·have h1 := iteBF hF hb
  refine rl.done (RW.cond_f rfl (RW.skip (RW.sreg (rl.run 2 rfl (rl.done ?_)))))
  refine RW.keep [4] (a' := [(4, .int .i64 (w64 (x1 - (x0.Text.length : Int))))]) (H' := [some ⟨[.int .i64 x0.At, .str x0.Text], 0⟩]) rfl rfl ?_
  refine RW.ret ?_
  cases h1
  exact RRet.mk rfl .int (by first | decide | simp)
 ·have h2 := iteBT hF hb
  refine rl.done (RW.cond_t rfl (RW.sreg (rl.run 1 rfl (rl.done (RW.ret ?_)))))
  cases h2
  exact RRet.mk rfl .int (by first | decide | simp)
theorem law_laws_szWriteS {x0 : List TWrite} {x1 : Int} {r : Int} (hF : F_laws_szWriteS x0 x1 = some r) : PCalls Try.prog 82 [.lst false 2 (fl (enc_TWrite false) x0) x0.length, .int .i64 x1] (.int .i64 r) := by
 refine PCalls.of_r k_laws_szWriteS rfl ?_
 unfold F_laws_szWriteS at hF
 refine RW.sreg (rl.run 1 rfl (rl.done (RW.sreg (rl.run 5 rfl (rl.done (RW.seq (RW.sreg (rl.run 1 rfl ?_))))))))
 refine rl.gen rfl rfl fun b hb => ?_
 cases b
 ·have h1 := iteBF hF hb
  refine rl.done (RW.cond_f rfl (RW.skip (RW.seq (RW.sreg (rl.run 1 rfl (rl.done ?_))))))
  obtain ⟨y5, ey5, h3⟩ := bindS h1
  refine RW.cutq (σ := Int) (fun y2 => [(1, .int .i64 y2)]) (fun y2 => []) (fun y => y5 = .inr y) (fun _ _ _ _ g h => RW.gh g h) ?_ ?_
  ·refine RW.blk ?_
   refine RW.iter (σ := Int × Int) ey5 (fun s1 => [(0, .lst false 2 (fl (enc_TWrite false) x0) x0.length), (1, .int .i64 s1.1), (5, .int .i64 s1.2)]) (fun s1 => []) (Gh.ren0 [] .nil rfl (.cons rfl (.dat (ek_TWrite.rlst)) (.cons rfl (.dat .int) (.cons rfl (.dat .int) .nil)))) (fun s1 B o hS2 hB2 hE2 => ?_)
   unfold S_laws_szWriteS_1 at hS2
   refine RW.seq (RW.sreg (rl.run 3 rfl ?_))
   refine rl.gen rfl rfl fun b hb => ?_
   cases b
   ·have h4 := iteBF hS2 hb
    refine rl.done (RW.cond_f rfl (RW.exit (blkA_eq ?_)))
    cases h4
    exact ⟨_, (hE2 _ rfl).symm, (Gh.ren0 [] .nil rfl (.cons rfl (.dat .int) .nil))⟩
   ·have h5 := iteBT hS2 hb
    refine rl.done (RW.cond_t rfl (RW.skip (RW.seq (RW.blk (RW.sreg (rl.run 2 rfl ?_))))))
    obtain ⟨v3, e3, h6⟩ := bindS h5
    refine rl.op (x_ia_lst (enc := enc_TWrite) (o := false) rfl rfl rfl e3) ?_
    refine rl.op (x_ld_ela (off' := 0) (vs := (enc_TWrite false v3)) ek_TWrite rfl e3 rfl rfl rfl) ?_
    refine rl.run 1 rfl ?_
    obtain ⟨v4, e4, h7⟩ := bindS h6
    refine rl.call rfl rfl rfl (CallW.val (r' := .int .i64 v4) ok_laws_szWrite (law_laws_szWrite e4) (.cons (.dat (.agg (ek_TWrite.dat false _))) (.cons .int .nil)) .refl ?_)
    refine rl.run 1 rfl (rl.done (RW.sreg (rl.run 1 rfl ?_)))
    refine rl.gen rfl rfl fun b hb => ?_
    cases b
    ·have h8 := iteBF h7 hb
     refine rl.done ?_
     refine RW.keep [0, 1, 5, 25] (a' := [(0, .lst false 2 (fl (enc_TWrite false) x0) x0.length), (1, .int .i64 v4), (5, .int .i64 s1.2), (25, .bool false)]) (H' := []) rfl rfl ?_
     refine RW.cond_f rfl (RW.skip (RW.reg (rl.run 3 rfl (rl.done ?_))))
     cases h8
     exact hB2 _ rfl _ _ (Gh.ren0 [] .nil rfl (.cons rfl (.dat (ek_TWrite.rlst)) (.cons rfl (.dat .int) (.cons rfl (.dat .int) .nil))))
    ·have h9 := iteBT h7 hb
     refine rl.done ?_
     refine RW.keep [0, 1, 5, 25] (a' := [(0, .lst false 2 (fl (enc_TWrite false) x0) x0.length), (1, .int .i64 v4), (5, .int .i64 s1.2), (25, .bool true)]) (H' := []) rfl rfl ?_
     refine RW.cond_t rfl (RW.sreg (rl.run 1 rfl (rl.done (RW.ret ?_))))
     cases h9
     have h10 := elimL h3 (hE2 _ rfl)
     cases h10
     exact RRet.mk rfl .int (by first | decide | simp)
  ·intro y2 hC
   have h3 := elimR h3 hC
   refine RW.sreg (rl.run 2 rfl (rl.done (RW.ret ?_)))
   cases h3
   exact RRet.mk rfl .int (by first | decide | simp)
 ·have h11 := iteBT hF hb
  refine rl.done (RW.cond_t rfl (RW.sreg (rl.run 1 rfl (rl.done (RW.ret ?_)))))
  cases h11
  exact RRet.mk rfl .int (by first | decide | simp)
theorem law_laws_szDisk {x0 : TDisk} {x1 : Int} {r : Int} (hF : F_laws_szDisk x0 x1 = some r) : PCalls Try.prog 40 [.agg (enc_TDisk false x0), .int .i64 x1] (.int .i64 r) := by
 refine PCalls.of_r k_laws_szDisk rfl ?_
 unfold F_laws_szDisk at hF
 refine RW.sreg (rl.run 2 rfl (rl.done (RW.sreg (rl.run 3 rfl ?_))))
 obtain ⟨v1, e1, h1⟩ := bindS hF
 refine rl.call rfl rfl rfl (CallW.val (r' := .int .i64 v1) ok_laws_szStringS (law_laws_szStringS e1) (.cons (.lst ekS) (.cons .int .nil)) .refl ?_)
 refine rl.run 1 rfl (rl.done (RW.seq (RW.sreg (rl.run 1 rfl ?_))))
 refine rl.gen rfl rfl fun b hb => ?_
 cases b
 ·have h2 := iteBF h1 hb
  refine rl.done (RW.cond_f rfl (RW.skip (RW.sreg (rl.run 3 rfl ?_))))
  obtain ⟨v2, e2, h3⟩ := bindS h2
  refine rl.call rfl rfl rfl (CallW.val (r' := .int .i64 v2) ok_laws_szWriteS (law_laws_szWriteS e2) (.cons (.lst ek_TWrite) (.cons .int .nil)) .refl ?_)
  refine rl.run 1 rfl (rl.done ?_)
  refine RW.keep [1] (a' := [(1, .int .i64 v2)]) (H' := [some ⟨[.lst false 1 (fl (encS false) x0.Sectors) x0.Sectors.length, .lst false 2 (fl (enc_TWrite false) x0.Cache) x0.Cache.length], 0⟩]) rfl rfl ?_
  refine RW.seq (RW.sreg (rl.run 1 rfl ?_))
  refine rl.gen rfl rfl fun b hb => ?_
  cases b
  ·have h4 := iteBF h3 hb
   refine rl.done (RW.cond_f rfl (RW.skip (RW.sreg (rl.run 2 rfl (rl.done (RW.ret ?_))))))
   cases h4
   exact RRet.mk rfl .int (by first | decide | simp)
  ·have h5 := iteBT h3 hb
   refine rl.done (RW.cond_t rfl (RW.sreg (rl.run 1 rfl (rl.done (RW.ret ?_)))))
   cases h5
   exact RRet.mk rfl .int (by first | decide | simp)
 ·have h6 := iteBT h1 hb
  refine rl.done (RW.cond_t rfl (RW.sreg (rl.run 1 rfl (rl.done (RW.ret ?_)))))
  cases h6
  exact RRet.mk rfl .int (by first | decide | simp)
theorem law_laws_szRec {x0 : TRec} {x1 : Int} {r : Int} (hF : F_laws_szRec x0 x1 = some r) : PCalls Try.prog 123 [.agg (enc_TRec false x0), .int .i64 x1] (.int .i64 r) := by
 refine PCalls.of_r k_laws_szRec rfl ?_
 unfold F_laws_szRec at hF
 refine RW.sreg (rl.run 2 rfl (rl.done (RW.sreg (rl.run 6 rfl (rl.done (RW.seq (RW.sreg (rl.run 1 rfl ?_))))))))
 refine rl.gen rfl rfl fun b hb => ?_
 cases b
 ·have h1 := iteBF hF hb
  refine rl.done (RW.cond_f rfl (RW.skip (RW.sreg (rl.run 6 rfl (rl.done ?_)))))
  refine RW.keep [1, 2] (a' := [(1, .int .i64 (w64 ((w64 (x1 - (x0.User.length : Int))) - (x0.Name.length : Int)))), (2, .ptr 0 0)]) (H' := [some ⟨[.int .i64 x0.Kind, .int .i64 x0.Valid, .int .i64 x0.Uid, .int .i64 x0.Next, .int .i64 x0.Flags, .str x0.User, .str x0.Name, .str x0.Text], 0⟩]) rfl rfl ?_
  refine RW.seq (RW.sreg (rl.run 1 rfl ?_))
  refine rl.gen rfl rfl fun b hb => ?_
  cases b
  ·have h2 := iteBF h1 hb
   refine rl.done (RW.cond_f rfl (RW.skip (RW.sreg (rl.run 6 rfl (rl.done (RW.seq (RW.sreg (rl.run 1 rfl ?_))))))))
   refine rl.gen rfl rfl fun b hb => ?_
   cases b
   ·have h3 := iteBF h2 hb
    refine rl.done (RW.cond_f rfl (RW.skip (RW.sreg (rl.run 2 rfl (rl.done ?_)))))
    refine RW.keep [4] (a' := [(4, .int .i64 (w64 ((w64 ((w64 (x1 - (x0.User.length : Int))) - (x0.Name.length : Int))) - (x0.Text.length : Int))))]) (H' := [some ⟨[.int .i64 x0.Kind, .int .i64 x0.Valid, .int .i64 x0.Uid, .int .i64 x0.Next, .int .i64 x0.Flags, .str x0.User, .str x0.Name, .str x0.Text], 0⟩]) rfl rfl ?_
    refine RW.ret ?_
    cases h3
    exact RRet.mk rfl .int (by first | decide | simp)
   ·have h4 := iteBT h2 hb
    refine rl.done (RW.cond_t rfl (RW.sreg (rl.run 1 rfl (rl.done ?_))))
    refine RW.keep [4] (a' := [(4, .int .i64 (-1))]) (H' := [some ⟨[.int .i64 x0.Kind, .int .i64 x0.Valid, .int .i64 x0.Uid, .int .i64 x0.Next, .int .i64 x0.Flags, .str x0.User, .str x0.Name, .str x0.Text], 0⟩]) rfl rfl ?_
    refine RW.ret ?_
    cases h4
    exact RRet.mk rfl .int (by first | decide | simp)
  ·have h5 := iteBT h1 hb
   refine rl.done (RW.cond_t rfl (RW.sreg (rl.run 1 rfl (rl.done (RW.ret ?_)))))
   cases h5
   exact RRet.mk rfl .int (by first | decide | simp)
 ·have h6 := iteBT hF hb
  refine rl.done (RW.cond_t rfl (RW.sreg (rl.run 1 rfl (rl.done (RW.ret ?_)))))
  cases h6
  exact RRet.mk rfl .int (by first | decide | simp)
theorem law_laws_szItem {x0 : TItem} {x1 : Int} {r : Int} (hF : F_laws_szItem x0 x1 = some r) : PCalls Try.prog 67 [.agg (enc_TItem false x0), .int .i64 x1] (.int .i64 r) := by
 refine PCalls.of_r k_laws_szItem rfl ?_
 unfold F_laws_szItem at hF
 refine RW.sreg (rl.run 2 rfl (rl.done (RW.sreg (rl.run 3 rfl ?_))))
 obtain ⟨v1, e1, h1⟩ := bindS hF
 refine rl.call rfl rfl rfl (CallW.val (r' := .int .i64 v1) ok_laws_szRec (law_laws_szRec e1) (.cons (DFL.agg (.cons .int (.cons .int (.cons .int (.cons .int (.cons .int (.cons .str (.cons .str (.cons .str .nil))))))))) (.cons .int .nil)) .refl ?_)
 refine rl.run 1 rfl (rl.done (RW.seq (RW.sreg (rl.run 1 rfl ?_))))
 refine rl.gen rfl rfl fun b hb => ?_
 cases b
 ·have h2 := iteBF h1 hb
  refine rl.done (RW.cond_f rfl (RW.skip (RW.sreg (rl.run 2 rfl (rl.done (RW.ret ?_))))))
  cases h2
  exact RRet.mk rfl .int (by first | decide | simp)
 ·have h3 := iteBT h1 hb
  refine rl.done (RW.cond_t rfl (RW.sreg (rl.run 1 rfl (rl.done (RW.ret ?_)))))
  cases h3
  exact RRet.mk rfl .int (by first | decide | simp)
theorem law_laws_szItemS {x0 : List TItem} {x1 : Int} {r : Int} (hF : F_laws_szItemS x0 x1 = some r) : PCalls Try.prog 17 [.lst false 9 (fl (enc_TItem false) x0) x0.length, .int .i64 x1] (.int .i64 r) := by
 refine PCalls.of_r k_laws_szItemS rfl ?_
 unfold F_laws_szItemS at hF
 refine RW.sreg (rl.run 1 rfl (rl.done (RW.sreg (rl.run 5 rfl (rl.done (RW.seq (RW.sreg (rl.run 1 rfl ?_))))))))
 refine rl.gen rfl rfl fun b hb => ?_
 cases b
 ·have h1 := iteBF hF hb
  refine rl.done (RW.cond_f rfl (RW.skip (RW.seq (RW.sreg (rl.run 1 rfl (rl.done ?_))))))
  obtain ⟨y5, ey5, h3⟩ := bindS h1
  refine RW.cutq (σ := Int) (fun y2 => [(1, .int .i64 y2)]) (fun y2 => []) (fun y => y5 = .inr y) (fun _ _ _ _ g h => RW.gh g h) ?_ ?_
  ·refine RW.blk ?_
   refine RW.iter (σ := Int × Int) ey5 (fun s1 => [(0, .lst false 9 (fl (enc_TItem false) x0) x0.length), (1, .int .i64 s1.1), (5, .int .i64 s1.2)]) (fun s1 => []) (Gh.ren0 [] .nil rfl (.cons rfl (.dat (ek_TItem.rlst)) (.cons rfl (.dat .int) (.cons rfl (.dat .int) .nil)))) (fun s1 B o hS2 hB2 hE2 => ?_)
   unfold S_laws_szItemS_1 at hS2
   refine RW.seq (RW.sreg (rl.run 3 rfl ?_))
   refine rl.gen rfl rfl fun b hb => ?_
   cases b
   ·have h4 := iteBF hS2 hb
    refine rl.done (RW.cond_f rfl (RW.exit (blkA_eq ?_)))
    cases h4
    exact ⟨_, (hE2 _ rfl).symm, (Gh.ren0 [] .nil rfl (.cons rfl (.dat .int) .nil))⟩
   ·have h5 := iteBT hS2 hb
    refine rl.done (RW.cond_t rfl (RW.skip (RW.seq (RW.blk (RW.sreg (rl.run 2 rfl ?_))))))
    obtain ⟨v3, e3, h6⟩ := bindS h5
    refine rl.op (x_ia_lst (enc := enc_TItem) (o := false) rfl rfl rfl e3) ?_
    refine rl.op (x_ld_ela (off' := 0) (vs := (enc_TItem false v3)) ek_TItem rfl e3 rfl rfl rfl) ?_
    refine rl.run 1 rfl ?_
    obtain ⟨v4, e4, h7⟩ := bindS h6
    refine rl.call rfl rfl rfl (CallW.val (r' := .int .i64 v4) ok_laws_szItem (law_laws_szItem e4) (.cons (.dat (.agg (ek_TItem.dat false _))) (.cons .int .nil)) .refl ?_)
    refine rl.run 1 rfl (rl.done (RW.sreg (rl.run 1 rfl ?_)))
    refine rl.gen rfl rfl fun b hb => ?_
    cases b
    ·have h8 := iteBF h7 hb
     refine rl.done ?_
     refine RW.keep [0, 1, 5, 25] (a' := [(0, .lst false 9 (fl (enc_TItem false) x0) x0.length), (1, .int .i64 v4), (5, .int .i64 s1.2), (25, .bool false)]) (H' := []) rfl rfl ?_
     refine RW.cond_f rfl (RW.skip (RW.reg (rl.run 3 rfl (rl.done ?_))))
     cases h8
     exact hB2 _ rfl _ _ (Gh.ren0 [] .nil rfl (.cons rfl (.dat (ek_TItem.rlst)) (.cons rfl (.dat .int) (.cons rfl (.dat .int) .nil))))
    ·have h9 := iteBT h7 hb
     refine rl.done ?_
     refine RW.keep [0, 1, 5, 25] (a' := [(0, .lst false 9 (fl (enc_TItem false) x0) x0.length), (1, .int .i64 v4), (5, .int .i64 s1.2), (25, .bool true)]) (H' := []) rfl rfl ?_
     refine RW.cond_t rfl (RW.sreg (rl.run 1 rfl (rl.done (RW.ret ?_))))
     cases h9
     have h10 := elimL h3 (hE2 _ rfl)
     cases h10
     exact RRet.mk rfl .int (by first | decide | simp)
  ·intro y2 hC
   have h3 := elimR h3 hC
   refine RW.sreg (rl.run 2 rfl (rl.done (RW.ret ?_)))
   cases h3
   exact RRet.mk rfl .int (by first | decide | simp)
 ·have h11 := iteBT hF hb
  refine rl.done (RW.cond_t rfl (RW.sreg (rl.run 1 rfl (rl.done (RW.ret ?_)))))
  cases h11
  exact RRet.mk rfl .int (by first | decide | simp)
theorem law_laws_szSeg {x0 : TSeg} {x1 : Int} {r : Int} (hF : F_laws_szSeg x0 x1 = some r) : PCalls Try.prog 120 [.agg (enc_TSeg false x0), .int .i64 x1] (.int .i64 r) := by
 refine PCalls.of_r k_laws_szSeg rfl ?_
 unfold F_laws_szSeg at hF
 refine RW.sreg (rl.run 2 rfl (rl.done (RW.sreg (rl.run 3 rfl ?_))))
 obtain ⟨v1, e1, h1⟩ := bindS hF
 refine rl.call rfl rfl rfl (CallW.val (r' := .int .i64 v1) ok_laws_szItemS (law_laws_szItemS e1) (.cons (.lst ek_TItem) (.cons .int .nil)) .refl ?_)
 refine rl.run 1 rfl (rl.done (RW.seq (RW.sreg (rl.run 1 rfl ?_))))
 refine rl.gen rfl rfl fun b hb => ?_
 cases b
 ·have h2 := iteBF h1 hb
  refine rl.done (RW.cond_f rfl (RW.skip (RW.sreg (rl.run 2 rfl (rl.done (RW.ret ?_))))))
  cases h2
  exact RRet.mk rfl .int (by first | decide | simp)
 ·have h3 := iteBT h1 hb
  refine rl.done (RW.cond_t rfl (RW.sreg (rl.run 1 rfl (rl.done (RW.ret ?_)))))
  cases h3
  exact RRet.mk rfl .int (by first | decide | simp)
theorem law_laws_szSegS {x0 : List TSeg} {x1 : Int} {r : Int} (hF : F_laws_szSegS x0 x1 = some r) : PCalls Try.prog 61 [.lst false 4 (fl (enc_TSeg false) x0) x0.length, .int .i64 x1] (.int .i64 r) := by
 refine PCalls.of_r k_laws_szSegS rfl ?_
 unfold F_laws_szSegS at hF
 refine RW.sreg (rl.run 1 rfl (rl.done (RW.sreg (rl.run 5 rfl (rl.done (RW.seq (RW.sreg (rl.run 1 rfl ?_))))))))
 refine rl.gen rfl rfl fun b hb => ?_
 cases b
 ·have h1 := iteBF hF hb
  refine rl.done (RW.cond_f rfl (RW.skip (RW.seq (RW.sreg (rl.run 1 rfl (rl.done ?_))))))
  obtain ⟨y5, ey5, h3⟩ := bindS h1
  refine RW.cutq (σ := Int) (fun y2 => [(1, .int .i64 y2)]) (fun y2 => []) (fun y => y5 = .inr y) (fun _ _ _ _ g h => RW.gh g h) ?_ ?_
  ·refine RW.blk ?_
   refine RW.iter (σ := Int × Int) ey5 (fun s1 => [(0, .lst false 4 (fl (enc_TSeg false) x0) x0.length), (1, .int .i64 s1.1), (5, .int .i64 s1.2)]) (fun s1 => []) (Gh.ren0 [] .nil rfl (.cons rfl (.dat (ek_TSeg.rlst)) (.cons rfl (.dat .int) (.cons rfl (.dat .int) .nil)))) (fun s1 B o hS2 hB2 hE2 => ?_)
   unfold S_laws_szSegS_1 at hS2
   refine RW.seq (RW.sreg (rl.run 3 rfl ?_))
   refine rl.gen rfl rfl fun b hb => ?_
   cases b
   ·have h4 := iteBF hS2 hb
    refine rl.done (RW.cond_f rfl (RW.exit (blkA_eq ?_)))
    cases h4
    exact ⟨_, (hE2 _ rfl).symm, (Gh.ren0 [] .nil rfl (.cons rfl (.dat .int) .nil))⟩
   ·have h5 := iteBT hS2 hb
    refine rl.done (RW.cond_t rfl (RW.skip (RW.seq (RW.blk (RW.sreg (rl.run 2 rfl ?_))))))
    obtain ⟨v3, e3, h6⟩ := bindS h5
    refine rl.op (x_ia_lst (enc := enc_TSeg) (o := false) rfl rfl rfl e3) ?_
    refine rl.op (x_ld_ela (off' := 0) (vs := (enc_TSeg false v3)) ek_TSeg rfl e3 rfl rfl rfl) ?_
    refine rl.run 1 rfl ?_
    obtain ⟨v4, e4, h7⟩ := bindS h6
    refine rl.call rfl rfl rfl (CallW.val (r' := .int .i64 v4) ok_laws_szSeg (law_laws_szSeg e4) (.cons (.dat (.agg (ek_TSeg.dat false _))) (.cons .int .nil)) .refl ?_)
    refine rl.run 1 rfl (rl.done (RW.sreg (rl.run 1 rfl ?_)))
    refine rl.gen rfl rfl fun b hb => ?_
    cases b
    ·have h8 := iteBF h7 hb
     refine rl.done ?_
     refine RW.keep [0, 1, 5, 25] (a' := [(0, .lst false 4 (fl (enc_TSeg false) x0) x0.length), (1, .int .i64 v4), (5, .int .i64 s1.2), (25, .bool false)]) (H' := []) rfl rfl ?_
     refine RW.cond_f rfl (RW.skip (RW.reg (rl.run 3 rfl (rl.done ?_))))
     cases h8
     exact hB2 _ rfl _ _ (Gh.ren0 [] .nil rfl (.cons rfl (.dat (ek_TSeg.rlst)) (.cons rfl (.dat .int) (.cons rfl (.dat .int) .nil))))
    ·have h9 := iteBT h7 hb
     refine rl.done ?_
     refine RW.keep [0, 1, 5, 25] (a' := [(0, .lst false 4 (fl (enc_TSeg false) x0) x0.length), (1, .int .i64 v4), (5, .int .i64 s1.2), (25, .bool true)]) (H' := []) rfl rfl ?_
     refine RW.cond_t rfl (RW.sreg (rl.run 1 rfl (rl.done (RW.ret ?_))))
     cases h9
     have h10 := elimL h3 (hE2 _ rfl)
     cases h10
     exact RRet.mk rfl .int (by first | decide | simp)
  ·intro y2 hC
   have h3 := elimR h3 hC
   refine RW.sreg (rl.run 2 rfl (rl.done (RW.ret ?_)))
   cases h3
   exact RRet.mk rfl .int (by first | decide | simp)
 ·have h11 := iteBT hF hb
  refine rl.done (RW.cond_t rfl (RW.sreg (rl.run 1 rfl (rl.done (RW.ret ?_)))))
  cases h11
  exact RRet.mk rfl .int (by first | decide | simp)
theorem law_laws_szLog {x0 : TLog} {x1 : Int} {r : Int} (hF : F_laws_szLog x0 x1 = some r) : PCalls Try.prog 12 [.agg (enc_TLog false x0), .int .i64 x1] (.int .i64 r) := by
 refine PCalls.of_r k_laws_szLog rfl ?_
 unfold F_laws_szLog at hF
 refine RW.sreg (rl.run 2 rfl (rl.done (RW.sreg (rl.run 3 rfl ?_))))
 obtain ⟨v1, e1, h1⟩ := bindS hF
 refine rl.call rfl rfl rfl (CallW.val (r' := .int .i64 v1) ok_laws_szDisk (law_laws_szDisk e1) (.cons (DFL.agg (.cons (.lst ekS) (.cons (.lst ek_TWrite) .nil))) (.cons .int .nil)) .refl ?_)
 refine rl.run 1 rfl (rl.done (RW.seq (RW.sreg (rl.run 1 rfl ?_))))
 refine rl.gen rfl rfl fun b hb => ?_
 cases b
 ·have h2 := iteBF h1 hb
  refine rl.done (RW.cond_f rfl (RW.skip (RW.sreg (rl.run 3 rfl ?_))))
  obtain ⟨v2, e2, h3⟩ := bindS h2
  refine rl.call rfl rfl rfl (CallW.val (r' := .int .i64 v2) ok_laws_szSegS (law_laws_szSegS e2) (.cons (.lst ek_TSeg) (.cons .int .nil)) .refl ?_)
  refine rl.run 1 rfl (rl.done ?_)
  refine RW.keep [1] (a' := [(1, .int .i64 v2)]) (H' := [some ⟨[.lst false 1 (fl (encS false) x0.Disk.Sectors) x0.Disk.Sectors.length, .lst false 2 (fl (enc_TWrite false) x0.Disk.Cache) x0.Disk.Cache.length, .int .i64 x0.Segs, .lst false 4 (fl (enc_TSeg false) x0.Used) x0.Used.length, .int .i64 x0.NextGen, .int .i64 x0.NextSeq, .int .i64 x0.Stamp, .int .i64 x0.NextValid], 0⟩]) rfl rfl ?_
  refine RW.seq (RW.sreg (rl.run 1 rfl ?_))
  refine rl.gen rfl rfl fun b hb => ?_
  cases b
  ·have h4 := iteBF h3 hb
   refine rl.done (RW.cond_f rfl (RW.skip (RW.sreg (rl.run 2 rfl (rl.done (RW.ret ?_))))))
   cases h4
   exact RRet.mk rfl .int (by first | decide | simp)
  ·have h5 := iteBT h3 hb
   refine rl.done (RW.cond_t rfl (RW.sreg (rl.run 1 rfl (rl.done (RW.ret ?_)))))
   cases h5
   exact RRet.mk rfl .int (by first | decide | simp)
 ·have h6 := iteBT h1 hb
  refine rl.done (RW.cond_t rfl (RW.sreg (rl.run 1 rfl (rl.done (RW.ret ?_)))))
  cases h6
  exact RRet.mk rfl .int (by first | decide | simp)
theorem law_laws_toStringS {x0 : List (List UInt8)} {r : List (List UInt8)} (hF : F_laws_toStringS x0 = some r) : PCalls Try.prog 85 [.lst false 1 (fl (encS false) x0) x0.length] (.lst true 1 (fl (encS true) r) r.length) := by
 refine PCalls.of_r k_laws_toStringS rfl ?_
 unfold F_laws_toStringS at hF
 refine RW.sreg (rl.run 1 rfl (rl.done (RW.sreg (rl.run 2 rfl ?_))))
 obtain ⟨v1, e1, h1⟩ := bindS hF
 refine rl.op (x_ms ekS rfl rfl e1 rfl) ?_
 refine rl.run 1 rfl (rl.done (RW.seq (RW.sreg (rl.run 1 rfl (rl.done ?_)))))
 obtain ⟨y7, ey7, h3⟩ := bindS h1
 refine RW.cutq (σ := (List (List UInt8))) (fun y3 => [(3, .sl 0 0 y3.length)]) (fun y3 => [some ⟨fl (encS true) y3, 1⟩]) (fun y => y7 = y) (fun _ _ _ _ g h => RW.gh g h) ?_ ?_
 ·refine RW.blk ?_
  refine RW.iter (σ := Int × (List (List UInt8))) ey7 (fun s2 => [(0, .lst false 1 (fl (encS false) x0) x0.length), (3, .sl 0 0 s2.2.length), (4, .int .i64 s2.1)]) (fun s2 => [some ⟨fl (encS true) s2.2, 1⟩]) (Gh.ren0 [0] (.same rfl (ekS.fref _ _) .nil) rfl (.cons rfl (.dat (ekS.rlst)) (.cons rfl (.slq rfl rfl) (.cons rfl (.dat .int) .nil)))) (fun s2 B o hS2 hB2 hE2 => ?_)
  unfold S_laws_toStringS_1 at hS2
  refine RW.seq (RW.sreg (rl.run 3 rfl ?_))
  refine rl.gen rfl rfl fun b hb => ?_
  cases b
  ·have h4 := iteBF hS2 hb
   refine rl.done (RW.cond_f rfl (RW.exit (blkA_eq ?_)))
   cases h4
   exact ⟨_, (hE2 _ rfl).symm, (Gh.ren0 [0] (.same rfl (ekS.fref _ _) .nil) rfl (.cons rfl (.slq rfl rfl) .nil))⟩
  ·have h5 := iteBT hS2 hb
   refine rl.done (RW.cond_t rfl (RW.skip (RW.seq (RW.blk (RW.reg (rl.run 4 rfl ?_))))))
   obtain ⟨v4, e4, h6⟩ := bindS h5
   refine rl.op (x_ia_lst (enc := encS) (o := false) rfl rfl rfl e4) ?_
   refine rl.op (x_ld_el (off' := 0) ekS rfl e4 rfl rfl rfl) ?_
   obtain ⟨v5, e5, h7⟩ := bindS h6
   refine rl.op (x_ia_sl rfl rfl rfl rfl e5) ?_
   obtain ⟨v6, e6, h8⟩ := bindS h7
   refine rl.op0 (x_st_sl' (off' := 0) (o := true) (e' := v4) ekS e5 rfl rfl rfl rfl rfl rfl rfl rfl rfl e6) ?_
   refine rl.done (RW.reg (rl.run 3 rfl (rl.done ?_)))
   cases h8
   exact hB2 _ rfl _ _ (Gh.ren0 [0] (.same rfl (ekS.fref _ _) .nil) rfl (.cons rfl (.dat (ekS.rlst)) (.cons rfl (.slq rfl (set'_len e6)) (.cons rfl (.dat .int) .nil))))
 ·intro y3 hC
  subst hC
  refine RW.sreg (rl.run 2 rfl (rl.done (RW.ret ?_)))
  cases h3
  exact RRet.mk rfl (OutR.ownq ekS rfl rfl) (by first | decide | simp)
theorem law_laws_toWrite {x0 : TWrite} {r : TWrite} (hF : F_laws_toWrite x0 = some r) : PCalls Try.prog 151 [.agg (enc_TWrite false x0)] (.agg (enc_TWrite true r)) := by
 refine PCalls.of_r k_laws_toWrite rfl ?_
 unfold F_laws_toWrite at hF
 refine RW.sreg (rl.run 2 rfl (rl.done (RW.sreg (rl.run 1 rfl (rl.done (RW.sreg (rl.run 4 rfl (rl.done (RW.sreg (rl.run 4 rfl (rl.done ?_)))))))))))
 refine RW.sreg (rl.run 2 rfl (rl.done (RW.ret ?_)))
 cases hF
 exact RRet.mk rfl (OutL.agg (.cons .int rfl (.cons .str rfl .nil))) (by first | decide | simp)
theorem law_laws_toWriteS {x0 : List TWrite} {r : List TWrite} (hF : F_laws_toWriteS x0 = some r) : PCalls Try.prog 86 [.lst false 2 (fl (enc_TWrite false) x0) x0.length] (.lst true 2 (fl (enc_TWrite true) r) r.length) := by
 refine PCalls.of_r k_laws_toWriteS rfl ?_
 unfold F_laws_toWriteS at hF
 refine RW.sreg (rl.run 1 rfl (rl.done (RW.sreg (rl.run 2 rfl ?_))))
 obtain ⟨v1, e1, h1⟩ := bindS hF
 refine rl.op (x_ms ek_TWrite rfl rfl e1 rfl) ?_
 refine rl.run 1 rfl (rl.done (RW.seq (RW.sreg (rl.run 1 rfl (rl.done ?_)))))
 obtain ⟨y8, ey8, h3⟩ := bindS h1
 refine RW.cutq (σ := (List TWrite)) (fun y3 => [(3, .sl 0 0 y3.length)]) (fun y3 => [some ⟨fl (enc_TWrite true) y3, 2⟩]) (fun y => y8 = y) (fun _ _ _ _ g h => RW.gh g h) ?_ ?_
 ·refine RW.blk ?_
  refine RW.iter (σ := Int × (List TWrite)) ey8 (fun s2 => [(0, .lst false 2 (fl (enc_TWrite false) x0) x0.length), (3, .sl 0 0 s2.2.length), (4, .int .i64 s2.1)]) (fun s2 => [some ⟨fl (enc_TWrite true) s2.2, 2⟩]) (Gh.ren0 [0] (.same rfl (ek_TWrite.fref _ _) .nil) rfl (.cons rfl (.dat (ek_TWrite.rlst)) (.cons rfl (.slq rfl rfl) (.cons rfl (.dat .int) .nil)))) (fun s2 B o hS2 hB2 hE2 => ?_)
  unfold S_laws_toWriteS_1 at hS2
  refine RW.seq (RW.sreg (rl.run 3 rfl ?_))
  refine rl.gen rfl rfl fun b hb => ?_
  cases b
  ·have h4 := iteBF hS2 hb
   refine rl.done (RW.cond_f rfl (RW.exit (blkA_eq ?_)))
   cases h4
   exact ⟨_, (hE2 _ rfl).symm, (Gh.ren0 [0] (.same rfl (ek_TWrite.fref _ _) .nil) rfl (.cons rfl (.slq rfl rfl) .nil))⟩
  ·have h5 := iteBT hS2 hb
   refine rl.done (RW.cond_t rfl (RW.skip (RW.seq (RW.blk (RW.reg (rl.run 4 rfl ?_))))))
   obtain ⟨v4, e4, h6⟩ := bindS h5
   refine rl.op (x_ia_lst (enc := enc_TWrite) (o := false) rfl rfl rfl e4) ?_
   refine rl.op (x_ld_ela (off' := 0) (vs := (enc_TWrite false v4)) ek_TWrite rfl e4 rfl rfl rfl) ?_
   obtain ⟨v5, e5, h7⟩ := bindS h6
   refine rl.call rfl rfl rfl (CallW.val (r' := .agg (enc_TWrite false v5)) ok_laws_toWrite (law_laws_toWrite e5) (.cons (.dat (.agg (ek_TWrite.dat false _))) .nil) .refl ?_)
   obtain ⟨v6, e6, h8⟩ := bindS h7
   refine rl.op (x_ia_sl rfl rfl rfl rfl e6) ?_
   obtain ⟨v7, e7, h9⟩ := bindS h8
   refine rl.op0 (x_st_sl' (off' := 0) (o := true) (e' := v5) ek_TWrite e6 rfl rfl rfl rfl rfl rfl rfl rfl rfl e7) ?_
   refine rl.done (RW.reg (rl.run 3 rfl (rl.done ?_)))
   cases h9
   exact hB2 _ rfl _ _ (Gh.ren0 [0] (.same rfl (ek_TWrite.fref _ _) .nil) rfl (.cons rfl (.dat (ek_TWrite.rlst)) (.cons rfl (.slq rfl (set'_len e7)) (.cons rfl (.dat .int) .nil))))
 ·intro y3 hC
  subst hC
  refine RW.sreg (rl.run 2 rfl (rl.done (RW.ret ?_)))
  cases h3
  exact RRet.mk rfl (OutR.ownq ek_TWrite rfl rfl) (by first | decide | simp)
theorem law_laws_toDisk {x0 : TDisk} {r : TDisk} (hF : F_laws_toDisk x0 = some r) : PCalls Try.prog 42 [.agg (enc_TDisk false x0)] (.agg (enc_TDisk true r)) := by
 refine PCalls.of_r k_laws_toDisk rfl ?_
 unfold F_laws_toDisk at hF
 refine RW.sreg (rl.run 2 rfl (rl.done (RW.sreg (rl.run 1 rfl (rl.done (RW.sreg (rl.run 2 rfl ?_)))))))
 obtain ⟨v1, e1, h1⟩ := bindS hF
 refine rl.call rfl rfl rfl (CallW.own (r' := .sl 3 0 v1.length) (H' := [some ⟨[.lst false 1 (fl (encS false) x0.Sectors) x0.Sectors.length, .lst false 2 (fl (enc_TWrite false) x0.Cache) x0.Cache.length], 0⟩, some ⟨[.nils, .nils], 0⟩, some ⟨[.nils, .nils], 0⟩, some ⟨fl (encS true) v1, 1⟩]) ok_laws_toStringS (law_laws_toStringS e1) (.cons (.lst ekS) .nil) (.lst (ekS.fown _)) rfl ?_)
 refine rl.run 2 rfl (rl.done (RW.sreg (rl.run 2 rfl ?_)))
 obtain ⟨v2, e2, h2⟩ := bindS h1
 refine rl.call rfl rfl rfl (CallW.own (r' := .sl 4 0 v2.length) (H' := [some ⟨[.lst false 1 (fl (encS false) x0.Sectors) x0.Sectors.length, .lst false 2 (fl (enc_TWrite false) x0.Cache) x0.Cache.length], 0⟩, some ⟨[.nils, .nils], 0⟩, some ⟨[.sl 3 0 v1.length, .nils], 0⟩, some ⟨fl (encS true) v1, 1⟩, some ⟨fl (enc_TWrite true) v2, 2⟩]) ok_laws_toWriteS (law_laws_toWriteS e2) (.cons (.lst ek_TWrite) .nil) (.lst (ek_TWrite.fown _)) rfl ?_)
 refine rl.run 2 rfl (rl.done (RW.sreg (rl.run 2 rfl (rl.done ?_))))
 refine RW.keep [2] (a' := [(2, .ptr 1 0)]) (H' := [some ⟨[.lst false 1 (fl (encS false) x0.Sectors) x0.Sectors.length, .lst false 2 (fl (enc_TWrite false) x0.Cache) x0.Cache.length], 0⟩, some ⟨[.sl 3 0 v1.length, .sl 4 0 v2.length], 0⟩, some ⟨[.sl 3 0 v1.length, .sl 4 0 v2.length], 0⟩, some ⟨fl (encS true) v1, 1⟩, some ⟨fl (enc_TWrite true) v2, 2⟩]) rfl rfl ?_
 refine RW.ret ?_
 cases h2
 exact RRet.mk rfl (OutL.agg (.cons (OutR.ownq ekS rfl rfl) rfl (.cons (OutR.ownq ek_TWrite rfl rfl) rfl .nil))) (by first | decide | simp)
theorem law_laws_toRec {x0 : TRec} {r : TRec} (hF : F_laws_toRec x0 = some r) : PCalls Try.prog 129 [.agg (enc_TRec false x0)] (.agg (enc_TRec true r)) := by
 refine PCalls.of_r k_laws_toRec rfl ?_
 unfold F_laws_toRec at hF
 refine RW.sreg (rl.run 2 rfl (rl.done (RW.sreg (rl.run 1 rfl (rl.done (RW.sreg (rl.run 4 rfl (rl.done (RW.sreg (rl.run 4 rfl (rl.done ?_)))))))))))
 refine RW.sreg (rl.run 4 rfl (rl.done (RW.sreg (rl.run 4 rfl (rl.done ?_)))))
 refine RW.keep [1, 2, 3] (a' := [(1, .ptr 0 0), (2, .ptr 1 0), (3, .ptr 2 0)]) (H' := [some ⟨[.int .i64 x0.Kind, .int .i64 x0.Valid, .int .i64 x0.Uid, .int .i64 x0.Next, .int .i64 x0.Flags, .str x0.User, .str x0.Name, .str x0.Text], 0⟩, some ⟨[.int .i64 0, .int .i64 0, .int .i64 0, .int .i64 0, .int .i64 0, .str [], .str [], .str []], 0⟩, some ⟨[.int .i64 x0.Kind, .int .i64 x0.Valid, .int .i64 x0.Uid, .int .i64 x0.Next, .int .i64 0, .str [], .str [], .str []], 0⟩]) rfl rfl ?_
 refine RW.sreg (rl.run 4 rfl (rl.done (RW.sreg (rl.run 4 rfl (rl.done (RW.sreg (rl.run 4 rfl (rl.done (RW.sreg (rl.run 4 rfl (rl.done ?_)))))))))))
 refine RW.keep [2, 3] (a' := [(2, .ptr 1 0), (3, .ptr 2 0)]) (H' := [some ⟨[.int .i64 x0.Kind, .int .i64 x0.Valid, .int .i64 x0.Uid, .int .i64 x0.Next, .int .i64 x0.Flags, .str x0.User, .str x0.Name, .str x0.Text], 0⟩, some ⟨[.int .i64 0, .int .i64 0, .int .i64 0, .int .i64 0, .int .i64 0, .str [], .str [], .str []], 0⟩, some ⟨[.int .i64 x0.Kind, .int .i64 x0.Valid, .int .i64 x0.Uid, .int .i64 x0.Next, .int .i64 x0.Flags, .str x0.User, .str x0.Name, .str x0.Text], 0⟩]) rfl rfl ?_
 refine RW.sreg (rl.run 2 rfl (rl.done (RW.ret ?_)))
 cases hF
 exact RRet.mk rfl (OutL.agg (.cons .int rfl (.cons .int rfl (.cons .int rfl (.cons .int rfl (.cons .int rfl (.cons .str rfl (.cons .str rfl (.cons .str rfl .nil))))))))) (by first | decide | simp)
theorem law_laws_toItem {x0 : TItem} {r : TItem} (hF : F_laws_toItem x0 = some r) : PCalls Try.prog 70 [.agg (enc_TItem false x0)] (.agg (enc_TItem true r)) := by
 refine PCalls.of_r k_laws_toItem rfl ?_
 unfold F_laws_toItem at hF
 refine RW.sreg (rl.run 2 rfl (rl.done (RW.sreg (rl.run 1 rfl (rl.done (RW.sreg (rl.run 4 rfl (rl.done (RW.sreg (rl.run 2 rfl ?_))))))))))
 obtain ⟨v1, e1, h1⟩ := bindS hF
 refine rl.call rfl rfl rfl (CallW.val (r' := .agg (enc_TRec false v1)) ok_laws_toRec (law_laws_toRec e1) (.cons (DFL.agg (.cons .int (.cons .int (.cons .int (.cons .int (.cons .int (.cons .str (.cons .str (.cons .str .nil))))))))) .nil) .refl ?_)
 refine rl.run 2 rfl (rl.done (RW.sreg (rl.run 2 rfl (rl.done ?_))))
 refine RW.keep [2] (a' := [(2, .ptr 1 0)]) (H' := [some ⟨[.int .i64 x0.Seq, .int .i64 x0.Rec.Kind, .int .i64 x0.Rec.Valid, .int .i64 x0.Rec.Uid, .int .i64 x0.Rec.Next, .int .i64 x0.Rec.Flags, .str x0.Rec.User, .str x0.Rec.Name, .str x0.Rec.Text], 0⟩, some ⟨[.int .i64 x0.Seq, .int .i64 v1.Kind, .int .i64 v1.Valid, .int .i64 v1.Uid, .int .i64 v1.Next, .int .i64 v1.Flags, .str v1.User, .str v1.Name, .str v1.Text], 0⟩, some ⟨[.int .i64 x0.Seq, .int .i64 v1.Kind, .int .i64 v1.Valid, .int .i64 v1.Uid, .int .i64 v1.Next, .int .i64 v1.Flags, .str v1.User, .str v1.Name, .str v1.Text], 0⟩]) rfl rfl ?_
 refine RW.ret ?_
 cases h1
 exact RRet.mk rfl (OutL.agg (.cons .int rfl (.cons .int rfl (.cons .int rfl (.cons .int rfl (.cons .int rfl (.cons .int rfl (.cons .str rfl (.cons .str rfl (.cons .str rfl .nil)))))))))) (by first | decide | simp)
theorem law_laws_toItemS {x0 : List TItem} {r : List TItem} (hF : F_laws_toItemS x0 = some r) : PCalls Try.prog 19 [.lst false 9 (fl (enc_TItem false) x0) x0.length] (.lst true 9 (fl (enc_TItem true) r) r.length) := by
 refine PCalls.of_r k_laws_toItemS rfl ?_
 unfold F_laws_toItemS at hF
 refine RW.sreg (rl.run 1 rfl (rl.done (RW.sreg (rl.run 2 rfl ?_))))
 obtain ⟨v1, e1, h1⟩ := bindS hF
 refine rl.op (x_ms ek_TItem rfl rfl e1 rfl) ?_
 refine rl.run 1 rfl (rl.done (RW.seq (RW.sreg (rl.run 1 rfl (rl.done ?_)))))
 obtain ⟨y8, ey8, h3⟩ := bindS h1
 refine RW.cutq (σ := (List TItem)) (fun y3 => [(3, .sl 0 0 y3.length)]) (fun y3 => [some ⟨fl (enc_TItem true) y3, 9⟩]) (fun y => y8 = y) (fun _ _ _ _ g h => RW.gh g h) ?_ ?_
 ·refine RW.blk ?_
  refine RW.iter (σ := Int × (List TItem)) ey8 (fun s2 => [(0, .lst false 9 (fl (enc_TItem false) x0) x0.length), (3, .sl 0 0 s2.2.length), (4, .int .i64 s2.1)]) (fun s2 => [some ⟨fl (enc_TItem true) s2.2, 9⟩]) (Gh.ren0 [0] (.same rfl (ek_TItem.fref _ _) .nil) rfl (.cons rfl (.dat (ek_TItem.rlst)) (.cons rfl (.slq rfl rfl) (.cons rfl (.dat .int) .nil)))) (fun s2 B o hS2 hB2 hE2 => ?_)
  unfold S_laws_toItemS_1 at hS2
  refine RW.seq (RW.sreg (rl.run 3 rfl ?_))
  refine rl.gen rfl rfl fun b hb => ?_
  cases b
  ·have h4 := iteBF hS2 hb
   refine rl.done (RW.cond_f rfl (RW.exit (blkA_eq ?_)))
   cases h4
   exact ⟨_, (hE2 _ rfl).symm, (Gh.ren0 [0] (.same rfl (ek_TItem.fref _ _) .nil) rfl (.cons rfl (.slq rfl rfl) .nil))⟩
  ·have h5 := iteBT hS2 hb
   refine rl.done (RW.cond_t rfl (RW.skip (RW.seq (RW.blk (RW.reg (rl.run 4 rfl ?_))))))
   obtain ⟨v4, e4, h6⟩ := bindS h5
   refine rl.op (x_ia_lst (enc := enc_TItem) (o := false) rfl rfl rfl e4) ?_
   refine rl.op (x_ld_ela (off' := 0) (vs := (enc_TItem false v4)) ek_TItem rfl e4 rfl rfl rfl) ?_
   obtain ⟨v5, e5, h7⟩ := bindS h6
   refine rl.call rfl rfl rfl (CallW.val (r' := .agg (enc_TItem false v5)) ok_laws_toItem (law_laws_toItem e5) (.cons (.dat (.agg (ek_TItem.dat false _))) .nil) .refl ?_)
   obtain ⟨v6, e6, h8⟩ := bindS h7
   refine rl.op (x_ia_sl rfl rfl rfl rfl e6) ?_
   obtain ⟨v7, e7, h9⟩ := bindS h8
   refine rl.op0 (x_st_sl' (off' := 0) (o := true) (e' := v5) ek_TItem e6 rfl rfl rfl rfl rfl rfl rfl rfl rfl e7) ?_
   refine rl.done (RW.reg (rl.run 3 rfl (rl.done ?_)))
   cases h9
   exact hB2 _ rfl _ _ (Gh.ren0 [0] (.same rfl (ek_TItem.fref _ _) .nil) rfl (.cons rfl (.dat (ek_TItem.rlst)) (.cons rfl (.slq rfl (set'_len e7)) (.cons rfl (.dat .int) .nil))))
 ·intro y3 hC
  subst hC
  refine RW.sreg (rl.run 2 rfl (rl.done (RW.ret ?_)))
  cases h3
  exact RRet.mk rfl (OutR.ownq ek_TItem rfl rfl) (by first | decide | simp)
theorem law_laws_toSeg {x0 : TSeg} {r : TSeg} (hF : F_laws_toSeg x0 = some r) : PCalls Try.prog 121 [.agg (enc_TSeg false x0)] (.agg (enc_TSeg true r)) := by
 refine PCalls.of_r k_laws_toSeg rfl ?_
 unfold F_laws_toSeg at hF
 refine RW.sreg (rl.run 2 rfl (rl.done (RW.sreg (rl.run 1 rfl (rl.done (RW.sreg (rl.run 4 rfl (rl.done (RW.sreg (rl.run 4 rfl (rl.done ?_)))))))))))
 refine RW.sreg (rl.run 4 rfl (rl.done (RW.sreg (rl.run 2 rfl ?_))))
 obtain ⟨v1, e1, h1⟩ := bindS hF
 refine rl.call rfl rfl rfl (CallW.own (r' := .sl 3 0 v1.length) (H' := [some ⟨[.int .i64 x0.No, .int .i64 x0.Gen, .int .i64 x0.End, .lst false 9 (fl (enc_TItem false) x0.Items) x0.Items.length], 0⟩, some ⟨[.int .i64 0, .int .i64 0, .int .i64 0, .nils], 0⟩, some ⟨[.int .i64 x0.No, .int .i64 x0.Gen, .int .i64 x0.End, .nils], 0⟩, some ⟨fl (enc_TItem true) v1, 9⟩]) ok_laws_toItemS (law_laws_toItemS e1) (.cons (.lst ek_TItem) .nil) (.lst (ek_TItem.fown _)) rfl ?_)
 refine rl.run 2 rfl (rl.done ?_)
 refine RW.keep [2, 3] (a' := [(2, .ptr 1 0), (3, .ptr 2 0)]) (H' := [some ⟨[.int .i64 x0.No, .int .i64 x0.Gen, .int .i64 x0.End, .lst false 9 (fl (enc_TItem false) x0.Items) x0.Items.length], 0⟩, some ⟨[.int .i64 0, .int .i64 0, .int .i64 0, .nils], 0⟩, some ⟨[.int .i64 x0.No, .int .i64 x0.Gen, .int .i64 x0.End, .sl 3 0 v1.length], 0⟩, some ⟨fl (enc_TItem true) v1, 9⟩]) rfl rfl ?_
 refine RW.sreg (rl.run 2 rfl (rl.done (RW.ret ?_)))
 cases h1
 exact RRet.mk rfl (OutL.agg (.cons .int rfl (.cons .int rfl (.cons .int rfl (.cons (OutR.ownq ek_TItem rfl rfl) rfl .nil))))) (by first | decide | simp)
theorem law_laws_toSegS {x0 : List TSeg} {r : List TSeg} (hF : F_laws_toSegS x0 = some r) : PCalls Try.prog 63 [.lst false 4 (fl (enc_TSeg false) x0) x0.length] (.lst true 4 (fl (enc_TSeg true) r) r.length) := by
 refine PCalls.of_r k_laws_toSegS rfl ?_
 unfold F_laws_toSegS at hF
 refine RW.sreg (rl.run 1 rfl (rl.done (RW.sreg (rl.run 2 rfl ?_))))
 obtain ⟨v1, e1, h1⟩ := bindS hF
 refine rl.op (x_ms_raw rfl rfl e1) ?_
 refine rl.run 1 rfl (rl.done ?_)
 refine RW.gh (Gh.own0 (b := 0) rfl (NL.rep (.same (.same (.same (.nils (es := 9) .nil)))) _)) ?_
 refine RW.gh (Gh.blk (b := 0) rfl (raw_ms (enc := enc_TSeg) e1)) ?_
 refine RW.keep [0, 3] (a' := [(0, .lst false 4 (fl (enc_TSeg false) x0) x0.length), (3, .sl 0 0 v1.length)]) (H' := [some ⟨fl (enc_TSeg true) v1, 4⟩]) rfl rfl ?_
 refine RW.seq (RW.sreg (rl.run 1 rfl (rl.done ?_)))
 obtain ⟨y8, ey8, h3⟩ := bindS h1
 refine RW.cutq (σ := (List TSeg)) (fun y3 => [(3, .sl 0 0 y3.length)]) (fun y3 => [some ⟨fl (enc_TSeg true) y3, 4⟩]) (fun y => y8 = y) (fun _ _ _ _ g h => RW.gh g h) ?_ ?_
 ·refine RW.blk ?_
  refine RW.iter (σ := Int × (List TSeg)) ey8 (fun s2 => [(0, .lst false 4 (fl (enc_TSeg false) x0) x0.length), (3, .sl 0 0 s2.2.length), (4, .int .i64 s2.1)]) (fun s2 => [some ⟨fl (enc_TSeg true) s2.2, 4⟩]) (Gh.ren0 [0] (.same rfl (ek_TSeg.fref _ _) .nil) rfl (.cons rfl (.dat (ek_TSeg.rlst)) (.cons rfl (.slq rfl rfl) (.cons rfl (.dat .int) .nil)))) (fun s2 B o hS2 hB2 hE2 => ?_)
  unfold S_laws_toSegS_1 at hS2
  refine RW.seq (RW.sreg (rl.run 3 rfl ?_))
  refine rl.gen rfl rfl fun b hb => ?_
  cases b
  ·have h4 := iteBF hS2 hb
   refine rl.done (RW.cond_f rfl (RW.exit (blkA_eq ?_)))
   cases h4
   exact ⟨_, (hE2 _ rfl).symm, (Gh.ren0 [0] (.same rfl (ek_TSeg.fref _ _) .nil) rfl (.cons rfl (.slq rfl rfl) .nil))⟩
  ·have h5 := iteBT hS2 hb
   refine rl.done (RW.cond_t rfl (RW.skip (RW.seq (RW.blk (RW.reg (rl.run 4 rfl ?_))))))
   obtain ⟨v4, e4, h6⟩ := bindS h5
   refine rl.op (x_ia_lst (enc := enc_TSeg) (o := false) rfl rfl rfl e4) ?_
   refine rl.op (x_ld_ela (off' := 0) (vs := (enc_TSeg false v4)) ek_TSeg rfl e4 rfl rfl rfl) ?_
   obtain ⟨v5, e5, h7⟩ := bindS h6
   refine rl.call rfl rfl rfl (CallW.own (r' := .agg [.int .i64 v5.No, .int .i64 v5.Gen, .int .i64 v5.End, .sl 1 0 v5.Items.length]) (H' := [some ⟨fl (enc_TSeg true) s2.2, 4⟩, some ⟨fl (enc_TItem true) v5.Items, 9⟩]) ok_laws_toSeg (law_laws_toSeg e5) (.cons (.dat (.agg (ek_TSeg.dat false _))) .nil) (ek_TSeg.own _) rfl ?_)
   obtain ⟨v6, e6, h8⟩ := bindS h7
   refine rl.op (x_ia_sl rfl rfl rfl rfl e6) ?_
   obtain ⟨v7, e7, h9⟩ := bindS h8
   refine rl.op0 (x_st_raw (off' := 0) ek_TSeg e6 rfl rfl rfl rfl rfl rfl rfl rfl) ?_
   refine rl.done ?_
   refine RW.gh (Gh.absorb_rawq (b := 0) (j := 3) (m := 1) rfl rfl rfl (by decide) (by decide) rfl (ek_TItem.flen true _) (ek_TItem.fown _)) ?_
   refine RW.gh (Gh.blk (b := 0) rfl (raw_set ek_TSeg e6 e7 rfl)) ?_
   refine RW.reg (rl.run 3 rfl (rl.done ?_))
   cases h9
   exact hB2 _ rfl _ _ (Gh.ren0 [0] (.same rfl (ek_TSeg.fref _ _) .nil) rfl (.cons rfl (.dat (ek_TSeg.rlst)) (.cons rfl (.slq rfl (set'_len e7)) (.cons rfl (.dat .int) .nil))))
 ·intro y3 hC
  subst hC
  refine RW.sreg (rl.run 2 rfl (rl.done (RW.ret ?_)))
  cases h3
  exact RRet.mk rfl (OutR.ownq ek_TSeg rfl rfl) (by first | decide | simp)
theorem law_laws_toLog {x0 : TLog} {r : TLog} (hF : F_laws_toLog x0 = some r) : PCalls Try.prog 14 [.agg (enc_TLog false x0)] (.agg (enc_TLog true r)) := by
 refine PCalls.of_r k_laws_toLog rfl ?_
 unfold F_laws_toLog at hF
 refine RW.sreg (rl.run 2 rfl (rl.done (RW.sreg (rl.run 1 rfl (rl.done (RW.sreg (rl.run 2 rfl ?_)))))))
 obtain ⟨v1, e1, h1⟩ := bindS hF
 refine rl.call rfl rfl rfl (CallW.own (r' := .agg [.sl 3 0 v1.Sectors.length, .sl 4 0 v1.Cache.length]) (H' := [some ⟨[.lst false 1 (fl (encS false) x0.Disk.Sectors) x0.Disk.Sectors.length, .lst false 2 (fl (enc_TWrite false) x0.Disk.Cache) x0.Disk.Cache.length, .int .i64 x0.Segs, .lst false 4 (fl (enc_TSeg false) x0.Used) x0.Used.length, .int .i64 x0.NextGen, .int .i64 x0.NextSeq, .int .i64 x0.Stamp, .int .i64 x0.NextValid], 0⟩, some ⟨[.nils, .nils, .int .i64 0, .nils, .int .i64 0, .int .i64 0, .int .i64 0, .int .i64 0], 0⟩, some ⟨[.nils, .nils, .int .i64 0, .nils, .int .i64 0, .int .i64 0, .int .i64 0, .int .i64 0], 0⟩, some ⟨fl (encS true) v1.Sectors, 1⟩, some ⟨fl (enc_TWrite true) v1.Cache, 2⟩]) ok_laws_toDisk (law_laws_toDisk e1) (.cons (DFL.agg (.cons (.lst ekS) (.cons (.lst ek_TWrite) .nil))) .nil) (ek_TDisk.own _) rfl ?_)
 refine rl.run 2 rfl (rl.done (RW.sreg (rl.run 4 rfl (rl.done (RW.sreg (rl.run 2 rfl ?_))))))
 obtain ⟨v2, e2, h2⟩ := bindS h1
 refine rl.call rfl rfl rfl (CallW.own (r' := .sl 5 0 v2.length) (H' := [some ⟨[.lst false 1 (fl (encS false) x0.Disk.Sectors) x0.Disk.Sectors.length, .lst false 2 (fl (enc_TWrite false) x0.Disk.Cache) x0.Disk.Cache.length, .int .i64 x0.Segs, .lst false 4 (fl (enc_TSeg false) x0.Used) x0.Used.length, .int .i64 x0.NextGen, .int .i64 x0.NextSeq, .int .i64 x0.Stamp, .int .i64 x0.NextValid], 0⟩, some ⟨[.nils, .nils, .int .i64 0, .nils, .int .i64 0, .int .i64 0, .int .i64 0, .int .i64 0], 0⟩, some ⟨[.sl 3 0 v1.Sectors.length, .sl 4 0 v1.Cache.length, .int .i64 x0.Segs, .nils, .int .i64 0, .int .i64 0, .int .i64 0, .int .i64 0], 0⟩, some ⟨fl (encS true) v1.Sectors, 1⟩, some ⟨fl (enc_TWrite true) v1.Cache, 2⟩, some ⟨fl (enc_TSeg true) v2, 4⟩]) ok_laws_toSegS (law_laws_toSegS e2) (.cons (.lst ek_TSeg) .nil) (.lst (ek_TSeg.fown _)) rfl ?_)
 refine rl.run 2 rfl (rl.done ?_)
 refine RW.keep [1, 2, 3] (a' := [(1, .ptr 0 0), (2, .ptr 1 0), (3, .ptr 2 0)]) (H' := [some ⟨[.lst false 1 (fl (encS false) x0.Disk.Sectors) x0.Disk.Sectors.length, .lst false 2 (fl (enc_TWrite false) x0.Disk.Cache) x0.Disk.Cache.length, .int .i64 x0.Segs, .lst false 4 (fl (enc_TSeg false) x0.Used) x0.Used.length, .int .i64 x0.NextGen, .int .i64 x0.NextSeq, .int .i64 x0.Stamp, .int .i64 x0.NextValid], 0⟩, some ⟨[.nils, .nils, .int .i64 0, .nils, .int .i64 0, .int .i64 0, .int .i64 0, .int .i64 0], 0⟩, some ⟨[.sl 3 0 v1.Sectors.length, .sl 4 0 v1.Cache.length, .int .i64 x0.Segs, .sl 5 0 v2.length, .int .i64 0, .int .i64 0, .int .i64 0, .int .i64 0], 0⟩, some ⟨fl (encS true) v1.Sectors, 1⟩, some ⟨fl (enc_TWrite true) v1.Cache, 2⟩, some ⟨fl (enc_TSeg true) v2, 4⟩]) rfl rfl ?_
 refine RW.sreg (rl.run 4 rfl (rl.done (RW.sreg (rl.run 4 rfl (rl.done (RW.sreg (rl.run 4 rfl (rl.done (RW.sreg (rl.run 4 rfl (rl.done ?_)))))))))))
 refine RW.keep [2, 3] (a' := [(2, .ptr 1 0), (3, .ptr 2 0)]) (H' := [some ⟨[.lst false 1 (fl (encS false) x0.Disk.Sectors) x0.Disk.Sectors.length, .lst false 2 (fl (enc_TWrite false) x0.Disk.Cache) x0.Disk.Cache.length, .int .i64 x0.Segs, .lst false 4 (fl (enc_TSeg false) x0.Used) x0.Used.length, .int .i64 x0.NextGen, .int .i64 x0.NextSeq, .int .i64 x0.Stamp, .int .i64 x0.NextValid], 0⟩, some ⟨[.nils, .nils, .int .i64 0, .nils, .int .i64 0, .int .i64 0, .int .i64 0, .int .i64 0], 0⟩, some ⟨[.sl 3 0 v1.Sectors.length, .sl 4 0 v1.Cache.length, .int .i64 x0.Segs, .sl 5 0 v2.length, .int .i64 x0.NextGen, .int .i64 x0.NextSeq, .int .i64 x0.Stamp, .int .i64 x0.NextValid], 0⟩, some ⟨fl (encS true) v1.Sectors, 1⟩, some ⟨fl (enc_TWrite true) v1.Cache, 2⟩, some ⟨fl (enc_TSeg true) v2, 4⟩]) rfl rfl ?_
 refine RW.sreg (rl.run 2 rfl (rl.done (RW.ret ?_)))
 cases h2
 exact RRet.mk rfl (OutL.agg (.cons (OutR.ownq ekS rfl rfl) rfl (.cons (OutR.ownq ek_TWrite rfl rfl) rfl (.cons .int rfl (.cons (OutR.ownq ek_TSeg rfl rfl) rfl (.cons .int rfl (.cons .int rfl (.cons .int rfl (.cons .int rfl .nil))))))))) (by first | decide | simp)
theorem law_laws_eqStringS {x0 : List (List UInt8)} {x1 : List (List UInt8)} {r : Bool} (hF : F_laws_eqStringS x0 x1 = some r) : PCalls Try.prog 89 [.lst false 1 (fl (encS false) x0) x0.length, .lst false 1 (fl (encS false) x1) x1.length] (.bool r) := by
 refine PCalls.of_r k_laws_eqStringS rfl ?_
 unfold F_laws_eqStringS at hF
 refine RW.sreg (rl.run 1 rfl (rl.done (RW.seq (RW.sreg (rl.run 4 rfl ?_)))))
 refine rl.gen rfl rfl fun b hb => ?_
 cases b
 ·have h1 := iteBF hF hb
  refine rl.done (RW.cond_f rfl (RW.skip (RW.seq (RW.sreg (rl.run 1 rfl (rl.done ?_))))))
  obtain ⟨y5, ey5, h3⟩ := bindS h1
  refine RW.cutq (σ := Unit) (fun y2 => []) (fun y2 => []) (fun y => y5 = .inr y) (fun _ _ _ _ g h => RW.gh g h) ?_ ?_
  ·refine RW.blk ?_
   refine RW.iter (σ := Int) ey5 (fun s1 => [(0, .lst false 1 (fl (encS false) x0) x0.length), (1, .lst false 1 (fl (encS false) x1) x1.length), (5, .int .i64 s1)]) (fun s1 => []) (Gh.ren0 [] .nil rfl (.cons rfl (.dat (ekS.rlst)) (.cons rfl (.dat (ekS.rlst)) (.cons rfl (.dat .int) .nil)))) (fun s1 B o hS2 hB2 hE2 => ?_)
   unfold S_laws_eqStringS_1 at hS2
   refine RW.seq (RW.sreg (rl.run 3 rfl ?_))
   refine rl.gen rfl rfl fun b hb => ?_
   cases b
   ·have h4 := iteBF hS2 hb
    refine rl.done (RW.cond_f rfl (RW.exit (blkA_eq ?_)))
    cases h4
    exact ⟨_, (hE2 _ rfl).symm, (Gh.ren0 [] .nil rfl .nil)⟩
   ·have h5 := iteBT hS2 hb
    refine rl.done (RW.cond_t rfl (RW.skip (RW.seq (RW.blk (RW.sdrw (rdraw.op rfl rfl (rdraw.op rfl rfl ?_)))))))
    obtain ⟨v3, e3, h6⟩ := bindS h5
    refine rdraw.op rfl (x_ia_lst (enc := encS) (o := false) rfl rfl rfl e3) ?_
    refine rdraw.op rfl (x_ld_el (off' := 0) ekS rfl e3 rfl rfl rfl) ?_
    refine rdraw.op rfl rfl (rdraw.op rfl rfl ?_)
    obtain ⟨v4, e4, h7⟩ := bindS h6
    refine rdraw.op rfl (x_ia_lst (enc := encS) (o := false) rfl rfl rfl e4) ?_
    refine rdraw.op rfl (x_ld_el (off' := 0) ekS rfl e4 rfl rfl rfl) ?_
    refine rdraw.gen rfl rfl fun b hb => ?_
    cases b
    ·have h8 := iteBF h7 hb
     refine rdraw.done ?_
     refine RW.keep [0, 1, 5, 25] (a' := [(0, .lst false 1 (fl (encS false) x0) x0.length), (1, .lst false 1 (fl (encS false) x1) x1.length), (5, .int .i64 s1), (25, .bool false)]) (H' := []) rfl rfl ?_
     refine RW.cond_f rfl (RW.skip (RW.reg (rl.run 3 rfl (rl.done ?_))))
     cases h8
     exact hB2 _ rfl _ _ (Gh.ren0 [] .nil rfl (.cons rfl (.dat (ekS.rlst)) (.cons rfl (.dat (ekS.rlst)) (.cons rfl (.dat .int) .nil))))
    ·have h9 := iteBT h7 hb
     refine rdraw.done ?_
     refine RW.keep [0, 1, 5, 25] (a' := [(0, .lst false 1 (fl (encS false) x0) x0.length), (1, .lst false 1 (fl (encS false) x1) x1.length), (5, .int .i64 s1), (25, .bool true)]) (H' := []) rfl rfl ?_
     refine RW.cond_t rfl (RW.sreg (rl.run 1 rfl (rl.done (RW.ret ?_))))
     cases h9
     have h10 := elimL h3 (hE2 _ rfl)
     cases h10
     exact RRet.mk rfl .bool (by first | decide | simp)
  ·intro y2 hC
   have h3 := elimR h3 hC
   refine RW.sreg (rl.run 1 rfl (rl.done (RW.ret ?_)))
   cases h3
   exact RRet.mk rfl .bool (by first | decide | simp)
 ·have h11 := iteBT hF hb
  refine rl.done (RW.cond_t rfl (RW.sreg (rl.run 1 rfl (rl.done (RW.ret ?_)))))
  cases h11
  exact RRet.mk rfl .bool (by first | decide | simp)
theorem law_laws_eqWrite {x0 : TWrite} {x1 : TWrite} {r : Bool} (hF : F_laws_eqWrite x0 x1 = some r) : PCalls Try.prog 156 [.agg (enc_TWrite false x0), .agg (enc_TWrite false x1)] (.bool r) := by
 refine PCalls.of_r k_laws_eqWrite rfl ?_
 unfold F_laws_eqWrite at hF
 refine RW.sreg (rl.run 3 rfl (rl.done (RW.seq (RW.sreg (rl.run 4 rfl ?_)))))
 refine rl.gen rfl rfl fun b hb => ?_
 cases b
 ·have h1 := iteBF hF hb
  refine rl.done (RW.cond_f rfl (RW.skip (RW.seq (RW.sreg (rl.run 4 rfl ?_)))))
  refine rl.gen rfl rfl fun b hb => ?_
  cases b
  ·have h2 := iteBF h1 hb
   refine rl.done ?_
   refine RW.keep [14] (a' := [(14, .bool false)]) (H' := [some ⟨[.int .i64 x0.At, .str x0.Text], 0⟩, some ⟨[.int .i64 x1.At, .str x1.Text], 0⟩]) rfl rfl ?_
   refine RW.cond_f rfl (RW.skip (RW.sreg (rl.run 1 rfl (rl.done (RW.ret ?_)))))
   cases h2
   exact RRet.mk rfl .bool (by first | decide | simp)
  ·have h3 := iteBT h1 hb
   refine rl.done ?_
   refine RW.keep [14] (a' := [(14, .bool true)]) (H' := [some ⟨[.int .i64 x0.At, .str x0.Text], 0⟩, some ⟨[.int .i64 x1.At, .str x1.Text], 0⟩]) rfl rfl ?_
   refine RW.cond_t rfl (RW.sreg (rl.run 1 rfl (rl.done (RW.ret ?_))))
   cases h3
   exact RRet.mk rfl .bool (by first | decide | simp)
 ·have h4 := iteBT hF hb
  refine rl.done (RW.cond_t rfl (RW.sreg (rl.run 1 rfl (rl.done (RW.ret ?_)))))
  cases h4
  exact RRet.mk rfl .bool (by first | decide | simp)
theorem law_laws_eqWriteS {x0 : List TWrite} {x1 : List TWrite} {r : Bool} (hF : F_laws_eqWriteS x0 x1 = some r) : PCalls Try.prog 90 [.lst false 2 (fl (enc_TWrite false) x0) x0.length, .lst false 2 (fl (enc_TWrite false) x1) x1.length] (.bool r) := by
 refine PCalls.of_r k_laws_eqWriteS rfl ?_
 unfold F_laws_eqWriteS at hF
 refine RW.sreg (rl.run 1 rfl (rl.done (RW.seq (RW.sreg (rl.run 4 rfl ?_)))))
 refine rl.gen rfl rfl fun b hb => ?_
 cases b
 ·have h1 := iteBF hF hb
  refine rl.done (RW.cond_f rfl (RW.skip (RW.seq (RW.sreg (rl.run 1 rfl (rl.done ?_))))))
  obtain ⟨y6, ey6, h3⟩ := bindS h1
  refine RW.cutq (σ := Unit) (fun y2 => []) (fun y2 => []) (fun y => y6 = .inr y) (fun _ _ _ _ g h => RW.gh g h) ?_ ?_
  ·refine RW.blk ?_
   refine RW.iter (σ := Int) ey6 (fun s1 => [(0, .lst false 2 (fl (enc_TWrite false) x0) x0.length), (1, .lst false 2 (fl (enc_TWrite false) x1) x1.length), (5, .int .i64 s1)]) (fun s1 => []) (Gh.ren0 [] .nil rfl (.cons rfl (.dat (ek_TWrite.rlst)) (.cons rfl (.dat (ek_TWrite.rlst)) (.cons rfl (.dat .int) .nil)))) (fun s1 B o hS2 hB2 hE2 => ?_)
   unfold S_laws_eqWriteS_1 at hS2
   refine RW.seq (RW.sreg (rl.run 3 rfl ?_))
   refine rl.gen rfl rfl fun b hb => ?_
   cases b
   ·have h4 := iteBF hS2 hb
    refine rl.done (RW.cond_f rfl (RW.exit (blkA_eq ?_)))
    cases h4
    exact ⟨_, (hE2 _ rfl).symm, (Gh.ren0 [] .nil rfl .nil)⟩
   ·have h5 := iteBT hS2 hb
    refine rl.done (RW.cond_t rfl (RW.skip (RW.seq (RW.blk (RW.sdrw (rdraw.op rfl rfl (rdraw.op rfl rfl ?_)))))))
    obtain ⟨v3, e3, h6⟩ := bindS h5
    refine rdraw.op rfl (x_ia_lst (enc := enc_TWrite) (o := false) rfl rfl rfl e3) ?_
    refine rdraw.op rfl (x_ld_ela (off' := 0) (vs := (enc_TWrite false v3)) ek_TWrite rfl e3 rfl rfl rfl) ?_
    refine rdraw.op rfl rfl (rdraw.op rfl rfl ?_)
    obtain ⟨v4, e4, h7⟩ := bindS h6
    refine rdraw.op rfl (x_ia_lst (enc := enc_TWrite) (o := false) rfl rfl rfl e4) ?_
    refine rdraw.op rfl (x_ld_ela (off' := 0) (vs := (enc_TWrite false v4)) ek_TWrite rfl e4 rfl rfl rfl) ?_
    obtain ⟨v5, e5, h8⟩ := bindS h7
    refine rdraw.call rfl rfl rfl (CallW.val (r' := .bool v5) ok_laws_eqWrite (law_laws_eqWrite e5) (.cons (.dat (.agg (ek_TWrite.dat false _))) (.cons (.dat (.agg (ek_TWrite.dat false _))) .nil)) .refl ⟨rfl, ?_⟩)
    cases hb : v5
    ·have h9 := iteBF h8 hb
     refine rdraw.op rfl rfl (rdraw.done ?_)
     refine RW.keep [0, 1, 5, 26] (a' := [(0, .lst false 2 (fl (enc_TWrite false) x0) x0.length), (1, .lst false 2 (fl (enc_TWrite false) x1) x1.length), (5, .int .i64 s1), (26, .bool true)]) (H' := []) rfl rfl ?_
     refine RW.cond_t rfl (RW.sreg (rl.run 1 rfl (rl.done (RW.ret ?_))))
     cases h9
     have h10 := elimL h3 (hE2 _ rfl)
     cases h10
     exact RRet.mk rfl .bool (by first | decide | simp)
    ·have h11 := iteBT h8 hb
     refine rdraw.op rfl rfl (rdraw.done ?_)
     refine RW.keep [0, 1, 5, 26] (a' := [(0, .lst false 2 (fl (enc_TWrite false) x0) x0.length), (1, .lst false 2 (fl (enc_TWrite false) x1) x1.length), (5, .int .i64 s1), (26, .bool false)]) (H' := []) rfl rfl ?_
     refine RW.cond_f rfl (RW.skip (RW.reg (rl.run 3 rfl (rl.done ?_))))
     cases h11
     exact hB2 _ rfl _ _ (Gh.ren0 [] .nil rfl (.cons rfl (.dat (ek_TWrite.rlst)) (.cons rfl (.dat (ek_TWrite.rlst)) (.cons rfl (.dat .int) .nil))))
  ·intro y2 hC
   have h3 := elimR h3 hC
   refine RW.sreg (rl.run 1 rfl (rl.done (RW.ret ?_)))
   cases h3
   exact RRet.mk rfl .bool (by first | decide | simp)
 ·have h12 := iteBT hF hb
  refine rl.done (RW.cond_t rfl (RW.sreg (rl.run 1 rfl (rl.done (RW.ret ?_)))))
  cases h12
  exact RRet.mk rfl .bool (by first | decide | simp)
theorem law_laws_eqDisk {x0 : TDisk} {x1 : TDisk} {r : Bool} (hF : F_laws_eqDisk x0 x1 = some r) : PCalls Try.prog 44 [.agg (enc_TDisk false x0), .agg (enc_TDisk false x1)] (.bool r) := by
 refine PCalls.of_r k_laws_eqDisk rfl ?_
 unfold F_laws_eqDisk at hF
 refine RW.sreg (rl.run 3 rfl (rl.done (RW.seq (RW.sreg (rl.run 4 rfl ?_)))))
 obtain ⟨v1, e1, h1⟩ := bindS hF
 refine rl.call rfl rfl rfl (CallW.val (r' := .bool v1) ok_laws_eqStringS (law_laws_eqStringS e1) (.cons (.lst ekS) (.cons (.lst ekS) .nil)) .refl ?_)
 cases hb : v1
 ·have h2 := iteBF h1 hb
  refine rl.run 1 rfl (rl.done (RW.cond_t rfl (RW.sreg (rl.run 1 rfl (rl.done (RW.ret ?_))))))
  cases h2
  exact RRet.mk rfl .bool (by first | decide | simp)
 ·have h3 := iteBT h1 hb
  refine rl.run 1 rfl (rl.done (RW.cond_f rfl (RW.skip (RW.seq (RW.sreg (rl.run 4 rfl ?_))))))
  obtain ⟨v2, e2, h4⟩ := bindS h3
  refine rl.call rfl rfl rfl (CallW.val (r' := .bool v2) ok_laws_eqWriteS (law_laws_eqWriteS e2) (.cons (.lst ek_TWrite) (.cons (.lst ek_TWrite) .nil)) .refl ?_)
  cases hb : v2
  ·have h5 := iteBF h4 hb
   refine rl.run 1 rfl (rl.done ?_)
   refine RW.keep [16] (a' := [(16, .bool true)]) (H' := [some ⟨[.lst false 1 (fl (encS false) x0.Sectors) x0.Sectors.length, .lst false 2 (fl (enc_TWrite false) x0.Cache) x0.Cache.length], 0⟩, some ⟨[.lst false 1 (fl (encS false) x1.Sectors) x1.Sectors.length, .lst false 2 (fl (enc_TWrite false) x1.Cache) x1.Cache.length], 0⟩]) rfl rfl ?_
   refine RW.cond_t rfl (RW.sreg (rl.run 1 rfl (rl.done (RW.ret ?_))))
   cases h5
   exact RRet.mk rfl .bool (by first | decide | simp)
  ·have h6 := iteBT h4 hb
   refine rl.run 1 rfl (rl.done ?_)
   refine RW.keep [16] (a' := [(16, .bool false)]) (H' := [some ⟨[.lst false 1 (fl (encS false) x0.Sectors) x0.Sectors.length, .lst false 2 (fl (enc_TWrite false) x0.Cache) x0.Cache.length], 0⟩, some ⟨[.lst false 1 (fl (encS false) x1.Sectors) x1.Sectors.length, .lst false 2 (fl (enc_TWrite false) x1.Cache) x1.Cache.length], 0⟩]) rfl rfl ?_
   refine RW.cond_f rfl (RW.skip (RW.sreg (rl.run 1 rfl (rl.done (RW.ret ?_)))))
   cases h6
   exact RRet.mk rfl .bool (by first | decide | simp)
theorem law_laws_eqRec {x0 : TRec} {x1 : TRec} {r : Bool} (hF : F_laws_eqRec x0 x1 = some r) : PCalls Try.prog 143 [.agg (enc_TRec false x0), .agg (enc_TRec false x1)] (.bool r) := by
 refine PCalls.of_r k_laws_eqRec rfl ?_
 unfold F_laws_eqRec at hF
 refine RW.sreg (rl.run 3 rfl (rl.done (RW.seq (RW.sreg (rl.run 4 rfl ?_)))))
 refine rl.gen rfl rfl fun b hb => ?_
 cases b
 ·have h1 := iteBF hF hb
  refine rl.done (RW.cond_f rfl (RW.skip (RW.seq (RW.sreg (rl.run 4 rfl ?_)))))
  refine rl.gen rfl rfl fun b hb => ?_
  cases b
  ·have h2 := iteBF h1 hb
   refine rl.done ?_
   refine RW.keep [2, 3, 14] (a' := [(2, .ptr 0 0), (3, .ptr 1 0), (14, .bool false)]) (H' := [some ⟨[.int .i64 x0.Kind, .int .i64 x0.Valid, .int .i64 x0.Uid, .int .i64 x0.Next, .int .i64 x0.Flags, .str x0.User, .str x0.Name, .str x0.Text], 0⟩, some ⟨[.int .i64 x1.Kind, .int .i64 x1.Valid, .int .i64 x1.Uid, .int .i64 x1.Next, .int .i64 x1.Flags, .str x1.User, .str x1.Name, .str x1.Text], 0⟩]) rfl rfl ?_
   refine RW.cond_f rfl (RW.skip (RW.seq (RW.sreg (rl.run 4 rfl ?_))))
   refine rl.gen rfl rfl fun b hb => ?_
   cases b
   ·have h3 := iteBF h2 hb
    refine rl.done (RW.cond_f rfl (RW.skip (RW.seq (RW.sreg (rl.run 4 rfl ?_)))))
    refine rl.gen rfl rfl fun b hb => ?_
    cases b
    ·have h4 := iteBF h3 hb
     refine rl.done (RW.cond_f rfl (RW.skip (RW.seq (RW.sreg (rl.run 4 rfl ?_)))))
     refine rl.gen rfl rfl fun b hb => ?_
     cases b
     ·have h5 := iteBF h4 hb
      refine rl.done ?_
      refine RW.keep [2, 3, 29] (a' := [(2, .ptr 0 0), (3, .ptr 1 0), (29, .bool false)]) (H' := [some ⟨[.int .i64 x0.Kind, .int .i64 x0.Valid, .int .i64 x0.Uid, .int .i64 x0.Next, .int .i64 x0.Flags, .str x0.User, .str x0.Name, .str x0.Text], 0⟩, some ⟨[.int .i64 x1.Kind, .int .i64 x1.Valid, .int .i64 x1.Uid, .int .i64 x1.Next, .int .i64 x1.Flags, .str x1.User, .str x1.Name, .str x1.Text], 0⟩]) rfl rfl ?_
      refine RW.cond_f rfl (RW.skip (RW.seq (RW.sreg (rl.run 4 rfl ?_))))
      refine rl.gen rfl rfl fun b hb => ?_
      cases b
      ·have h6 := iteBF h5 hb
       refine rl.done (RW.cond_f rfl (RW.skip (RW.seq (RW.sreg (rl.run 4 rfl ?_)))))
       refine rl.gen rfl rfl fun b hb => ?_
       cases b
       ·have h7 := iteBF h6 hb
        refine rl.done (RW.cond_f rfl (RW.skip (RW.seq (RW.sreg (rl.run 4 rfl ?_)))))
        refine rl.gen rfl rfl fun b hb => ?_
        cases b
        ·have h8 := iteBF h7 hb
         refine rl.done ?_
         refine RW.keep [44] (a' := [(44, .bool false)]) (H' := [some ⟨[.int .i64 x0.Kind, .int .i64 x0.Valid, .int .i64 x0.Uid, .int .i64 x0.Next, .int .i64 x0.Flags, .str x0.User, .str x0.Name, .str x0.Text], 0⟩, some ⟨[.int .i64 x1.Kind, .int .i64 x1.Valid, .int .i64 x1.Uid, .int .i64 x1.Next, .int .i64 x1.Flags, .str x1.User, .str x1.Name, .str x1.Text], 0⟩]) rfl rfl ?_
         refine RW.cond_f rfl (RW.skip (RW.sreg (rl.run 1 rfl (rl.done (RW.ret ?_)))))
         cases h8
         exact RRet.mk rfl .bool (by first | decide | simp)
        ·have h9 := iteBT h7 hb
         refine rl.done ?_
         refine RW.keep [44] (a' := [(44, .bool true)]) (H' := [some ⟨[.int .i64 x0.Kind, .int .i64 x0.Valid, .int .i64 x0.Uid, .int .i64 x0.Next, .int .i64 x0.Flags, .str x0.User, .str x0.Name, .str x0.Text], 0⟩, some ⟨[.int .i64 x1.Kind, .int .i64 x1.Valid, .int .i64 x1.Uid, .int .i64 x1.Next, .int .i64 x1.Flags, .str x1.User, .str x1.Name, .str x1.Text], 0⟩]) rfl rfl ?_
         refine RW.cond_t rfl (RW.sreg (rl.run 1 rfl (rl.done (RW.ret ?_))))
         cases h9
         exact RRet.mk rfl .bool (by first | decide | simp)
       ·have h10 := iteBT h6 hb
        refine rl.done (RW.cond_t rfl (RW.sreg (rl.run 1 rfl (rl.done ?_))))
        refine RW.keep [4] (a' := [(4, .bool false)]) (H' := [some ⟨[.int .i64 x0.Kind, .int .i64 x0.Valid, .int .i64 x0.Uid, .int .i64 x0.Next, .int .i64 x0.Flags, .str x0.User, .str x0.Name, .str x0.Text], 0⟩, some ⟨[.int .i64 x1.Kind, .int .i64 x1.Valid, .int .i64 x1.Uid, .int .i64 x1.Next, .int .i64 x1.Flags, .str x1.User, .str x1.Name, .str x1.Text], 0⟩]) rfl rfl ?_
        refine RW.ret ?_
        cases h10
        exact RRet.mk rfl .bool (by first | decide | simp)
      ·have h11 := iteBT h5 hb
       refine rl.done (RW.cond_t rfl (RW.sreg (rl.run 1 rfl (rl.done (RW.ret ?_)))))
       cases h11
       exact RRet.mk rfl .bool (by first | decide | simp)
     ·have h12 := iteBT h4 hb
      refine rl.done ?_
      refine RW.keep [2, 3, 29] (a' := [(2, .ptr 0 0), (3, .ptr 1 0), (29, .bool true)]) (H' := [some ⟨[.int .i64 x0.Kind, .int .i64 x0.Valid, .int .i64 x0.Uid, .int .i64 x0.Next, .int .i64 x0.Flags, .str x0.User, .str x0.Name, .str x0.Text], 0⟩, some ⟨[.int .i64 x1.Kind, .int .i64 x1.Valid, .int .i64 x1.Uid, .int .i64 x1.Next, .int .i64 x1.Flags, .str x1.User, .str x1.Name, .str x1.Text], 0⟩]) rfl rfl ?_
      refine RW.cond_t rfl (RW.sreg (rl.run 1 rfl (rl.done (RW.ret ?_))))
      cases h12
      exact RRet.mk rfl .bool (by first | decide | simp)
    ·have h13 := iteBT h3 hb
     refine rl.done (RW.cond_t rfl (RW.sreg (rl.run 1 rfl (rl.done ?_))))
     refine RW.keep [4] (a' := [(4, .bool false)]) (H' := [some ⟨[.int .i64 x0.Kind, .int .i64 x0.Valid, .int .i64 x0.Uid, .int .i64 x0.Next, .int .i64 x0.Flags, .str x0.User, .str x0.Name, .str x0.Text], 0⟩, some ⟨[.int .i64 x1.Kind, .int .i64 x1.Valid, .int .i64 x1.Uid, .int .i64 x1.Next, .int .i64 x1.Flags, .str x1.User, .str x1.Name, .str x1.Text], 0⟩]) rfl rfl ?_
     refine RW.ret ?_
     cases h13
     exact RRet.mk rfl .bool (by first | decide | simp)
   ·have h14 := iteBT h2 hb
    refine rl.done (RW.cond_t rfl (RW.sreg (rl.run 1 rfl (rl.done (RW.ret ?_)))))
    cases h14
    exact RRet.mk rfl .bool (by first | decide | simp)
  ·have h15 := iteBT h1 hb
   refine rl.done ?_
   refine RW.keep [2, 3, 14] (a' := [(2, .ptr 0 0), (3, .ptr 1 0), (14, .bool true)]) (H' := [some ⟨[.int .i64 x0.Kind, .int .i64 x0.Valid, .int .i64 x0.Uid, .int .i64 x0.Next, .int .i64 x0.Flags, .str x0.User, .str x0.Name, .str x0.Text], 0⟩, some ⟨[.int .i64 x1.Kind, .int .i64 x1.Valid, .int .i64 x1.Uid, .int .i64 x1.Next, .int .i64 x1.Flags, .str x1.User, .str x1.Name, .str x1.Text], 0⟩]) rfl rfl ?_
   refine RW.cond_t rfl (RW.sreg (rl.run 1 rfl (rl.done (RW.ret ?_))))
   cases h15
   exact RRet.mk rfl .bool (by first | decide | simp)
 ·have h16 := iteBT hF hb
  refine rl.done (RW.cond_t rfl (RW.sreg (rl.run 1 rfl (rl.done (RW.ret ?_)))))
  cases h16
  exact RRet.mk rfl .bool (by first | decide | simp)
theorem law_laws_eqItem {x0 : TItem} {x1 : TItem} {r : Bool} (hF : F_laws_eqItem x0 x1 = some r) : PCalls Try.prog 73 [.agg (enc_TItem false x0), .agg (enc_TItem false x1)] (.bool r) := by
 refine PCalls.of_r k_laws_eqItem rfl ?_
 unfold F_laws_eqItem at hF
 refine RW.sreg (rl.run 3 rfl (rl.done (RW.seq (RW.sreg (rl.run 4 rfl ?_)))))
 refine rl.gen rfl rfl fun b hb => ?_
 cases b
 ·have h1 := iteBF hF hb
  refine rl.done (RW.cond_f rfl (RW.skip (RW.seq (RW.sreg (rl.run 4 rfl ?_)))))
  obtain ⟨v1, e1, h2⟩ := bindS h1
  refine rl.call rfl rfl rfl (CallW.val (r' := .bool v1) ok_laws_eqRec (law_laws_eqRec e1) (.cons (DFL.agg (.cons .int (.cons .int (.cons .int (.cons .int (.cons .int (.cons .str (.cons .str (.cons .str .nil))))))))) (.cons (DFL.agg (.cons .int (.cons .int (.cons .int (.cons .int (.cons .int (.cons .str (.cons .str (.cons .str .nil))))))))) .nil)) .refl ?_)
  cases hb : v1
  ·have h3 := iteBF h2 hb
   refine rl.run 1 rfl (rl.done ?_)
   refine RW.keep [15] (a' := [(15, .bool true)]) (H' := [some ⟨[.int .i64 x0.Seq, .int .i64 x0.Rec.Kind, .int .i64 x0.Rec.Valid, .int .i64 x0.Rec.Uid, .int .i64 x0.Rec.Next, .int .i64 x0.Rec.Flags, .str x0.Rec.User, .str x0.Rec.Name, .str x0.Rec.Text], 0⟩, some ⟨[.int .i64 x1.Seq, .int .i64 x1.Rec.Kind, .int .i64 x1.Rec.Valid, .int .i64 x1.Rec.Uid, .int .i64 x1.Rec.Next, .int .i64 x1.Rec.Flags, .str x1.Rec.User, .str x1.Rec.Name, .str x1.Rec.Text], 0⟩]) rfl rfl ?_
   refine RW.cond_t rfl (RW.sreg (rl.run 1 rfl (rl.done (RW.ret ?_))))
   cases h3
   exact RRet.mk rfl .bool (by first | decide | simp)
  ·have h4 := iteBT h2 hb
   refine rl.run 1 rfl (rl.done ?_)
   refine RW.keep [15] (a' := [(15, .bool false)]) (H' := [some ⟨[.int .i64 x0.Seq, .int .i64 x0.Rec.Kind, .int .i64 x0.Rec.Valid, .int .i64 x0.Rec.Uid, .int .i64 x0.Rec.Next, .int .i64 x0.Rec.Flags, .str x0.Rec.User, .str x0.Rec.Name, .str x0.Rec.Text], 0⟩, some ⟨[.int .i64 x1.Seq, .int .i64 x1.Rec.Kind, .int .i64 x1.Rec.Valid, .int .i64 x1.Rec.Uid, .int .i64 x1.Rec.Next, .int .i64 x1.Rec.Flags, .str x1.Rec.User, .str x1.Rec.Name, .str x1.Rec.Text], 0⟩]) rfl rfl ?_
   refine RW.cond_f rfl (RW.skip (RW.sreg (rl.run 1 rfl (rl.done (RW.ret ?_)))))
   cases h4
   exact RRet.mk rfl .bool (by first | decide | simp)
 ·have h5 := iteBT hF hb
  refine rl.done (RW.cond_t rfl (RW.sreg (rl.run 1 rfl (rl.done (RW.ret ?_)))))
  cases h5
  exact RRet.mk rfl .bool (by first | decide | simp)
theorem law_laws_eqItemS {x0 : List TItem} {x1 : List TItem} {r : Bool} (hF : F_laws_eqItemS x0 x1 = some r) : PCalls Try.prog 22 [.lst false 9 (fl (enc_TItem false) x0) x0.length, .lst false 9 (fl (enc_TItem false) x1) x1.length] (.bool r) := by
 refine PCalls.of_r k_laws_eqItemS rfl ?_
 unfold F_laws_eqItemS at hF
 refine RW.sreg (rl.run 1 rfl (rl.done (RW.seq (RW.sreg (rl.run 4 rfl ?_)))))
 refine rl.gen rfl rfl fun b hb => ?_
 cases b
 ·have h1 := iteBF hF hb
  refine rl.done (RW.cond_f rfl (RW.skip (RW.seq (RW.sreg (rl.run 1 rfl (rl.done ?_))))))
  obtain ⟨y6, ey6, h3⟩ := bindS h1
  refine RW.cutq (σ := Unit) (fun y2 => []) (fun y2 => []) (fun y => y6 = .inr y) (fun _ _ _ _ g h => RW.gh g h) ?_ ?_
  ·refine RW.blk ?_
   refine RW.iter (σ := Int) ey6 (fun s1 => [(0, .lst false 9 (fl (enc_TItem false) x0) x0.length), (1, .lst false 9 (fl (enc_TItem false) x1) x1.length), (5, .int .i64 s1)]) (fun s1 => []) (Gh.ren0 [] .nil rfl (.cons rfl (.dat (ek_TItem.rlst)) (.cons rfl (.dat (ek_TItem.rlst)) (.cons rfl (.dat .int) .nil)))) (fun s1 B o hS2 hB2 hE2 => ?_)
   unfold S_laws_eqItemS_1 at hS2
   refine RW.seq (RW.sreg (rl.run 3 rfl ?_))
   refine rl.gen rfl rfl fun b hb => ?_
   cases b
   ·have h4 := iteBF hS2 hb
    refine rl.done (RW.cond_f rfl (RW.exit (blkA_eq ?_)))
    cases h4
    exact ⟨_, (hE2 _ rfl).symm, (Gh.ren0 [] .nil rfl .nil)⟩
   ·have h5 := iteBT hS2 hb
    refine rl.done (RW.cond_t rfl (RW.skip (RW.seq (RW.blk (RW.sdrw (rdraw.op rfl rfl (rdraw.op rfl rfl ?_)))))))
    obtain ⟨v3, e3, h6⟩ := bindS h5
    refine rdraw.op rfl (x_ia_lst (enc := enc_TItem) (o := false) rfl rfl rfl e3) ?_
    refine rdraw.op rfl (x_ld_ela (off' := 0) (vs := (enc_TItem false v3)) ek_TItem rfl e3 rfl rfl rfl) ?_
    refine rdraw.op rfl rfl (rdraw.op rfl rfl ?_)
    obtain ⟨v4, e4, h7⟩ := bindS h6
    refine rdraw.op rfl (x_ia_lst (enc := enc_TItem) (o := false) rfl rfl rfl e4) ?_
    refine rdraw.op rfl (x_ld_ela (off' := 0) (vs := (enc_TItem false v4)) ek_TItem rfl e4 rfl rfl rfl) ?_
    obtain ⟨v5, e5, h8⟩ := bindS h7
    refine rdraw.call rfl rfl rfl (CallW.val (r' := .bool v5) ok_laws_eqItem (law_laws_eqItem e5) (.cons (.dat (.agg (ek_TItem.dat false _))) (.cons (.dat (.agg (ek_TItem.dat false _))) .nil)) .refl ⟨rfl, ?_⟩)
    cases hb : v5
    ·have h9 := iteBF h8 hb
     refine rdraw.op rfl rfl (rdraw.done ?_)
     refine RW.keep [0, 1, 5, 26] (a' := [(0, .lst false 9 (fl (enc_TItem false) x0) x0.length), (1, .lst false 9 (fl (enc_TItem false) x1) x1.length), (5, .int .i64 s1), (26, .bool true)]) (H' := []) rfl rfl ?_
     refine RW.cond_t rfl (RW.sreg (rl.run 1 rfl (rl.done (RW.ret ?_))))
     cases h9
     have h10 := elimL h3 (hE2 _ rfl)
     cases h10
     exact RRet.mk rfl .bool (by first | decide | simp)
    ·have h11 := iteBT h8 hb
     refine rdraw.op rfl rfl (rdraw.done ?_)
     refine RW.keep [0, 1, 5, 26] (a' := [(0, .lst false 9 (fl (enc_TItem false) x0) x0.length), (1, .lst false 9 (fl (enc_TItem false) x1) x1.length), (5, .int .i64 s1), (26, .bool false)]) (H' := []) rfl rfl ?_
     refine RW.cond_f rfl (RW.skip (RW.reg (rl.run 3 rfl (rl.done ?_))))
     cases h11
     exact hB2 _ rfl _ _ (Gh.ren0 [] .nil rfl (.cons rfl (.dat (ek_TItem.rlst)) (.cons rfl (.dat (ek_TItem.rlst)) (.cons rfl (.dat .int) .nil))))
  ·intro y2 hC
   have h3 := elimR h3 hC
   refine RW.sreg (rl.run 1 rfl (rl.done (RW.ret ?_)))
   cases h3
   exact RRet.mk rfl .bool (by first | decide | simp)
 ·have h12 := iteBT hF hb
  refine rl.done (RW.cond_t rfl (RW.sreg (rl.run 1 rfl (rl.done (RW.ret ?_)))))
  cases h12
  exact RRet.mk rfl .bool (by first | decide | simp)
theorem law_laws_eqSeg {x0 : TSeg} {x1 : TSeg} {r : Bool} (hF : F_laws_eqSeg x0 x1 = some r) : PCalls Try.prog 53 [.agg (enc_TSeg false x0), .agg (enc_TSeg false x1)] (.bool r) := by
 refine PCalls.of_r k_laws_eqSeg rfl ?_
 unfold F_laws_eqSeg at hF
 refine RW.sreg (rl.run 3 rfl (rl.done (RW.seq (RW.sreg (rl.run 4 rfl ?_)))))
 refine rl.gen rfl rfl fun b hb => ?_
 cases b
 ·have h1 := iteBF hF hb
  refine rl.done (RW.cond_f rfl (RW.skip (RW.seq (RW.sreg (rl.run 4 rfl ?_)))))
  refine rl.gen rfl rfl fun b hb => ?_
  cases b
  ·have h2 := iteBF h1 hb
   refine rl.done ?_
   refine RW.keep [2, 3, 14] (a' := [(2, .ptr 0 0), (3, .ptr 1 0), (14, .bool false)]) (H' := [some ⟨[.int .i64 x0.No, .int .i64 x0.Gen, .int .i64 x0.End, .lst false 9 (fl (enc_TItem false) x0.Items) x0.Items.length], 0⟩, some ⟨[.int .i64 x1.No, .int .i64 x1.Gen, .int .i64 x1.End, .lst false 9 (fl (enc_TItem false) x1.Items) x1.Items.length], 0⟩]) rfl rfl ?_
   refine RW.cond_f rfl (RW.skip (RW.seq (RW.sreg (rl.run 4 rfl ?_))))
   refine rl.gen rfl rfl fun b hb => ?_
   cases b
   ·have h3 := iteBF h2 hb
    refine rl.done (RW.cond_f rfl (RW.skip (RW.seq (RW.sreg (rl.run 4 rfl ?_)))))
    obtain ⟨v1, e1, h4⟩ := bindS h3
    refine rl.call rfl rfl rfl (CallW.val (r' := .bool v1) ok_laws_eqItemS (law_laws_eqItemS e1) (.cons (.lst ek_TItem) (.cons (.lst ek_TItem) .nil)) .refl ?_)
    cases hb : v1
    ·have h5 := iteBF h4 hb
     refine rl.run 1 rfl (rl.done ?_)
     refine RW.keep [25] (a' := [(25, .bool true)]) (H' := [some ⟨[.int .i64 x0.No, .int .i64 x0.Gen, .int .i64 x0.End, .lst false 9 (fl (enc_TItem false) x0.Items) x0.Items.length], 0⟩, some ⟨[.int .i64 x1.No, .int .i64 x1.Gen, .int .i64 x1.End, .lst false 9 (fl (enc_TItem false) x1.Items) x1.Items.length], 0⟩]) rfl rfl ?_
     refine RW.cond_t rfl (RW.sreg (rl.run 1 rfl (rl.done (RW.ret ?_))))
     cases h5
     exact RRet.mk rfl .bool (by first | decide | simp)
    ·have h6 := iteBT h4 hb
     refine rl.run 1 rfl (rl.done ?_)
     refine RW.keep [25] (a' := [(25, .bool false)]) (H' := [some ⟨[.int .i64 x0.No, .int .i64 x0.Gen, .int .i64 x0.End, .lst false 9 (fl (enc_TItem false) x0.Items) x0.Items.length], 0⟩, some ⟨[.int .i64 x1.No, .int .i64 x1.Gen, .int .i64 x1.End, .lst false 9 (fl (enc_TItem false) x1.Items) x1.Items.length], 0⟩]) rfl rfl ?_
     refine RW.cond_f rfl (RW.skip (RW.sreg (rl.run 1 rfl (rl.done (RW.ret ?_)))))
     cases h6
     exact RRet.mk rfl .bool (by first | decide | simp)
   ·have h7 := iteBT h2 hb
    refine rl.done (RW.cond_t rfl (RW.sreg (rl.run 1 rfl (rl.done (RW.ret ?_)))))
    cases h7
    exact RRet.mk rfl .bool (by first | decide | simp)
  ·have h8 := iteBT h1 hb
   refine rl.done ?_
   refine RW.keep [2, 3, 14] (a' := [(2, .ptr 0 0), (3, .ptr 1 0), (14, .bool true)]) (H' := [some ⟨[.int .i64 x0.No, .int .i64 x0.Gen, .int .i64 x0.End, .lst false 9 (fl (enc_TItem false) x0.Items) x0.Items.length], 0⟩, some ⟨[.int .i64 x1.No, .int .i64 x1.Gen, .int .i64 x1.End, .lst false 9 (fl (enc_TItem false) x1.Items) x1.Items.length], 0⟩]) rfl rfl ?_
   refine RW.cond_t rfl (RW.sreg (rl.run 1 rfl (rl.done (RW.ret ?_))))
   cases h8
   exact RRet.mk rfl .bool (by first | decide | simp)
 ·have h9 := iteBT hF hb
  refine rl.done (RW.cond_t rfl (RW.sreg (rl.run 1 rfl (rl.done (RW.ret ?_)))))
  cases h9
  exact RRet.mk rfl .bool (by first | decide | simp)
theorem law_laws_eqSegS {x0 : List TSeg} {x1 : List TSeg} {r : Bool} (hF : F_laws_eqSegS x0 x1 = some r) : PCalls Try.prog 66 [.lst false 4 (fl (enc_TSeg false) x0) x0.length, .lst false 4 (fl (enc_TSeg false) x1) x1.length] (.bool r) := by
 refine PCalls.of_r k_laws_eqSegS rfl ?_
 unfold F_laws_eqSegS at hF
 refine RW.sreg (rl.run 1 rfl (rl.done (RW.seq (RW.sreg (rl.run 4 rfl ?_)))))
 refine rl.gen rfl rfl fun b hb => ?_
 cases b
 ·have h1 := iteBF hF hb
  refine rl.done (RW.cond_f rfl (RW.skip (RW.seq (RW.sreg (rl.run 1 rfl (rl.done ?_))))))
  obtain ⟨y6, ey6, h3⟩ := bindS h1
  refine RW.cutq (σ := Unit) (fun y2 => []) (fun y2 => []) (fun y => y6 = .inr y) (fun _ _ _ _ g h => RW.gh g h) ?_ ?_
  ·refine RW.blk ?_
   refine RW.iter (σ := Int) ey6 (fun s1 => [(0, .lst false 4 (fl (enc_TSeg false) x0) x0.length), (1, .lst false 4 (fl (enc_TSeg false) x1) x1.length), (5, .int .i64 s1)]) (fun s1 => []) (Gh.ren0 [] .nil rfl (.cons rfl (.dat (ek_TSeg.rlst)) (.cons rfl (.dat (ek_TSeg.rlst)) (.cons rfl (.dat .int) .nil)))) (fun s1 B o hS2 hB2 hE2 => ?_)
   unfold S_laws_eqSegS_1 at hS2
   refine RW.seq (RW.sreg (rl.run 3 rfl ?_))
   refine rl.gen rfl rfl fun b hb => ?_
   cases b
   ·have h4 := iteBF hS2 hb
    refine rl.done (RW.cond_f rfl (RW.exit (blkA_eq ?_)))
    cases h4
    exact ⟨_, (hE2 _ rfl).symm, (Gh.ren0 [] .nil rfl .nil)⟩
   ·have h5 := iteBT hS2 hb
    refine rl.done (RW.cond_t rfl (RW.skip (RW.seq (RW.blk (RW.sdrw (rdraw.op rfl rfl (rdraw.op rfl rfl ?_)))))))
    obtain ⟨v3, e3, h6⟩ := bindS h5
    refine rdraw.op rfl (x_ia_lst (enc := enc_TSeg) (o := false) rfl rfl rfl e3) ?_
    refine rdraw.op rfl (x_ld_ela (off' := 0) (vs := (enc_TSeg false v3)) ek_TSeg rfl e3 rfl rfl rfl) ?_
    refine rdraw.op rfl rfl (rdraw.op rfl rfl ?_)
    obtain ⟨v4, e4, h7⟩ := bindS h6
    refine rdraw.op rfl (x_ia_lst (enc := enc_TSeg) (o := false) rfl rfl rfl e4) ?_
    refine rdraw.op rfl (x_ld_ela (off' := 0) (vs := (enc_TSeg false v4)) ek_TSeg rfl e4 rfl rfl rfl) ?_
    obtain ⟨v5, e5, h8⟩ := bindS h7
    refine rdraw.call rfl rfl rfl (CallW.val (r' := .bool v5) ok_laws_eqSeg (law_laws_eqSeg e5) (.cons (.dat (.agg (ek_TSeg.dat false _))) (.cons (.dat (.agg (ek_TSeg.dat false _))) .nil)) .refl ⟨rfl, ?_⟩)
    cases hb : v5
    ·have h9 := iteBF h8 hb
     refine rdraw.op rfl rfl (rdraw.done ?_)
     refine RW.keep [0, 1, 5, 26] (a' := [(0, .lst false 4 (fl (enc_TSeg false) x0) x0.length), (1, .lst false 4 (fl (enc_TSeg false) x1) x1.length), (5, .int .i64 s1), (26, .bool true)]) (H' := []) rfl rfl ?_
     refine RW.cond_t rfl (RW.sreg (rl.run 1 rfl (rl.done (RW.ret ?_))))
     cases h9
     have h10 := elimL h3 (hE2 _ rfl)
     cases h10
     exact RRet.mk rfl .bool (by first | decide | simp)
    ·have h11 := iteBT h8 hb
     refine rdraw.op rfl rfl (rdraw.done ?_)
     refine RW.keep [0, 1, 5, 26] (a' := [(0, .lst false 4 (fl (enc_TSeg false) x0) x0.length), (1, .lst false 4 (fl (enc_TSeg false) x1) x1.length), (5, .int .i64 s1), (26, .bool false)]) (H' := []) rfl rfl ?_
     refine RW.cond_f rfl (RW.skip (RW.reg (rl.run 3 rfl (rl.done ?_))))
     cases h11
     exact hB2 _ rfl _ _ (Gh.ren0 [] .nil rfl (.cons rfl (.dat (ek_TSeg.rlst)) (.cons rfl (.dat (ek_TSeg.rlst)) (.cons rfl (.dat .int) .nil))))
  ·intro y2 hC
   have h3 := elimR h3 hC
   refine RW.sreg (rl.run 1 rfl (rl.done (RW.ret ?_)))
   cases h3
   exact RRet.mk rfl .bool (by first | decide | simp)
 ·have h12 := iteBT hF hb
  refine rl.done (RW.cond_t rfl (RW.sreg (rl.run 1 rfl (rl.done (RW.ret ?_)))))
  cases h12
  exact RRet.mk rfl .bool (by first | decide | simp)
theorem law_laws_eqLog {x0 : TLog} {x1 : TLog} {r : Bool} (hF : F_laws_eqLog x0 x1 = some r) : PCalls Try.prog 16 [.agg (enc_TLog false x0), .agg (enc_TLog false x1)] (.bool r) := by
 refine PCalls.of_r k_laws_eqLog rfl ?_
 unfold F_laws_eqLog at hF
 refine RW.sreg (rl.run 3 rfl (rl.done (RW.seq (RW.sreg (rl.run 4 rfl ?_)))))
 obtain ⟨v1, e1, h1⟩ := bindS hF
 refine rl.call rfl rfl rfl (CallW.val (r' := .bool v1) ok_laws_eqDisk (law_laws_eqDisk e1) (.cons (DFL.agg (.cons (.lst ekS) (.cons (.lst ek_TWrite) .nil))) (.cons (DFL.agg (.cons (.lst ekS) (.cons (.lst ek_TWrite) .nil))) .nil)) .refl ?_)
 cases hb : v1
 ·have h2 := iteBF h1 hb
  refine rl.run 1 rfl (rl.done (RW.cond_t rfl (RW.sreg (rl.run 1 rfl (rl.done (RW.ret ?_))))))
  cases h2
  exact RRet.mk rfl .bool (by first | decide | simp)
 ·have h3 := iteBT h1 hb
  refine rl.run 1 rfl (rl.done (RW.cond_f rfl (RW.skip (RW.seq (RW.sreg (rl.run 4 rfl ?_))))))
  refine rl.gen rfl rfl fun b hb => ?_
  cases b
  ·have h4 := iteBF h3 hb
   refine rl.done ?_
   refine RW.keep [2, 3, 15] (a' := [(2, .ptr 0 0), (3, .ptr 1 0), (15, .bool false)]) (H' := [some ⟨[.lst false 1 (fl (encS false) x0.Disk.Sectors) x0.Disk.Sectors.length, .lst false 2 (fl (enc_TWrite false) x0.Disk.Cache) x0.Disk.Cache.length, .int .i64 x0.Segs, .lst false 4 (fl (enc_TSeg false) x0.Used) x0.Used.length, .int .i64 x0.NextGen, .int .i64 x0.NextSeq, .int .i64 x0.Stamp, .int .i64 x0.NextValid], 0⟩, some ⟨[.lst false 1 (fl (encS false) x1.Disk.Sectors) x1.Disk.Sectors.length, .lst false 2 (fl (enc_TWrite false) x1.Disk.Cache) x1.Disk.Cache.length, .int .i64 x1.Segs, .lst false 4 (fl (enc_TSeg false) x1.Used) x1.Used.length, .int .i64 x1.NextGen, .int .i64 x1.NextSeq, .int .i64 x1.Stamp, .int .i64 x1.NextValid], 0⟩]) rfl rfl ?_
   refine RW.cond_f rfl (RW.skip (RW.seq (RW.sreg (rl.run 4 rfl ?_))))
   obtain ⟨v2, e2, h5⟩ := bindS h4
   refine rl.call rfl rfl rfl (CallW.val (r' := .bool v2) ok_laws_eqSegS (law_laws_eqSegS e2) (.cons (.lst ek_TSeg) (.cons (.lst ek_TSeg) .nil)) .refl ?_)
   cases hb : v2
   ·have h6 := iteBF h5 hb
    refine rl.run 1 rfl (rl.done (RW.cond_t rfl (RW.sreg (rl.run 1 rfl (rl.done (RW.ret ?_))))))
    cases h6
    exact RRet.mk rfl .bool (by first | decide | simp)
   ·have h7 := iteBT h5 hb
    refine rl.run 1 rfl (rl.done (RW.cond_f rfl (RW.skip (RW.seq (RW.sreg (rl.run 4 rfl ?_))))))
    refine rl.gen rfl rfl fun b hb => ?_
    cases b
    ·have h8 := iteBF h7 hb
     refine rl.done ?_
     refine RW.keep [2, 3, 26] (a' := [(2, .ptr 0 0), (3, .ptr 1 0), (26, .bool false)]) (H' := [some ⟨[.lst false 1 (fl (encS false) x0.Disk.Sectors) x0.Disk.Sectors.length, .lst false 2 (fl (enc_TWrite false) x0.Disk.Cache) x0.Disk.Cache.length, .int .i64 x0.Segs, .lst false 4 (fl (enc_TSeg false) x0.Used) x0.Used.length, .int .i64 x0.NextGen, .int .i64 x0.NextSeq, .int .i64 x0.Stamp, .int .i64 x0.NextValid], 0⟩, some ⟨[.lst false 1 (fl (encS false) x1.Disk.Sectors) x1.Disk.Sectors.length, .lst false 2 (fl (enc_TWrite false) x1.Disk.Cache) x1.Disk.Cache.length, .int .i64 x1.Segs, .lst false 4 (fl (enc_TSeg false) x1.Used) x1.Used.length, .int .i64 x1.NextGen, .int .i64 x1.NextSeq, .int .i64 x1.Stamp, .int .i64 x1.NextValid], 0⟩]) rfl rfl ?_
     refine RW.cond_f rfl (RW.skip (RW.seq (RW.sreg (rl.run 4 rfl ?_))))
     refine rl.gen rfl rfl fun b hb => ?_
     cases b
     ·have h9 := iteBF h8 hb
      refine rl.done (RW.cond_f rfl (RW.skip (RW.seq (RW.sreg (rl.run 4 rfl ?_)))))
      refine rl.gen rfl rfl fun b hb => ?_
      cases b
      ·have h10 := iteBF h9 hb
       refine rl.done (RW.cond_f rfl (RW.skip (RW.seq (RW.sreg (rl.run 4 rfl ?_)))))
       refine rl.gen rfl rfl fun b hb => ?_
       cases b
       ·have h11 := iteBF h10 hb
        refine rl.done ?_
        refine RW.keep [41] (a' := [(41, .bool false)]) (H' := [some ⟨[.lst false 1 (fl (encS false) x0.Disk.Sectors) x0.Disk.Sectors.length, .lst false 2 (fl (enc_TWrite false) x0.Disk.Cache) x0.Disk.Cache.length, .int .i64 x0.Segs, .lst false 4 (fl (enc_TSeg false) x0.Used) x0.Used.length, .int .i64 x0.NextGen, .int .i64 x0.NextSeq, .int .i64 x0.Stamp, .int .i64 x0.NextValid], 0⟩, some ⟨[.lst false 1 (fl (encS false) x1.Disk.Sectors) x1.Disk.Sectors.length, .lst false 2 (fl (enc_TWrite false) x1.Disk.Cache) x1.Disk.Cache.length, .int .i64 x1.Segs, .lst false 4 (fl (enc_TSeg false) x1.Used) x1.Used.length, .int .i64 x1.NextGen, .int .i64 x1.NextSeq, .int .i64 x1.Stamp, .int .i64 x1.NextValid], 0⟩]) rfl rfl ?_
        refine RW.cond_f rfl (RW.skip (RW.sreg (rl.run 1 rfl (rl.done (RW.ret ?_)))))
        cases h11
        exact RRet.mk rfl .bool (by first | decide | simp)
       ·have h12 := iteBT h10 hb
        refine rl.done ?_
        refine RW.keep [41] (a' := [(41, .bool true)]) (H' := [some ⟨[.lst false 1 (fl (encS false) x0.Disk.Sectors) x0.Disk.Sectors.length, .lst false 2 (fl (enc_TWrite false) x0.Disk.Cache) x0.Disk.Cache.length, .int .i64 x0.Segs, .lst false 4 (fl (enc_TSeg false) x0.Used) x0.Used.length, .int .i64 x0.NextGen, .int .i64 x0.NextSeq, .int .i64 x0.Stamp, .int .i64 x0.NextValid], 0⟩, some ⟨[.lst false 1 (fl (encS false) x1.Disk.Sectors) x1.Disk.Sectors.length, .lst false 2 (fl (enc_TWrite false) x1.Disk.Cache) x1.Disk.Cache.length, .int .i64 x1.Segs, .lst false 4 (fl (enc_TSeg false) x1.Used) x1.Used.length, .int .i64 x1.NextGen, .int .i64 x1.NextSeq, .int .i64 x1.Stamp, .int .i64 x1.NextValid], 0⟩]) rfl rfl ?_
        refine RW.cond_t rfl (RW.sreg (rl.run 1 rfl (rl.done (RW.ret ?_))))
        cases h12
        exact RRet.mk rfl .bool (by first | decide | simp)
      ·have h13 := iteBT h9 hb
       refine rl.done (RW.cond_t rfl (RW.sreg (rl.run 1 rfl (rl.done ?_))))
       refine RW.keep [4] (a' := [(4, .bool false)]) (H' := [some ⟨[.lst false 1 (fl (encS false) x0.Disk.Sectors) x0.Disk.Sectors.length, .lst false 2 (fl (enc_TWrite false) x0.Disk.Cache) x0.Disk.Cache.length, .int .i64 x0.Segs, .lst false 4 (fl (enc_TSeg false) x0.Used) x0.Used.length, .int .i64 x0.NextGen, .int .i64 x0.NextSeq, .int .i64 x0.Stamp, .int .i64 x0.NextValid], 0⟩, some ⟨[.lst false 1 (fl (encS false) x1.Disk.Sectors) x1.Disk.Sectors.length, .lst false 2 (fl (enc_TWrite false) x1.Disk.Cache) x1.Disk.Cache.length, .int .i64 x1.Segs, .lst false 4 (fl (enc_TSeg false) x1.Used) x1.Used.length, .int .i64 x1.NextGen, .int .i64 x1.NextSeq, .int .i64 x1.Stamp, .int .i64 x1.NextValid], 0⟩]) rfl rfl ?_
       refine RW.ret ?_
       cases h13
       exact RRet.mk rfl .bool (by first | decide | simp)
     ·have h14 := iteBT h8 hb
      refine rl.done (RW.cond_t rfl (RW.sreg (rl.run 1 rfl (rl.done (RW.ret ?_)))))
      cases h14
      exact RRet.mk rfl .bool (by first | decide | simp)
    ·have h15 := iteBT h7 hb
     refine rl.done ?_
     refine RW.keep [2, 3, 26] (a' := [(2, .ptr 0 0), (3, .ptr 1 0), (26, .bool true)]) (H' := [some ⟨[.lst false 1 (fl (encS false) x0.Disk.Sectors) x0.Disk.Sectors.length, .lst false 2 (fl (enc_TWrite false) x0.Disk.Cache) x0.Disk.Cache.length, .int .i64 x0.Segs, .lst false 4 (fl (enc_TSeg false) x0.Used) x0.Used.length, .int .i64 x0.NextGen, .int .i64 x0.NextSeq, .int .i64 x0.Stamp, .int .i64 x0.NextValid], 0⟩, some ⟨[.lst false 1 (fl (encS false) x1.Disk.Sectors) x1.Disk.Sectors.length, .lst false 2 (fl (enc_TWrite false) x1.Disk.Cache) x1.Disk.Cache.length, .int .i64 x1.Segs, .lst false 4 (fl (enc_TSeg false) x1.Used) x1.Used.length, .int .i64 x1.NextGen, .int .i64 x1.NextSeq, .int .i64 x1.Stamp, .int .i64 x1.NextValid], 0⟩]) rfl rfl ?_
     refine RW.cond_t rfl (RW.sreg (rl.run 1 rfl (rl.done (RW.ret ?_))))
     cases h15
     exact RRet.mk rfl .bool (by first | decide | simp)
  ·have h16 := iteBT h3 hb
   refine rl.done ?_
   refine RW.keep [2, 3, 15] (a' := [(2, .ptr 0 0), (3, .ptr 1 0), (15, .bool true)]) (H' := [some ⟨[.lst false 1 (fl (encS false) x0.Disk.Sectors) x0.Disk.Sectors.length, .lst false 2 (fl (enc_TWrite false) x0.Disk.Cache) x0.Disk.Cache.length, .int .i64 x0.Segs, .lst false 4 (fl (enc_TSeg false) x0.Used) x0.Used.length, .int .i64 x0.NextGen, .int .i64 x0.NextSeq, .int .i64 x0.Stamp, .int .i64 x0.NextValid], 0⟩, some ⟨[.lst false 1 (fl (encS false) x1.Disk.Sectors) x1.Disk.Sectors.length, .lst false 2 (fl (enc_TWrite false) x1.Disk.Cache) x1.Disk.Cache.length, .int .i64 x1.Segs, .lst false 4 (fl (enc_TSeg false) x1.Used) x1.Used.length, .int .i64 x1.NextGen, .int .i64 x1.NextSeq, .int .i64 x1.Stamp, .int .i64 x1.NextValid], 0⟩]) rfl rfl ?_
   refine RW.cond_t rfl (RW.sreg (rl.run 1 rfl (rl.done (RW.ret ?_))))
   cases h16
   exact RRet.mk rfl .bool (by first | decide | simp)
theorem law_laws_markText {x0 : Int} {r : List UInt8} (hF : F_laws_markText x0 = some r) : PCalls Try.prog 74 [.int .i64 x0] (.str r) := by
 refine PCalls.of_r k_laws_markText rfl ?_
 unfold F_laws_markText at hF
 refine RW.sreg (rl.run 1 rfl (rl.done (RW.seq (RW.sreg (rl.run 1 rfl ?_)))))
 refine rl.gen rfl rfl fun b hb => ?_
 cases b
 ·have h1 := iteBF hF hb
  refine rl.done (RW.cond_f rfl (RW.skip (RW.sreg (rl.run 1 rfl (rl.done (RW.seq ?_))))))
  obtain ⟨y4, ey4, h3⟩ := bindS h1
  refine RW.cutq (σ := (List UInt8)) (fun y2 => [(3, .str y2)]) (fun y2 => []) (fun y => y4 = y) (fun _ _ _ _ g h => RW.gh g h) ?_ ?_
  ·refine RW.blk ?_
   refine RW.iter (σ := Int × (List UInt8)) ey4 (fun s1 => [(0, .int .i64 s1.1), (3, .str s1.2)]) (fun s1 => []) (Gh.ren0 [] .nil rfl (.cons rfl (.dat .int) (.cons rfl (.dat .str) .nil))) (fun s1 B o hS2 hB2 hE2 => ?_)
   unfold S_laws_markText_1 at hS2
   refine RW.seq (RW.sreg (rl.run 1 rfl ?_))
   refine rl.gen rfl rfl fun b hb => ?_
   cases b
   ·have h4 := iteBF hS2 hb
    refine rl.done (RW.cond_f rfl (RW.exit (blkA_eq ?_)))
    cases h4
    exact ⟨_, (hE2 _ rfl).symm, (Gh.ren0 [] .nil rfl (.cons rfl (.dat .str) .nil))⟩
   ·have h5 := iteBT hS2 hb
    refine rl.done (RW.cond_t rfl (RW.skip (RW.blk (RW.sreg (rl.run 5 rfl ?_)))))
    refine rl.op (x_cvb_sl (o := true) (l := [IntKind.u8.wrap (w64 (48 + (Int.tmod s1.1 10)))]) rfl rfl) ?_
    refine rl.run 1 rfl ?_
    obtain ⟨v3, e3, h6⟩ := bindS h5
    refine rl.op (x_cat rfl rfl e3) ?_
    refine rl.run 1 rfl (rl.done (RW.reg (rl.run 3 rfl (rl.done ?_))))
    cases h6
    exact hB2 _ rfl _ _ (Gh.ren0 [] .nil rfl (.cons rfl (.dat .int) (.cons rfl (.dat .str) .nil)))
  ·intro y2 hC
   subst hC
   refine RW.sreg (rl.run 1 rfl ?_)
   obtain ⟨v5, e5, h7⟩ := bindS h3
   refine rl.op (x_cat rfl rfl e5) ?_
   refine rl.run 1 rfl (rl.done (RW.ret ?_))
   cases h7
   exact RRet.mk rfl .str (by first | decide | simp)
 ·have h8 := iteBT hF hb
  refine rl.done (RW.cond_t rfl (RW.sreg (rl.run 1 rfl (rl.done (RW.ret ?_)))))
  cases h8
  exact RRet.mk rfl .str (by first | decide | simp)
theorem law_laws_markStringS_w {x0 : List (List UInt8)} {x1 : Int} {r : Int × (List (List UInt8))} (hF : F_laws_markStringS_w x0 x1 = some r) : ACalls Try.prog 0 91 [.sl 0 0 x0.length, .int .i64 x1] [some ⟨fl (encS true) x0, 1⟩] (.int .i64 r.1) [some ⟨fl (encS true) r.2, 1⟩] := by
 refine ACalls.of_s k_laws_markStringS rfl ?_
 unfold F_laws_markStringS_w at hF
 refine RW.sreg (rl.run 1 rfl (rl.done (RW.seq (RW.sreg (rl.run 1 rfl (rl.done ?_))))))
 obtain ⟨y6, ey6, h2⟩ := bindS hF
 refine RW.cutq (σ := Int × (List (List UInt8))) (fun y2 => [(1, .int .i64 y2.1)]) (fun y2 => [some ⟨fl (encS true) y2.2, 1⟩]) (fun y => y6 = y) (fun _ _ _ _ g h => RW.gh g h) ?_ ?_
 ·refine RW.blk ?_
  refine RW.iter (σ := Int × Int × (List (List UInt8))) ey6 (fun s1 => [(0, .sl 0 0 s1.2.2.length), (1, .int .i64 s1.1), (5, .int .i64 s1.2.1)]) (fun s1 => [some ⟨fl (encS true) s1.2.2, 1⟩]) (Gh.renN [0] (.same rfl (ekS.fref _ _) .nil) rfl rfl rfl (.cons rfl (.slq rfl rfl) (.cons rfl (.dat .int) (.cons rfl (.dat .int) .nil)))) (fun s1 B o hS1 hB1 hE1 => ?_)
  unfold S_laws_markStringS_w_1 at hS1
  refine RW.seq (RW.sreg (rl.run 3 rfl ?_))
  refine rl.gen rfl rfl fun b hb => ?_
  cases b
  ·have h3 := iteBF hS1 hb
   refine rl.done (RW.cond_f rfl (RW.exit (blkA_eq ?_)))
   cases h3
   exact ⟨_, (hE1 _ rfl).symm, (Gh.renN [0] (.same rfl (ekS.fref _ _) .nil) rfl rfl rfl (.cons rfl (.dat .int) .nil))⟩
  ·have h4 := iteBT hS1 hb
   refine rl.done (RW.cond_t rfl (RW.skip (RW.seq (RW.blk (RW.sreg (rl.run 3 rfl ?_))))))
   obtain ⟨v3, e3, h5⟩ := bindS h4
   refine rl.call rfl rfl rfl (CallW.val (r' := .str v3) ok_laws_markText (law_laws_markText e3) (.cons .int .nil) .refl ?_)
   obtain ⟨v4, e4, h6⟩ := bindS h5
   refine rl.op (x_ia_sl rfl rfl rfl rfl e4) ?_
   obtain ⟨v5, e5, h7⟩ := bindS h6
   refine rl.op0 (x_st_sl' (off' := 0) (o := true) (e' := v3) ekS e4 rfl rfl rfl rfl rfl rfl rfl rfl rfl e5) ?_
   refine rl.done (RW.reg (rl.run 3 rfl (rl.done (RW.reg (rl.run 3 rfl (rl.done ?_))))))
   cases h7
   exact hB1 _ rfl _ _ (Gh.renN [0] (.same rfl (ekS.fref _ _) .nil) rfl rfl rfl (.cons rfl (.slq rfl (set'_len e5)) (.cons rfl (.dat .int) (.cons rfl (.dat .int) .nil))))
 ·intro y2 hC
  subst hC
  refine RW.sreg (rl.run 2 rfl (rl.done (RW.ret ?_)))
  cases h2
  exact RRetS.mk rfl .int (Gh.renN [0] (.same rfl (ekS.fref _ _) .nil) rfl rfl rfl .nil)
theorem law_laws_markWriteS_w {x0 : List TWrite} {x1 : Int} {r : Int × (List TWrite)} (hF : F_laws_markWriteS_w x0 x1 = some r) : ACalls Try.prog 0 92 [.sl 0 0 x0.length, .int .i64 x1] [some ⟨fl (enc_TWrite true) x0, 2⟩] (.int .i64 r.1) [some ⟨fl (enc_TWrite true) r.2, 2⟩] := by
 refine ACalls.of_s k_laws_markWriteS rfl ?_
 unfold F_laws_markWriteS_w at hF
 refine RW.sreg (rl.run 1 rfl (rl.done (RW.seq (RW.sreg (rl.run 1 rfl (rl.done ?_))))))
 obtain ⟨y8, ey8, h2⟩ := bindS hF
 refine RW.cutq (σ := Int × (List TWrite)) (fun y2 => [(1, .int .i64 y2.1)]) (fun y2 => [some ⟨fl (enc_TWrite true) y2.2, 2⟩]) (fun y => y8 = y) (fun _ _ _ _ g h => RW.gh g h) ?_ ?_
 ·refine RW.blk ?_
  refine RW.iter (σ := Int × Int × (List TWrite)) ey8 (fun s1 => [(0, .sl 0 0 s1.2.2.length), (1, .int .i64 s1.1), (5, .int .i64 s1.2.1)]) (fun s1 => [some ⟨fl (enc_TWrite true) s1.2.2, 2⟩]) (Gh.renN [0] (.same rfl (ek_TWrite.fref _ _) .nil) rfl rfl rfl (.cons rfl (.slq rfl rfl) (.cons rfl (.dat .int) (.cons rfl (.dat .int) .nil)))) (fun s1 B o hS1 hB1 hE1 => ?_)
  unfold S_laws_markWriteS_w_1 at hS1
  refine RW.seq (RW.sreg (rl.run 3 rfl ?_))
  refine rl.gen rfl rfl fun b hb => ?_
  cases b
  ·have h3 := iteBF hS1 hb
   refine rl.done (RW.cond_f rfl (RW.exit (blkA_eq ?_)))
   cases h3
   exact ⟨_, (hE1 _ rfl).symm, (Gh.renN [0] (.same rfl (ek_TWrite.fref _ _) .nil) rfl rfl rfl (.cons rfl (.dat .int) .nil))⟩
  ·have h4 := iteBT hS1 hb
   refine rl.done (RW.cond_t rfl (RW.skip (RW.seq (RW.blk (RW.sreg (rl.run 3 rfl ?_))))))
   obtain ⟨v3, e3, h5⟩ := bindS h4
   refine rl.op (x_ia_sl rfl rfl rfl rfl e3) ?_
   refine rl.run 1 rfl ?_
   obtain ⟨v4, e4, h6⟩ := bindS h5
   refine rl.op0 (x_st_sl' (off' := 0) (o := true) (e' := ({ At := s1.1, Text := v3.Text } : TWrite)) ek_TWrite e3 rfl rfl rfl rfl rfl rfl rfl rfl rfl e4) ?_
   refine rl.done (RW.sreg (rl.run 3 rfl (rl.done ?_)))
   refine RW.keep [0, 1, 5] (a' := [(0, .sl 0 0 s1.2.2.length), (1, .int .i64 (w64 (s1.1 + 1))), (5, .int .i64 s1.2.1)]) (H' := [some ⟨fl (enc_TWrite true) v4, 2⟩]) rfl rfl ?_
   refine RW.sreg (rl.run 3 rfl ?_)
   obtain ⟨v5, e5, h7⟩ := bindS h6
   refine rl.call rfl rfl rfl (CallW.val (r' := .str v5) ok_laws_markText (law_laws_markText e5) (.cons .int .nil) .refl ?_)
   obtain ⟨v6, e6, h8⟩ := bindS h7
   refine rl.op (x_ia_sl rfl rfl rfl (set'_len e4) e6) ?_
   refine rl.run 1 rfl ?_
   obtain ⟨v7, e7, h9⟩ := bindS h8
   refine rl.op0 (x_st_sl' (off' := 1) (o := true) (e' := ({ At := v6.At, Text := v5 } : TWrite)) ek_TWrite e6 rfl rfl rfl rfl rfl rfl rfl rfl rfl e7) ?_
   refine rl.done (RW.reg (rl.run 3 rfl (rl.done (RW.reg (rl.run 3 rfl (rl.done ?_))))))
   cases h9
   exact hB1 _ rfl _ _ (Gh.renN [0] (.same rfl (ek_TWrite.fref _ _) .nil) rfl rfl rfl (.cons rfl (.slq rfl ((set'_len e4).trans (set'_len e7))) (.cons rfl (.dat .int) (.cons rfl (.dat .int) .nil))))
 ·intro y2 hC
  subst hC
  refine RW.sreg (rl.run 2 rfl (rl.done (RW.ret ?_)))
  cases h2
  exact RRetS.mk rfl .int (Gh.renN [0] (.same rfl (ek_TWrite.fref _ _) .nil) rfl rfl rfl .nil)
theorem law_laws_markDisk_w {x0 : List (List UInt8)} {x1 : List TWrite} {x2 : Int} {r : Int × (List (List UInt8)) × (List TWrite)} (hF : F_laws_markDisk_w x0 x1 x2 = some r) : ACalls Try.prog 0 45 [.agg [.sl 0 0 x0.length, .sl 1 0 x1.length], .int .i64 x2] [some ⟨fl (encS true) x0, 1⟩, some ⟨fl (enc_TWrite true) x1, 2⟩] (.int .i64 r.1) [some ⟨fl (encS true) r.2.1, 1⟩, some ⟨fl (enc_TWrite true) r.2.2, 2⟩] := by
 refine ACalls.of_s k_laws_markDisk rfl ?_
 unfold F_laws_markDisk_w at hF
 refine RW.sreg (rl.run 2 rfl (rl.done (RW.sreg (rl.run 3 rfl ?_))))
 obtain ⟨v1, e1, h1⟩ := bindS hF
 refine rl.call rfl rfl rfl (CallW.embW (r0 := .int .i64 v1.1) (H' := [some ⟨fl (encS true) v1.2, 1⟩, some ⟨fl (enc_TWrite true) x1, 2⟩, some ⟨[.sl 0 0 x0.length, .sl 1 0 x1.length], 0⟩]) [⟨fl (encS true) x0, 1⟩] [⟨fl (encS true) v1.2, 1⟩] [0] ok_laws_markStringS (law_laws_markStringS_w (guardO_s e1)) (.cons rfl (ekS.fref _ _) (ekS.fown _) .nil) rfl (.cons (.slq rfl rfl) (.cons (.dat .int) .nil)) .int rfl rfl ?_)
 refine rl.run 1 rfl (rl.done (RW.sreg (rl.run 3 rfl ?_)))
 obtain ⟨v2, e2, h2⟩ := bindS h1
 refine rl.call rfl rfl rfl (CallW.embW (r0 := .int .i64 v2.1) (H' := [some ⟨fl (encS true) v1.2, 1⟩, some ⟨fl (enc_TWrite true) v2.2, 2⟩, some ⟨[.sl 0 0 x0.length, .sl 1 0 x1.length], 0⟩]) [⟨fl (enc_TWrite true) x1, 2⟩] [⟨fl (enc_TWrite true) v2.2, 2⟩] [1] ok_laws_markWriteS (law_laws_markWriteS_w (guardO_s e2)) (.cons rfl (ek_TWrite.fref _ _) (ek_TWrite.fown _) .nil) rfl (.cons (.slq rfl rfl) (.cons (.dat .int) .nil)) .int rfl rfl ?_)
 refine rl.run 1 rfl (rl.done ?_)
 refine RW.keep [1] (a' := [(1, .int .i64 v2.1)]) (H' := [some ⟨fl (encS true) v1.2, 1⟩, some ⟨fl (enc_TWrite true) v2.2, 2⟩, some ⟨[.sl 0 0 x0.length, .sl 1 0 x1.length], 0⟩]) rfl rfl ?_
 refine RW.sreg (rl.run 2 rfl (rl.done (RW.ret ?_)))
 cases h2
 exact RRetS.mk rfl .int (Gh.renN [0, 1] (.same rfl (ekS.fref _ _) (.same rfl (ek_TWrite.fref _ _) .nil)) rfl rfl rfl .nil)
theorem law_laws_markItemS_w {x0 : List TItem} {x1 : Int} {r : Int × (List TItem)} (hF : F_laws_markItemS_w x0 x1 = some r) : ACalls Try.prog 0 23 [.sl 0 0 x0.length, .int .i64 x1] [some ⟨fl (enc_TItem true) x0, 9⟩] (.int .i64 r.1) [some ⟨fl (enc_TItem true) r.2, 9⟩] := by
 refine ACalls.of_s k_laws_markItemS rfl ?_
 unfold F_laws_markItemS_w at hF
 refine RW.sreg (rl.run 1 rfl (rl.done (RW.seq (RW.sreg (rl.run 1 rfl (rl.done ?_))))))
 obtain ⟨y24, ey24, h2⟩ := bindS hF
 refine RW.cutq (σ := Int × (List TItem)) (fun y2 => [(1, .int .i64 y2.1)]) (fun y2 => [some ⟨fl (enc_TItem true) y2.2, 9⟩]) (fun y => y24 = y) (fun _ _ _ _ g h => RW.gh g h) ?_ ?_
 ·refine RW.blk ?_
  refine RW.iter (σ := Int × Int × (List TItem)) ey24 (fun s1 => [(0, .sl 0 0 s1.2.2.length), (1, .int .i64 s1.1), (5, .int .i64 s1.2.1)]) (fun s1 => [some ⟨fl (enc_TItem true) s1.2.2, 9⟩]) (Gh.renN [0] (.same rfl (ek_TItem.fref _ _) .nil) rfl rfl rfl (.cons rfl (.slq rfl rfl) (.cons rfl (.dat .int) (.cons rfl (.dat .int) .nil)))) (fun s1 B o hS1 hB1 hE1 => ?_)
  unfold S_laws_markItemS_w_1 at hS1
  refine RW.seq (RW.sreg (rl.run 3 rfl ?_))
  refine rl.gen rfl rfl fun b hb => ?_
  cases b
  ·have h3 := iteBF hS1 hb
   refine rl.done (RW.cond_f rfl (RW.exit (blkA_eq ?_)))
   cases h3
   exact ⟨_, (hE1 _ rfl).symm, (Gh.renN [0] (.same rfl (ek_TItem.fref _ _) .nil) rfl rfl rfl (.cons rfl (.dat .int) .nil))⟩
  ·have h4 := iteBT hS1 hb
   refine rl.done (RW.cond_t rfl (RW.skip (RW.seq (RW.blk (RW.sreg (rl.run 3 rfl ?_))))))
   obtain ⟨v3, e3, h5⟩ := bindS h4
   refine rl.op (x_ia_sl rfl rfl rfl rfl e3) ?_
   refine rl.run 1 rfl ?_
   obtain ⟨v4, e4, h6⟩ := bindS h5
   refine rl.op0 (x_st_sl' (off' := 0) (o := true) (e' := ({ Seq := s1.1, Rec := v3.Rec } : TItem)) ek_TItem e3 rfl rfl rfl rfl rfl rfl rfl rfl rfl e4) ?_
   refine rl.done (RW.sreg (rl.run 3 rfl (rl.done ?_)))
   refine RW.keep [0, 1, 5] (a' := [(0, .sl 0 0 s1.2.2.length), (1, .int .i64 (w64 (s1.1 + 1))), (5, .int .i64 s1.2.1)]) (H' := [some ⟨fl (enc_TItem true) v4, 9⟩]) rfl rfl ?_
   refine RW.sreg (rl.run 3 rfl ?_)
   obtain ⟨v5, e5, h7⟩ := bindS h6
   refine rl.op (x_ia_sl rfl rfl rfl (set'_len e4) e5) ?_
   refine rl.run 2 rfl ?_
   obtain ⟨v6, e6, h8⟩ := bindS h7
   refine rl.op0 (x_st_sl' (off' := 1) (o := true) (e' := ({ Seq := v5.Seq, Rec := ({ Kind := w64 (s1.1 + 1), Valid := v5.Rec.Valid, Uid := v5.Rec.Uid, Next := v5.Rec.Next, Flags := v5.Rec.Flags, User := v5.Rec.User, Name := v5.Rec.Name, Text := v5.Rec.Text } : TRec) } : TItem)) ek_TItem e5 rfl rfl rfl rfl rfl rfl rfl rfl rfl e6) ?_
   refine rl.done (RW.sreg (rl.run 3 rfl (rl.done (RW.sreg (rl.run 3 rfl ?_)))))
   obtain ⟨v7, e7, h9⟩ := bindS h8
   refine rl.op (x_ia_sl rfl rfl rfl ((set'_len e4).trans (set'_len e6)) e7) ?_
   refine rl.run 2 rfl ?_
   obtain ⟨v8, e8, h10⟩ := bindS h9
   refine rl.op0 (x_st_sl' (off' := 2) (o := true) (e' := ({ Seq := v7.Seq, Rec := ({ Kind := v7.Rec.Kind, Valid := w64 ((w64 (s1.1 + 1)) + 1), Uid := v7.Rec.Uid, Next := v7.Rec.Next, Flags := v7.Rec.Flags, User := v7.Rec.User, Name := v7.Rec.Name, Text := v7.Rec.Text } : TRec) } : TItem)) ek_TItem e7 rfl rfl rfl rfl rfl rfl rfl rfl rfl e8) ?_
   refine rl.done ?_
   refine RW.keep [0, 1, 5] (a' := [(0, .sl 0 0 s1.2.2.length), (1, .int .i64 (w64 ((w64 (s1.1 + 1)) + 1))), (5, .int .i64 s1.2.1)]) (H' := [some ⟨fl (enc_TItem true) v8, 9⟩]) rfl rfl ?_
   refine RW.sreg (rl.run 3 rfl (rl.done (RW.sreg (rl.run 3 rfl ?_))))
   obtain ⟨v9, e9, h11⟩ := bindS h10
   refine rl.op (x_ia_sl rfl rfl rfl (((set'_len e4).trans (set'_len e6)).trans (set'_len e8)) e9) ?_
   refine rl.run 2 rfl ?_
   obtain ⟨v10, e10, h12⟩ := bindS h11
   refine rl.op0 (x_st_sl' (off' := 3) (o := true) (e' := ({ Seq := v9.Seq, Rec := ({ Kind := v9.Rec.Kind, Valid := v9.Rec.Valid, Uid := w64 ((w64 ((w64 (s1.1 + 1)) + 1)) + 1), Next := v9.Rec.Next, Flags := v9.Rec.Flags, User := v9.Rec.User, Name := v9.Rec.Name, Text := v9.Rec.Text } : TRec) } : TItem)) ek_TItem e9 rfl rfl rfl rfl rfl rfl rfl rfl rfl e10) ?_
   refine rl.done (RW.sreg (rl.run 3 rfl (rl.done (RW.sreg (rl.run 3 rfl ?_)))))
   obtain ⟨v11, e11, h13⟩ := bindS h12
   refine rl.op (x_ia_sl rfl rfl rfl ((((set'_len e4).trans (set'_len e6)).trans (set'_len e8)).trans (set'_len e10)) e11) ?_
   refine rl.run 2 rfl ?_
   obtain ⟨v12, e12, h14⟩ := bindS h13
   refine rl.op0 (x_st_sl' (off' := 4) (o := true) (e' := ({ Seq := v11.Seq, Rec := ({ Kind := v11.Rec.Kind, Valid := v11.Rec.Valid, Uid := v11.Rec.Uid, Next := w64 ((w64 ((w64 ((w64 (s1.1 + 1)) + 1)) + 1)) + 1), Flags := v11.Rec.Flags, User := v11.Rec.User, Name := v11.Rec.Name, Text := v11.Rec.Text } : TRec) } : TItem)) ek_TItem e11 rfl rfl rfl rfl rfl rfl rfl rfl rfl e12) ?_
   refine rl.done ?_
   refine RW.keep [0, 1, 5] (a' := [(0, .sl 0 0 s1.2.2.length), (1, .int .i64 (w64 ((w64 ((w64 ((w64 (s1.1 + 1)) + 1)) + 1)) + 1))), (5, .int .i64 s1.2.1)]) (H' := [some ⟨fl (enc_TItem true) v12, 9⟩]) rfl rfl ?_
   refine RW.sreg (rl.run 3 rfl (rl.done (RW.sreg (rl.run 3 rfl ?_))))
   obtain ⟨v13, e13, h15⟩ := bindS h14
   refine rl.op (x_ia_sl rfl rfl rfl (((((set'_len e4).trans (set'_len e6)).trans (set'_len e8)).trans (set'_len e10)).trans (set'_len e12)) e13) ?_
   refine rl.run 2 rfl ?_
   obtain ⟨v14, e14, h16⟩ := bindS h15
   refine rl.op0 (x_st_sl' (off' := 5) (o := true) (e' := ({ Seq := v13.Seq, Rec := ({ Kind := v13.Rec.Kind, Valid := v13.Rec.Valid, Uid := v13.Rec.Uid, Next := v13.Rec.Next, Flags := w64 ((w64 ((w64 ((w64 ((w64 (s1.1 + 1)) + 1)) + 1)) + 1)) + 1), User := v13.Rec.User, Name := v13.Rec.Name, Text := v13.Rec.Text } : TRec) } : TItem)) ek_TItem e13 rfl rfl rfl rfl rfl rfl rfl rfl rfl e14) ?_
   refine rl.done (RW.sreg (rl.run 3 rfl (rl.done (RW.sreg (rl.run 3 rfl ?_)))))
   obtain ⟨v15, e15, h17⟩ := bindS h16
   refine rl.call rfl rfl rfl (CallW.val (r' := .str v15) ok_laws_markText (law_laws_markText e15) (.cons .int .nil) .refl ?_)
   obtain ⟨v16, e16, h18⟩ := bindS h17
   refine rl.op (x_ia_sl rfl rfl rfl ((((((set'_len e4).trans (set'_len e6)).trans (set'_len e8)).trans (set'_len e10)).trans (set'_len e12)).trans (set'_len e14)) e16) ?_
   refine rl.run 2 rfl ?_
   obtain ⟨v17, e17, h19⟩ := bindS h18
   refine rl.op0 (x_st_sl' (off' := 6) (o := true) (e' := ({ Seq := v16.Seq, Rec := ({ Kind := v16.Rec.Kind, Valid := v16.Rec.Valid, Uid := v16.Rec.Uid, Next := v16.Rec.Next, Flags := v16.Rec.Flags, User := v15, Name := v16.Rec.Name, Text := v16.Rec.Text } : TRec) } : TItem)) ek_TItem e16 rfl rfl rfl rfl rfl rfl rfl rfl rfl e17) ?_
   refine rl.done ?_
   refine RW.keep [0, 1, 5] (a' := [(0, .sl 0 0 s1.2.2.length), (1, .int .i64 (w64 ((w64 ((w64 ((w64 ((w64 ((w64 (s1.1 + 1)) + 1)) + 1)) + 1)) + 1)) + 1))), (5, .int .i64 s1.2.1)]) (H' := [some ⟨fl (enc_TItem true) v17, 9⟩]) rfl rfl ?_
   refine RW.sreg (rl.run 3 rfl (rl.done (RW.sreg (rl.run 3 rfl ?_))))
   obtain ⟨v18, e18, h20⟩ := bindS h19
   refine rl.call rfl rfl rfl (CallW.val (r' := .str v18) ok_laws_markText (law_laws_markText e18) (.cons .int .nil) .refl ?_)
   obtain ⟨v19, e19, h21⟩ := bindS h20
   refine rl.op (x_ia_sl rfl rfl rfl (((((((set'_len e4).trans (set'_len e6)).trans (set'_len e8)).trans (set'_len e10)).trans (set'_len e12)).trans (set'_len e14)).trans (set'_len e17)) e19) ?_
   refine rl.run 2 rfl ?_
   obtain ⟨v20, e20, h22⟩ := bindS h21
   refine rl.op0 (x_st_sl' (off' := 7) (o := true) (e' := ({ Seq := v19.Seq, Rec := ({ Kind := v19.Rec.Kind, Valid := v19.Rec.Valid, Uid := v19.Rec.Uid, Next := v19.Rec.Next, Flags := v19.Rec.Flags, User := v19.Rec.User, Name := v18, Text := v19.Rec.Text } : TRec) } : TItem)) ek_TItem e19 rfl rfl rfl rfl rfl rfl rfl rfl rfl e20) ?_
   refine rl.done (RW.sreg (rl.run 3 rfl (rl.done ?_)))
   refine RW.keep [0, 1, 5] (a' := [(0, .sl 0 0 s1.2.2.length), (1, .int .i64 (w64 ((w64 ((w64 ((w64 ((w64 ((w64 ((w64 ((w64 (s1.1 + 1)) + 1)) + 1)) + 1)) + 1)) + 1)) + 1)) + 1))), (5, .int .i64 s1.2.1)]) (H' := [some ⟨fl (enc_TItem true) v20, 9⟩]) rfl rfl ?_
   refine RW.sreg (rl.run 3 rfl ?_)
   obtain ⟨v21, e21, h23⟩ := bindS h22
   refine rl.call rfl rfl rfl (CallW.val (r' := .str v21) ok_laws_markText (law_laws_markText e21) (.cons .int .nil) .refl ?_)
   obtain ⟨v22, e22, h24⟩ := bindS h23
   refine rl.op (x_ia_sl rfl rfl rfl ((((((((set'_len e4).trans (set'_len e6)).trans (set'_len e8)).trans (set'_len e10)).trans (set'_len e12)).trans (set'_len e14)).trans (set'_len e17)).trans (set'_len e20)) e22) ?_
   refine rl.run 2 rfl ?_
   obtain ⟨v23, e23, h25⟩ := bindS h24
   refine rl.op0 (x_st_sl' (off' := 8) (o := true) (e' := ({ Seq := v22.Seq, Rec := ({ Kind := v22.Rec.Kind, Valid := v22.Rec.Valid, Uid := v22.Rec.Uid, Next := v22.Rec.Next, Flags := v22.Rec.Flags, User := v22.Rec.User, Name := v22.Rec.Name, Text := v21 } : TRec) } : TItem)) ek_TItem e22 rfl rfl rfl rfl rfl rfl rfl rfl rfl e23) ?_
   refine rl.done (RW.reg (rl.run 3 rfl (rl.done (RW.reg (rl.run 3 rfl (rl.done ?_))))))
   cases h25
   exact hB1 _ rfl _ _ (Gh.renN [0] (.same rfl (ek_TItem.fref _ _) .nil) rfl rfl rfl (.cons rfl (.slq rfl (((((((((set'_len e4).trans (set'_len e6)).trans (set'_len e8)).trans (set'_len e10)).trans (set'_len e12)).trans (set'_len e14)).trans (set'_len e17)).trans (set'_len e20)).trans (set'_len e23))) (.cons rfl (.dat .int) (.cons rfl (.dat .int) .nil))))
 ·intro y2 hC
  subst hC
  refine RW.sreg (rl.run 2 rfl (rl.done (RW.ret ?_)))
  cases h2
  exact RRetS.mk rfl .int (Gh.renN [0] (.same rfl (ek_TItem.fref _ _) .nil) rfl rfl rfl .nil)
theorem law_laws_markSegS_w {x0 : List TSeg} {x1 : Int} {r : Int × (List TSeg)} (hF : F_laws_markSegS_w x0 x1 = some r) : ACalls Try.prog 0 75 [.sl 0 0 x0.length, .int .i64 x1] [some ⟨fl (enc_TSeg true) x0, 4⟩] (.int .i64 r.1) [some ⟨fl (enc_TSeg true) r.2, 4⟩] := by
 refine ACalls.of_s k_laws_markSegS rfl ?_
 unfold F_laws_markSegS_w at hF
 refine RW.sreg (rl.run 1 rfl (rl.done (RW.seq (RW.sreg (rl.run 1 rfl (rl.done ?_))))))
 obtain ⟨y12, ey12, h2⟩ := bindS hF
 refine RW.cutq (σ := Int × (List TSeg)) (fun y2 => [(1, .int .i64 y2.1)]) (fun y2 => [some ⟨fl (enc_TSeg true) y2.2, 4⟩]) (fun y => y12 = y) (fun _ _ _ _ g h => RW.gh g h) ?_ ?_
 ·refine RW.blk ?_
  refine RW.iter (σ := Int × Int × (List TSeg)) ey12 (fun s1 => [(0, .sl 0 0 s1.2.2.length), (1, .int .i64 s1.1), (5, .int .i64 s1.2.1)]) (fun s1 => [some ⟨fl (enc_TSeg true) s1.2.2, 4⟩]) (Gh.renN [0] (.same rfl (ek_TSeg.fref _ _) .nil) rfl rfl rfl (.cons rfl (.slq rfl rfl) (.cons rfl (.dat .int) (.cons rfl (.dat .int) .nil)))) (fun s1 B o hS1 hB1 hE1 => ?_)
  unfold S_laws_markSegS_w_1 at hS1
  refine RW.seq (RW.sreg (rl.run 3 rfl ?_))
  refine rl.gen rfl rfl fun b hb => ?_
  cases b
  ·have h3 := iteBF hS1 hb
   refine rl.done (RW.cond_f rfl (RW.exit (blkA_eq ?_)))
   cases h3
   exact ⟨_, (hE1 _ rfl).symm, (Gh.renN [0] (.same rfl (ek_TSeg.fref _ _) .nil) rfl rfl rfl (.cons rfl (.dat .int) .nil))⟩
  ·have h4 := iteBT hS1 hb
   refine rl.done (RW.cond_t rfl (RW.skip (RW.seq (RW.blk (RW.sreg (rl.run 3 rfl ?_))))))
   obtain ⟨v3, e3, h5⟩ := bindS h4
   refine rl.op (x_ia_sl rfl rfl rfl rfl e3) ?_
   refine rl.run 1 rfl ?_
   obtain ⟨v4, e4, h6⟩ := bindS h5
   refine rl.op0 (x_st_sl' (off' := 0) (o := true) (e' := ({ No := s1.1, Gen := v3.Gen, End := v3.End, Items := v3.Items } : TSeg)) ek_TSeg e3 rfl rfl rfl rfl rfl rfl rfl rfl rfl e4) ?_
   refine rl.done (RW.sreg (rl.run 3 rfl (rl.done ?_)))
   refine RW.keep [0, 1, 5] (a' := [(0, .sl 0 0 s1.2.2.length), (1, .int .i64 (w64 (s1.1 + 1))), (5, .int .i64 s1.2.1)]) (H' := [some ⟨fl (enc_TSeg true) v4, 4⟩]) rfl rfl ?_
   refine RW.sreg (rl.run 3 rfl ?_)
   obtain ⟨v5, e5, h7⟩ := bindS h6
   refine rl.op (x_ia_sl rfl rfl rfl (set'_len e4) e5) ?_
   refine rl.run 1 rfl ?_
   obtain ⟨v6, e6, h8⟩ := bindS h7
   refine rl.op0 (x_st_sl' (off' := 1) (o := true) (e' := ({ No := v5.No, Gen := w64 (s1.1 + 1), End := v5.End, Items := v5.Items } : TSeg)) ek_TSeg e5 rfl rfl rfl rfl rfl rfl rfl rfl rfl e6) ?_
   refine rl.done (RW.sreg (rl.run 3 rfl (rl.done (RW.sreg (rl.run 3 rfl ?_)))))
   obtain ⟨v7, e7, h9⟩ := bindS h8
   refine rl.op (x_ia_sl rfl rfl rfl ((set'_len e4).trans (set'_len e6)) e7) ?_
   refine rl.run 1 rfl ?_
   obtain ⟨v8, e8, h10⟩ := bindS h9
   refine rl.op0 (x_st_sl' (off' := 2) (o := true) (e' := ({ No := v7.No, Gen := v7.Gen, End := w64 ((w64 (s1.1 + 1)) + 1), Items := v7.Items } : TSeg)) ek_TSeg e7 rfl rfl rfl rfl rfl rfl rfl rfl rfl e8) ?_
   refine rl.done ?_
   refine RW.keep [0, 1, 5] (a' := [(0, .sl 0 0 s1.2.2.length), (1, .int .i64 (w64 ((w64 (s1.1 + 1)) + 1))), (5, .int .i64 s1.2.1)]) (H' := [some ⟨fl (enc_TSeg true) v8, 4⟩]) rfl rfl ?_
   refine RW.sreg (rl.run 3 rfl (rl.done ?_))
   obtain ⟨v9, e9, h11⟩ := bindS h10
   refine RW.gh (Gh.blk (b := 0) rfl (raw_at ek_TSeg e9)) ?_
   refine RW.gh (Gh.expose_raw (b := 0) (j := 3) rfl rfl (by decide) (ek_TItem.fown _)) ?_
   refine RW.reg (rl.run 2 rfl ?_)
   refine rl.op (x_ia_sl rfl rfl rfl (((set'_len e4).trans (set'_len e6)).trans (set'_len e8)) e9) ?_
   refine rl.run 1 rfl ?_
   refine rl.op (x_ld_raw (off' := 3) ek_TSeg rfl rfl e9 rfl rfl) ?_
   refine rl.run 1 rfl ?_
   obtain ⟨v10, e10, h12⟩ := bindS h11
   refine rl.call rfl rfl rfl (CallW.embW (r0 := .int .i64 v10.1) (H' := [some ⟨fl (enc_TSeg true) (v8.take s1.2.1.toNat) ++ ([.int .i64 v9.No, .int .i64 v9.Gen, .int .i64 v9.End, .sl 1 0 v9.Items.length] ++ fl (enc_TSeg true) (v8.drop (s1.2.1.toNat + 1))), 4⟩, some ⟨fl (enc_TItem true) v10.2, 9⟩]) [⟨fl (enc_TItem true) v9.Items, 9⟩] [⟨fl (enc_TItem true) v10.2, 9⟩] [1] ok_laws_markItemS (law_laws_markItemS_w (guardO_s e10)) (.cons rfl (ek_TItem.fref _ _) (ek_TItem.fown _) .nil) rfl (.cons (.slq rfl rfl) (.cons (.dat .int) .nil)) .int rfl rfl ?_)
   refine rl.run 1 rfl (rl.done ?_)
   refine RW.gh (Gh.absorb_rawq (b := 0) (j := 3) (m := 1) rfl rfl rfl (by decide) (by decide) (guardO_p (p := fun r : Int × (List TItem) => v9.Items.length = r.2.length) e10) (ek_TItem.flen true _) (ek_TItem.fown _)) ?_
   obtain ⟨v11, e11, h13⟩ := bindS h12
   refine RW.gh (Gh.blk (b := 0) rfl (raw_set ek_TSeg e9 e11 rfl)) ?_
   refine RW.reg (rl.run 3 rfl (rl.done ?_))
   cases h13
   exact hB1 _ rfl _ _ (Gh.renN [0] (.same rfl (ek_TSeg.fref _ _) .nil) rfl rfl rfl (.cons rfl (.slq rfl ((((set'_len e4).trans (set'_len e6)).trans (set'_len e8)).trans (set'_len e11))) (.cons rfl (.dat .int) (.cons rfl (.dat .int) .nil))))
 ·intro y2 hC
  subst hC
  refine RW.sreg (rl.run 2 rfl (rl.done (RW.ret ?_)))
  cases h2
  exact RRetS.mk rfl .int (Gh.renN [0] (.same rfl (ek_TSeg.fref _ _) .nil) rfl rfl rfl .nil)
theorem law_laws_markLog_w {x0 : List (List UInt8)} {x1 : List TWrite} {x2 : Int} {x3 : List TSeg} {x4 : Int} {x5 : Int} {x6 : Int} {x7 : Int} {x8 : Int} {r : Int × (List (List UInt8)) × (List TWrite) × (List TSeg)} (hF : F_laws_markLog_w x0 x1 x2 x3 x4 x5 x6 x7 x8 = some r) : ACalls Try.prog 0 28 [.agg [.sl 0 0 x0.length, .sl 1 0 x1.length, .int .i64 x2, .sl 2 0 x3.length, .int .i64 x4, .int .i64 x5, .int .i64 x6, .int .i64 x7], .int .i64 x8] [some ⟨fl (encS true) x0, 1⟩, some ⟨fl (enc_TWrite true) x1, 2⟩, some ⟨fl (enc_TSeg true) x3, 4⟩] (.int .i64 r.1) [some ⟨fl (encS true) r.2.1, 1⟩, some ⟨fl (enc_TWrite true) r.2.2.1, 2⟩, some ⟨fl (enc_TSeg true) r.2.2.2, 4⟩] := by
 refine ACalls.of_s k_laws_markLog rfl ?_
 unfold F_laws_markLog_w at hF
 refine RW.sreg (rl.run 2 rfl (rl.done (RW.sreg (rl.run 3 rfl ?_))))
 obtain ⟨v1, e1, h1⟩ := bindS hF
 refine rl.call rfl rfl rfl (CallW.embW (r0 := .int .i64 v1.1) (H' := [some ⟨fl (encS true) v1.2.1, 1⟩, some ⟨fl (enc_TWrite true) v1.2.2, 2⟩, some ⟨fl (enc_TSeg true) x3, 4⟩, some ⟨[.sl 0 0 x0.length, .sl 1 0 x1.length, .int .i64 x2, .sl 2 0 x3.length, .int .i64 x4, .int .i64 x5, .int .i64 x6, .int .i64 x7], 0⟩]) [⟨fl (encS true) x0, 1⟩, ⟨fl (enc_TWrite true) x1, 2⟩] [⟨fl (encS true) v1.2.1, 1⟩, ⟨fl (enc_TWrite true) v1.2.2, 2⟩] [0, 1] ok_laws_markDisk (law_laws_markDisk_w (guardO_s e1)) (.cons rfl (ekS.fref _ _) (ekS.fown _) (.cons rfl (ek_TWrite.fref _ _) (ek_TWrite.fown _) .nil)) rfl (.cons (RnL.agg (.cons (.slq rfl rfl) (.cons (.slq rfl rfl) .nil))) (.cons (.dat .int) .nil)) .int rfl rfl ?_)
 refine rl.run 1 rfl (rl.done (RW.sreg (rl.run 3 rfl ?_)))
 obtain ⟨v2, e2, h2⟩ := bindS h1
 refine rl.call rfl rfl rfl (CallW.embW (r0 := .int .i64 v2.1) (H' := [some ⟨fl (encS true) v1.2.1, 1⟩, some ⟨fl (enc_TWrite true) v1.2.2, 2⟩, some ⟨fl (enc_TSeg true) v2.2, 4⟩, some ⟨[.sl 0 0 x0.length, .sl 1 0 x1.length, .int .i64 x2, .sl 2 0 x3.length, .int .i64 x4, .int .i64 x5, .int .i64 x6, .int .i64 x7], 0⟩]) [⟨fl (enc_TSeg true) x3, 4⟩] [⟨fl (enc_TSeg true) v2.2, 4⟩] [2] ok_laws_markSegS (law_laws_markSegS_w (guardO_s e2)) (.cons rfl (ek_TSeg.fref _ _) (ek_TSeg.fown _) .nil) rfl (.cons (.slq rfl rfl) (.cons (.dat .int) .nil)) .int rfl rfl ?_)
 refine rl.run 1 rfl (rl.done ?_)
 refine RW.keep [1] (a' := [(1, .int .i64 v2.1)]) (H' := [some ⟨fl (encS true) v1.2.1, 1⟩, some ⟨fl (enc_TWrite true) v1.2.2, 2⟩, some ⟨fl (enc_TSeg true) v2.2, 4⟩, some ⟨[.sl 0 0 x0.length, .sl 1 0 x1.length, .int .i64 x2, .sl 2 0 x3.length, .int .i64 x4, .int .i64 x5, .int .i64 x6, .int .i64 x7], 0⟩]) rfl rfl ?_
 refine RW.sreg (rl.run 2 rfl (rl.done (RW.ret ?_)))
 cases h2
 exact RRetS.mk rfl .int (Gh.renN [0, 1, 2] (.same rfl (ekS.fref _ _) (.same rfl (ek_TWrite.fref _ _) (.same rfl (ek_TSeg.fref _ _) .nil))) rfl rfl rfl .nil)
theorem law_spec_CheckOf {x0 : TLog} {r : TCheck} (hF : F_spec_CheckOf x0 = some r) : PCalls Try.prog 35 [.agg (enc_TLog false x0)] (.agg (enc_TCheck true r)) := by
 refine PCalls.of_r k_spec_CheckOf rfl ?_
 unfold F_spec_CheckOf at hF
 refine RW.sreg (rl.run 2 rfl (rl.done (RW.sreg (rl.run 12 rfl (rl.done ?_)))))
 refine RW.keep [1, 2, 3] (a' := [(1, .ptr 0 0), (2, .ptr 1 0), (3, .ptr 2 0)]) (H' := [some ⟨[.lst false 1 (fl (encS false) x0.Disk.Sectors) x0.Disk.Sectors.length, .lst false 2 (fl (enc_TWrite false) x0.Disk.Cache) x0.Disk.Cache.length, .int .i64 x0.Segs, .lst false 4 (fl (enc_TSeg false) x0.Used) x0.Used.length, .int .i64 x0.NextGen, .int .i64 x0.NextSeq, .int .i64 x0.Stamp, .int .i64 x0.NextValid], 0⟩, some ⟨[.int .i64 0, .int .i64 0, .int .i64 0, .int .i64 0, .nils], 0⟩, some ⟨[.int .i64 (w64 (x0.Stamp + 1)), .int .i64 x0.NextGen, .int .i64 x0.NextSeq, .int .i64 x0.NextValid, .nils], 0⟩]) rfl rfl ?_
 refine RW.seq (RW.sreg (rl.run 1 rfl (rl.done ?_)))
 refine RW.gh (Gh.nil_c 2 4 2 rfl rfl) ?_
 obtain ⟨y6, ey6, h2⟩ := bindS hF
 refine RW.cutq (σ := (List TRef)) (fun y2 => [(2, .ptr 0 0), (3, .ptr 1 0)]) (fun y2 => [some ⟨[.int .i64 0, .int .i64 0, .int .i64 0, .int .i64 0, .nils], 0⟩, some ⟨[.int .i64 (w64 (x0.Stamp + 1)), .int .i64 x0.NextGen, .int .i64 x0.NextSeq, .int .i64 x0.NextValid, .sl 2 0 y2.length], 0⟩, some ⟨fl (enc_TRef true) y2, 2⟩]) (fun y => y6 = y) (fun _ _ _ _ g h => RW.gh g h) ?_ ?_
 ·refine RW.blk ?_
  refine RW.iter (σ := Int × (List TRef)) ey6 (fun s1 => [(1, .ptr 0 0), (2, .ptr 1 0), (3, .ptr 2 0), (4, .int .i64 s1.1)]) (fun s1 => [some ⟨[.lst false 1 (fl (encS false) x0.Disk.Sectors) x0.Disk.Sectors.length, .lst false 2 (fl (enc_TWrite false) x0.Disk.Cache) x0.Disk.Cache.length, .int .i64 x0.Segs, .lst false 4 (fl (enc_TSeg false) x0.Used) x0.Used.length, .int .i64 x0.NextGen, .int .i64 x0.NextSeq, .int .i64 x0.Stamp, .int .i64 x0.NextValid], 0⟩, some ⟨[.int .i64 0, .int .i64 0, .int .i64 0, .int .i64 0, .nils], 0⟩, some ⟨[.int .i64 (w64 (x0.Stamp + 1)), .int .i64 x0.NextGen, .int .i64 x0.NextSeq, .int .i64 x0.NextValid, .sl 3 0 s1.2.length], 0⟩, some ⟨fl (enc_TRef true) s1.2, 2⟩]) (Gh.ren0 [0, 1, 2, 3] (.cells rfl rfl (.keep (ekS.rlst) (.keep (ek_TWrite.rlst) (.keep .int (.keep (ek_TSeg.rlst) (.keep .int (.keep .int (.keep .int (.keep .int .nil)))))))) (.cells rfl rfl (.keep .int (.keep .int (.keep .int (.keep .int (.keep .nils .nil))))) (.cells rfl rfl (.keep .int (.keep .int (.keep .int (.keep .int (.slq rfl rfl .nil))))) (.same rfl (ek_TRef.fref _ _) .nil)))) rfl (.cons rfl (.ptr rfl) (.cons rfl (.ptr rfl) (.cons rfl (.ptr rfl) (.cons rfl (.dat .int) .nil))))) (fun s1 B o hS1 hB1 hE1 => ?_)
  unfold S_spec_CheckOf_1 at hS1
  refine RW.seq (RW.sreg (rl.run 4 rfl ?_))
  refine rl.gen rfl rfl fun b hb => ?_
  cases b
  ·have h3 := iteBF hS1 hb
   refine rl.done (RW.cond_f rfl (RW.exit (blkA_eq ?_)))
   cases h3
   exact ⟨_, (hE1 _ rfl).symm, (Gh.ren0 [1, 2, 3] (.cells rfl rfl (.keep .int (.keep .int (.keep .int (.keep .int (.keep .nils .nil))))) (.cells rfl rfl (.keep .int (.keep .int (.keep .int (.keep .int (.slq rfl rfl .nil))))) (.same rfl (ek_TRef.fref _ _) .nil))) rfl (.cons rfl (.ptr rfl) (.cons rfl (.ptr rfl) .nil)))⟩
  ·have h4 := iteBT hS1 hb
   refine rl.done (RW.cond_t rfl (RW.skip (RW.seq (RW.blk (RW.drw (rdraw.op rfl rfl (rdraw.op rfl rfl (rdraw.op rfl rfl (rdraw.op rfl rfl (rdraw.op rfl rfl ?_))))))))))
   obtain ⟨v3, e3, h5⟩ := bindS h4
   refine rdraw.op rfl (x_ia_lst (enc := enc_TSeg) (o := false) rfl rfl rfl e3) ?_
   refine rdraw.op rfl rfl ?_
   refine rdraw.op rfl (x_ld_el (off' := 0) ek_TSeg rfl e3 rfl rfl rfl) ?_
   refine rdraw.op rfl rfl (rdraw.op rfl rfl (rdraw.op rfl rfl ?_))
   obtain ⟨v4, e4, h6⟩ := bindS h5
   refine rdraw.op rfl (x_ia_lst (enc := enc_TSeg) (o := false) rfl rfl rfl e4) ?_
   refine rdraw.op rfl rfl ?_
   refine rdraw.op rfl (x_ld_el (off' := 1) ek_TSeg rfl e4 rfl rfl rfl) ?_
   refine rdraw.op rfl rfl ?_
   refine rdraw.chnB rfl rfl (.skip rfl (.skip rfl (.skip rfl (.skip rfl (.skip rfl (.skip rfl (.skip rfl (.skip rfl (.skip rfl (.skip rfl (.skip rfl (.skip rfl (.skip rfl (.here (.rx rfl) (.here (.rx rfl) .nil))))))))))))))) ?_
   obtain ⟨v5, e5, h7⟩ := bindS h6
   refine rdraw.chn rfl (x_app rfl rfl (rapp_sl (l := s1.2) (m := [({ No := v3.No, Gen := v4.Gen } : TRef)]) (o := true) ek_TRef rfl rfl (acont_slq (m := [({ No := v3.No, Gen := v4.Gen } : TRef)]) (o := true) fk_TRef rfl rfl) rfl (fk_TRef.fst _ _) e5)) ?_
   refine rdraw.op rfl rfl ?_
   refine rdraw.chn rfl rfl ?_
   refine rdraw.done (RW.reg (rl.run 3 rfl (rl.done ?_)))
   cases h7
   exact hB1 _ rfl _ _ (Gh.ren0 [0, 1, 2, 5] (.cells rfl rfl (.keep (ekS.rlst) (.keep (ek_TWrite.rlst) (.keep .int (.keep (ek_TSeg.rlst) (.keep .int (.keep .int (.keep .int (.keep .int .nil)))))))) (.cells rfl rfl (.keep .int (.keep .int (.keep .int (.keep .int (.keep .nils .nil))))) (.cells rfl rfl (.keep .int (.keep .int (.keep .int (.keep .int (.slq rfl rfl .nil))))) (.same rfl (ek_TRef.fref _ _) .nil)))) rfl (.cons rfl (.ptr rfl) (.cons rfl (.ptr rfl) (.cons rfl (.ptr rfl) (.cons rfl (.dat .int) .nil)))))
 ·intro y2 hC
  subst hC
  refine RW.sreg (rl.run 2 rfl (rl.done (RW.ret ?_)))
  cases h2
  exact RRet.mk rfl (OutL.agg (.cons .int rfl (.cons .int rfl (.cons .int rfl (.cons .int rfl (.cons (OutR.ownq ek_TRef rfl rfl) rfl .nil)))))) (by first | decide | simp)
theorem law_impl_CheckOf {x0 : TLog} {r : TCheck} (hF : F_impl_CheckOf x0 = some r) : PCalls Try.prog 36 [.agg (enc_TLog false x0)] (.agg (enc_TCheck true r)) := by
 refine PCalls.of_r k_impl_CheckOf rfl ?_
 unfold F_impl_CheckOf at hF
 refine RW.sreg (rl.run 2 rfl (rl.done (RW.sreg (rl.run 12 rfl (rl.done ?_)))))
 refine RW.keep [1, 2, 3] (a' := [(1, .ptr 0 0), (2, .ptr 1 0), (3, .ptr 2 0)]) (H' := [some ⟨[.lst false 1 (fl (encS false) x0.Disk.Sectors) x0.Disk.Sectors.length, .lst false 2 (fl (enc_TWrite false) x0.Disk.Cache) x0.Disk.Cache.length, .int .i64 x0.Segs, .lst false 4 (fl (enc_TSeg false) x0.Used) x0.Used.length, .int .i64 x0.NextGen, .int .i64 x0.NextSeq, .int .i64 x0.Stamp, .int .i64 x0.NextValid], 0⟩, some ⟨[.int .i64 0, .int .i64 0, .int .i64 0, .int .i64 0, .nils], 0⟩, some ⟨[.int .i64 (w64 (x0.Stamp + 1)), .int .i64 x0.NextGen, .int .i64 x0.NextSeq, .int .i64 x0.NextValid, .nils], 0⟩]) rfl rfl ?_
 refine RW.seq (RW.sreg (rl.run 4 rfl (rl.done ?_)))
 refine RW.gh (Gh.nil_c 2 4 2 rfl rfl) ?_
 obtain ⟨y5, ey5, h2⟩ := bindS hF
 refine RW.cutq (σ := (List TRef)) (fun y2 => [(2, .ptr 0 0), (3, .ptr 1 0)]) (fun y2 => [some ⟨[.int .i64 0, .int .i64 0, .int .i64 0, .int .i64 0, .nils], 0⟩, some ⟨[.int .i64 (w64 (x0.Stamp + 1)), .int .i64 x0.NextGen, .int .i64 x0.NextSeq, .int .i64 x0.NextValid, .sl 2 0 y2.length], 0⟩, some ⟨fl (enc_TRef true) y2, 2⟩]) (fun y => y5 = y) (fun _ _ _ _ g h => RW.gh g h) ?_ ?_
 ·refine RW.blk ?_
  refine RW.iter (σ := Int × (List TRef)) ey5 (fun s1 => [(2, .ptr 0 0), (3, .ptr 1 0), (17, .lst false 4 (fl (enc_TSeg false) x0.Used) x0.Used.length), (18, .int .i64 (x0.Used.length : Int)), (19, .int .i64 s1.1)]) (fun s1 => [some ⟨[.int .i64 0, .int .i64 0, .int .i64 0, .int .i64 0, .nils], 0⟩, some ⟨[.int .i64 (w64 (x0.Stamp + 1)), .int .i64 x0.NextGen, .int .i64 x0.NextSeq, .int .i64 x0.NextValid, .sl 2 0 s1.2.length], 0⟩, some ⟨fl (enc_TRef true) s1.2, 2⟩]) (Gh.ren0 [1, 2, 3] (.cells rfl rfl (.keep .int (.keep .int (.keep .int (.keep .int (.keep .nils .nil))))) (.cells rfl rfl (.keep .int (.keep .int (.keep .int (.keep .int (.slq rfl rfl .nil))))) (.same rfl (ek_TRef.fref _ _) .nil))) rfl (.cons rfl (.ptr rfl) (.cons rfl (.ptr rfl) (.cons rfl (.dat (ek_TSeg.rlst)) (.cons rfl (.dat .int) (.cons rfl (.dat .int) .nil)))))) (fun s1 B o hS1 hB1 hE1 => ?_)
  unfold S_impl_CheckOf_1 at hS1
  refine RW.sreg ?_
  refine rl.gen rfl rfl fun b hb => ?_
  cases b
  ·have h3 := iteBF hS1 hb
   refine rl.done (RW.seq (RW.cond_f rfl (RW.exit (blkA_eq ?_))))
   cases h3
   exact ⟨_, (hE1 _ rfl).symm, (Gh.ren0 [0, 1, 2] (.cells rfl rfl (.keep .int (.keep .int (.keep .int (.keep .int (.keep .nils .nil))))) (.cells rfl rfl (.keep .int (.keep .int (.keep .int (.keep .int (.slq rfl rfl .nil))))) (.same rfl (ek_TRef.fref _ _) .nil))) rfl (.cons rfl (.ptr rfl) (.cons rfl (.ptr rfl) .nil)))⟩
  ·have h4 := iteBT hS1 hb
   refine rl.done (RW.seq (RW.cond_t rfl (RW.skip (RW.seq (RW.blk (RW.sreg ?_))))))
   obtain ⟨v3, e3, h5⟩ := bindS h4
   refine rl.op (x_ia_lst (enc := enc_TSeg) (o := false) rfl rfl rfl e3) ?_
   refine rl.op (x_ld_ela (off' := 0) (vs := (enc_TSeg false v3)) ek_TSeg rfl e3 rfl rfl rfl) ?_
   refine rl.run 2 rfl (rl.done (RW.reg (rl.run 8 rfl ?_)))
   obtain ⟨v4, e4, h6⟩ := bindS h5
   refine rl.op (x_app rfl rfl (rapp_sl (l := s1.2) (m := [({ No := v3.No, Gen := v3.Gen } : TRef)]) (o := true) ek_TRef rfl rfl (acont_slq (m := [({ No := v3.No, Gen := v3.Gen } : TRef)]) (o := true) fk_TRef rfl rfl) rfl (fk_TRef.fst _ _) e4)) ?_
   refine rl.run 2 rfl (rl.done (RW.reg (rl.run 2 rfl (rl.done ?_))))
   cases h6
   exact hB1 _ rfl _ _ (Gh.ren0 [0, 1, 5] (.cells rfl rfl (.keep .int (.keep .int (.keep .int (.keep .int (.keep .nils .nil))))) (.cells rfl rfl (.keep .int (.keep .int (.keep .int (.keep .int (.slq rfl rfl .nil))))) (.same rfl (ek_TRef.fref _ _) .nil))) rfl (.cons rfl (.ptr rfl) (.cons rfl (.ptr rfl) (.cons rfl (.dat (ek_TSeg.rlst)) (.cons rfl (.dat .int) (.cons rfl (.dat .int) .nil))))))
 ·intro y2 hC
  subst hC
  refine RW.sreg (rl.run 2 rfl (rl.done (RW.ret ?_)))
  cases h2
  exact RRet.mk rfl (OutL.agg (.cons .int rfl (.cons .int rfl (.cons .int rfl (.cons .int rfl (.cons (OutR.ownq ek_TRef rfl rfl) rfl .nil)))))) (by first | decide | simp)
theorem law_laws_eqRef {x0 : TRef} {x1 : TRef} {r : Bool} (hF : F_laws_eqRef x0 x1 = some r) : PCalls Try.prog 145 [.agg (enc_TRef false x0), .agg (enc_TRef false x1)] (.bool r) := by
 refine PCalls.of_r k_laws_eqRef rfl ?_
 unfold F_laws_eqRef at hF
 refine RW.sreg (rl.run 3 rfl (rl.done (RW.seq (RW.sreg (rl.run 4 rfl ?_)))))
 refine rl.gen rfl rfl fun b hb => ?_
 cases b
 ·have h1 := iteBF hF hb
  refine rl.done (RW.cond_f rfl (RW.skip (RW.seq (RW.sreg (rl.run 4 rfl ?_)))))
  refine rl.gen rfl rfl fun b hb => ?_
  cases b
  ·have h2 := iteBF h1 hb
   refine rl.done ?_
   refine RW.keep [14] (a' := [(14, .bool false)]) (H' := [some ⟨[.int .i64 x0.No, .int .i64 x0.Gen], 0⟩, some ⟨[.int .i64 x1.No, .int .i64 x1.Gen], 0⟩]) rfl rfl ?_
   refine RW.cond_f rfl (RW.skip (RW.sreg (rl.run 1 rfl (rl.done (RW.ret ?_)))))
   cases h2
   exact RRet.mk rfl .bool (by first | decide | simp)
  ·have h3 := iteBT h1 hb
   refine rl.done ?_
   refine RW.keep [14] (a' := [(14, .bool true)]) (H' := [some ⟨[.int .i64 x0.No, .int .i64 x0.Gen], 0⟩, some ⟨[.int .i64 x1.No, .int .i64 x1.Gen], 0⟩]) rfl rfl ?_
   refine RW.cond_t rfl (RW.sreg (rl.run 1 rfl (rl.done (RW.ret ?_))))
   cases h3
   exact RRet.mk rfl .bool (by first | decide | simp)
 ·have h4 := iteBT hF hb
  refine rl.done (RW.cond_t rfl (RW.sreg (rl.run 1 rfl (rl.done (RW.ret ?_)))))
  cases h4
  exact RRet.mk rfl .bool (by first | decide | simp)
theorem law_laws_eqRefS {x0 : List TRef} {x1 : List TRef} {r : Bool} (hF : F_laws_eqRefS x0 x1 = some r) : PCalls Try.prog 78 [.lst false 2 (fl (enc_TRef false) x0) x0.length, .lst false 2 (fl (enc_TRef false) x1) x1.length] (.bool r) := by
 refine PCalls.of_r k_laws_eqRefS rfl ?_
 unfold F_laws_eqRefS at hF
 refine RW.sreg (rl.run 1 rfl (rl.done (RW.seq (RW.sreg (rl.run 4 rfl ?_)))))
 refine rl.gen rfl rfl fun b hb => ?_
 cases b
 ·have h1 := iteBF hF hb
  refine rl.done (RW.cond_f rfl (RW.skip (RW.seq (RW.sreg (rl.run 1 rfl (rl.done ?_))))))
  obtain ⟨y6, ey6, h3⟩ := bindS h1
  refine RW.cutq (σ := Unit) (fun y2 => []) (fun y2 => []) (fun y => y6 = .inr y) (fun _ _ _ _ g h => RW.gh g h) ?_ ?_
  ·refine RW.blk ?_
   refine RW.iter (σ := Int) ey6 (fun s1 => [(0, .lst false 2 (fl (enc_TRef false) x0) x0.length), (1, .lst false 2 (fl (enc_TRef false) x1) x1.length), (5, .int .i64 s1)]) (fun s1 => []) (Gh.ren0 [] .nil rfl (.cons rfl (.dat (ek_TRef.rlst)) (.cons rfl (.dat (ek_TRef.rlst)) (.cons rfl (.dat .int) .nil)))) (fun s1 B o hS2 hB2 hE2 => ?_)
   unfold S_laws_eqRefS_1 at hS2
   refine RW.seq (RW.sreg (rl.run 3 rfl ?_))
   refine rl.gen rfl rfl fun b hb => ?_
   cases b
   ·have h4 := iteBF hS2 hb
    refine rl.done (RW.cond_f rfl (RW.exit (blkA_eq ?_)))
    cases h4
    exact ⟨_, (hE2 _ rfl).symm, (Gh.ren0 [] .nil rfl .nil)⟩
   ·have h5 := iteBT hS2 hb
    refine rl.done (RW.cond_t rfl (RW.skip (RW.seq (RW.blk (RW.sdrw (rdraw.op rfl rfl (rdraw.op rfl rfl ?_)))))))
    obtain ⟨v3, e3, h6⟩ := bindS h5
    refine rdraw.op rfl (x_ia_lst (enc := enc_TRef) (o := false) rfl rfl rfl e3) ?_
    refine rdraw.op rfl (x_ld_ela (off' := 0) (vs := (enc_TRef false v3)) ek_TRef rfl e3 rfl rfl rfl) ?_
    refine rdraw.op rfl rfl (rdraw.op rfl rfl ?_)
    obtain ⟨v4, e4, h7⟩ := bindS h6
    refine rdraw.op rfl (x_ia_lst (enc := enc_TRef) (o := false) rfl rfl rfl e4) ?_
    refine rdraw.op rfl (x_ld_ela (off' := 0) (vs := (enc_TRef false v4)) ek_TRef rfl e4 rfl rfl rfl) ?_
    obtain ⟨v5, e5, h8⟩ := bindS h7
    refine rdraw.call rfl rfl rfl (CallW.val (r' := .bool v5) ok_laws_eqRef (law_laws_eqRef e5) (.cons (.dat (.agg (ek_TRef.dat false _))) (.cons (.dat (.agg (ek_TRef.dat false _))) .nil)) .refl ⟨rfl, ?_⟩)
    cases hb : v5
    ·have h9 := iteBF h8 hb
     refine rdraw.op rfl rfl (rdraw.done ?_)
     refine RW.keep [0, 1, 5, 26] (a' := [(0, .lst false 2 (fl (enc_TRef false) x0) x0.length), (1, .lst false 2 (fl (enc_TRef false) x1) x1.length), (5, .int .i64 s1), (26, .bool true)]) (H' := []) rfl rfl ?_
     refine RW.cond_t rfl (RW.sreg (rl.run 1 rfl (rl.done (RW.ret ?_))))
     cases h9
     have h10 := elimL h3 (hE2 _ rfl)
     cases h10
     exact RRet.mk rfl .bool (by first | decide | simp)
    ·have h11 := iteBT h8 hb
     refine rdraw.op rfl rfl (rdraw.done ?_)
     refine RW.keep [0, 1, 5, 26] (a' := [(0, .lst false 2 (fl (enc_TRef false) x0) x0.length), (1, .lst false 2 (fl (enc_TRef false) x1) x1.length), (5, .int .i64 s1), (26, .bool false)]) (H' := []) rfl rfl ?_
     refine RW.cond_f rfl (RW.skip (RW.reg (rl.run 3 rfl (rl.done ?_))))
     cases h11
     exact hB2 _ rfl _ _ (Gh.ren0 [] .nil rfl (.cons rfl (.dat (ek_TRef.rlst)) (.cons rfl (.dat (ek_TRef.rlst)) (.cons rfl (.dat .int) .nil))))
  ·intro y2 hC
   have h3 := elimR h3 hC
   refine RW.sreg (rl.run 1 rfl (rl.done (RW.ret ?_)))
   cases h3
   exact RRet.mk rfl .bool (by first | decide | simp)
 ·have h12 := iteBT hF hb
  refine rl.done (RW.cond_t rfl (RW.sreg (rl.run 1 rfl (rl.done (RW.ret ?_)))))
  cases h12
  exact RRet.mk rfl .bool (by first | decide | simp)
theorem law_laws_eqCheck {x0 : TCheck} {x1 : TCheck} {r : Bool} (hF : F_laws_eqCheck x0 x1 = some r) : PCalls Try.prog 37 [.agg (enc_TCheck false x0), .agg (enc_TCheck false x1)] (.bool r) := by
 refine PCalls.of_r k_laws_eqCheck rfl ?_
 unfold F_laws_eqCheck at hF
 refine RW.sreg (rl.run 3 rfl (rl.done (RW.seq (RW.sreg (rl.run 4 rfl ?_)))))
 refine rl.gen rfl rfl fun b hb => ?_
 cases b
 ·have h1 := iteBF hF hb
  refine rl.done (RW.cond_f rfl (RW.skip (RW.seq (RW.sreg (rl.run 4 rfl ?_)))))
  refine rl.gen rfl rfl fun b hb => ?_
  cases b
  ·have h2 := iteBF h1 hb
   refine rl.done ?_
   refine RW.keep [2, 3, 14] (a' := [(2, .ptr 0 0), (3, .ptr 1 0), (14, .bool false)]) (H' := [some ⟨[.int .i64 x0.Stamp, .int .i64 x0.NextGen, .int .i64 x0.NextSeq, .int .i64 x0.NextValid, .lst false 2 (fl (enc_TRef false) x0.Refs) x0.Refs.length], 0⟩, some ⟨[.int .i64 x1.Stamp, .int .i64 x1.NextGen, .int .i64 x1.NextSeq, .int .i64 x1.NextValid, .lst false 2 (fl (enc_TRef false) x1.Refs) x1.Refs.length], 0⟩]) rfl rfl ?_
   refine RW.cond_f rfl (RW.skip (RW.seq (RW.sreg (rl.run 4 rfl ?_))))
   refine rl.gen rfl rfl fun b hb => ?_
   cases b
   ·have h3 := iteBF h2 hb
    refine rl.done (RW.cond_f rfl (RW.skip (RW.seq (RW.sreg (rl.run 4 rfl ?_)))))
    refine rl.gen rfl rfl fun b hb => ?_
    cases b
    ·have h4 := iteBF h3 hb
     refine rl.done (RW.cond_f rfl (RW.skip (RW.seq (RW.sreg (rl.run 4 rfl ?_)))))
     obtain ⟨v1, e1, h5⟩ := bindS h4
     refine rl.call rfl rfl rfl (CallW.val (r' := .bool v1) ok_laws_eqRefS (law_laws_eqRefS e1) (.cons (.lst ek_TRef) (.cons (.lst ek_TRef) .nil)) .refl ?_)
     cases hb : v1
     ·have h6 := iteBF h5 hb
      refine rl.run 1 rfl (rl.done ?_)
      refine RW.keep [30] (a' := [(30, .bool true)]) (H' := [some ⟨[.int .i64 x0.Stamp, .int .i64 x0.NextGen, .int .i64 x0.NextSeq, .int .i64 x0.NextValid, .lst false 2 (fl (enc_TRef false) x0.Refs) x0.Refs.length], 0⟩, some ⟨[.int .i64 x1.Stamp, .int .i64 x1.NextGen, .int .i64 x1.NextSeq, .int .i64 x1.NextValid, .lst false 2 (fl (enc_TRef false) x1.Refs) x1.Refs.length], 0⟩]) rfl rfl ?_
      refine RW.cond_t rfl (RW.sreg (rl.run 1 rfl (rl.done (RW.ret ?_))))
      cases h6
      exact RRet.mk rfl .bool (by first | decide | simp)
     ·have h7 := iteBT h5 hb
      refine rl.run 1 rfl (rl.done ?_)
      refine RW.keep [30] (a' := [(30, .bool false)]) (H' := [some ⟨[.int .i64 x0.Stamp, .int .i64 x0.NextGen, .int .i64 x0.NextSeq, .int .i64 x0.NextValid, .lst false 2 (fl (enc_TRef false) x0.Refs) x0.Refs.length], 0⟩, some ⟨[.int .i64 x1.Stamp, .int .i64 x1.NextGen, .int .i64 x1.NextSeq, .int .i64 x1.NextValid, .lst false 2 (fl (enc_TRef false) x1.Refs) x1.Refs.length], 0⟩]) rfl rfl ?_
      refine RW.cond_f rfl (RW.skip (RW.sreg (rl.run 1 rfl (rl.done (RW.ret ?_)))))
      cases h7
      exact RRet.mk rfl .bool (by first | decide | simp)
    ·have h8 := iteBT h3 hb
     refine rl.done (RW.cond_t rfl (RW.sreg (rl.run 1 rfl (rl.done ?_))))
     refine RW.keep [4] (a' := [(4, .bool false)]) (H' := [some ⟨[.int .i64 x0.Stamp, .int .i64 x0.NextGen, .int .i64 x0.NextSeq, .int .i64 x0.NextValid, .lst false 2 (fl (enc_TRef false) x0.Refs) x0.Refs.length], 0⟩, some ⟨[.int .i64 x1.Stamp, .int .i64 x1.NextGen, .int .i64 x1.NextSeq, .int .i64 x1.NextValid, .lst false 2 (fl (enc_TRef false) x1.Refs) x1.Refs.length], 0⟩]) rfl rfl ?_
     refine RW.ret ?_
     cases h8
     exact RRet.mk rfl .bool (by first | decide | simp)
   ·have h9 := iteBT h2 hb
    refine rl.done (RW.cond_t rfl (RW.sreg (rl.run 1 rfl (rl.done (RW.ret ?_)))))
    cases h9
    exact RRet.mk rfl .bool (by first | decide | simp)
  ·have h10 := iteBT h1 hb
   refine rl.done ?_
   refine RW.keep [2, 3, 14] (a' := [(2, .ptr 0 0), (3, .ptr 1 0), (14, .bool true)]) (H' := [some ⟨[.int .i64 x0.Stamp, .int .i64 x0.NextGen, .int .i64 x0.NextSeq, .int .i64 x0.NextValid, .lst false 2 (fl (enc_TRef false) x0.Refs) x0.Refs.length], 0⟩, some ⟨[.int .i64 x1.Stamp, .int .i64 x1.NextGen, .int .i64 x1.NextSeq, .int .i64 x1.NextValid, .lst false 2 (fl (enc_TRef false) x1.Refs) x1.Refs.length], 0⟩]) rfl rfl ?_
   refine RW.cond_t rfl (RW.sreg (rl.run 1 rfl (rl.done (RW.ret ?_))))
   cases h10
   exact RRet.mk rfl .bool (by first | decide | simp)
 ·have h11 := iteBT hF hb
  refine rl.done (RW.cond_t rfl (RW.sreg (rl.run 1 rfl (rl.done (RW.ret ?_)))))
  cases h11
  exact RRet.mk rfl .bool (by first | decide | simp)
theorem law_laws_markRefS_w {x0 : List TRef} {x1 : Int} {r : Int × (List TRef)} (hF : F_laws_markRefS_w x0 x1 = some r) : ACalls Try.prog 0 79 [.sl 0 0 x0.length, .int .i64 x1] [some ⟨fl (enc_TRef true) x0, 2⟩] (.int .i64 r.1) [some ⟨fl (enc_TRef true) r.2, 2⟩] := by
 refine ACalls.of_s k_laws_markRefS rfl ?_
 unfold F_laws_markRefS_w at hF
 refine RW.sreg (rl.run 1 rfl (rl.done (RW.seq (RW.sreg (rl.run 1 rfl (rl.done ?_))))))
 obtain ⟨y7, ey7, h2⟩ := bindS hF
 refine RW.cutq (σ := Int × (List TRef)) (fun y2 => [(1, .int .i64 y2.1)]) (fun y2 => [some ⟨fl (enc_TRef true) y2.2, 2⟩]) (fun y => y7 = y) (fun _ _ _ _ g h => RW.gh g h) ?_ ?_
 ·refine RW.blk ?_
  refine RW.iter (σ := Int × Int × (List TRef)) ey7 (fun s1 => [(0, .sl 0 0 s1.2.2.length), (1, .int .i64 s1.1), (5, .int .i64 s1.2.1)]) (fun s1 => [some ⟨fl (enc_TRef true) s1.2.2, 2⟩]) (Gh.renN [0] (.same rfl (ek_TRef.fref _ _) .nil) rfl rfl rfl (.cons rfl (.slq rfl rfl) (.cons rfl (.dat .int) (.cons rfl (.dat .int) .nil)))) (fun s1 B o hS1 hB1 hE1 => ?_)
  unfold S_laws_markRefS_w_1 at hS1
  refine RW.seq (RW.sreg (rl.run 3 rfl ?_))
  refine rl.gen rfl rfl fun b hb => ?_
  cases b
  ·have h3 := iteBF hS1 hb
   refine rl.done (RW.cond_f rfl (RW.exit (blkA_eq ?_)))
   cases h3
   exact ⟨_, (hE1 _ rfl).symm, (Gh.renN [0] (.same rfl (ek_TRef.fref _ _) .nil) rfl rfl rfl (.cons rfl (.dat .int) .nil))⟩
  ·have h4 := iteBT hS1 hb
   refine rl.done (RW.cond_t rfl (RW.skip (RW.seq (RW.blk (RW.sreg (rl.run 3 rfl ?_))))))
   obtain ⟨v3, e3, h5⟩ := bindS h4
   refine rl.op (x_ia_sl rfl rfl rfl rfl e3) ?_
   refine rl.run 1 rfl ?_
   obtain ⟨v4, e4, h6⟩ := bindS h5
   refine rl.op0 (x_st_sl' (off' := 0) (o := true) (e' := ({ No := s1.1, Gen := v3.Gen } : TRef)) ek_TRef e3 rfl rfl rfl rfl rfl rfl rfl rfl rfl e4) ?_
   refine rl.done (RW.sreg (rl.run 3 rfl (rl.done ?_)))
   refine RW.keep [0, 1, 5] (a' := [(0, .sl 0 0 s1.2.2.length), (1, .int .i64 (w64 (s1.1 + 1))), (5, .int .i64 s1.2.1)]) (H' := [some ⟨fl (enc_TRef true) v4, 2⟩]) rfl rfl ?_
   refine RW.sreg (rl.run 3 rfl ?_)
   obtain ⟨v5, e5, h7⟩ := bindS h6
   refine rl.op (x_ia_sl rfl rfl rfl (set'_len e4) e5) ?_
   refine rl.run 1 rfl ?_
   obtain ⟨v6, e6, h8⟩ := bindS h7
   refine rl.op0 (x_st_sl' (off' := 1) (o := true) (e' := ({ No := v5.No, Gen := w64 (s1.1 + 1) } : TRef)) ek_TRef e5 rfl rfl rfl rfl rfl rfl rfl rfl rfl e6) ?_
   refine rl.done (RW.reg (rl.run 3 rfl (rl.done (RW.reg (rl.run 3 rfl (rl.done ?_))))))
   cases h8
   exact hB1 _ rfl _ _ (Gh.renN [0] (.same rfl (ek_TRef.fref _ _) .nil) rfl rfl rfl (.cons rfl (.slq rfl ((set'_len e4).trans (set'_len e6))) (.cons rfl (.dat .int) (.cons rfl (.dat .int) .nil))))
 ·intro y2 hC
  subst hC
  refine RW.sreg (rl.run 2 rfl (rl.done (RW.ret ?_)))
  cases h2
  exact RRetS.mk rfl .int (Gh.renN [0] (.same rfl (ek_TRef.fref _ _) .nil) rfl rfl rfl .nil)
theorem law_laws_markCheck_w {x0 : Int} {x1 : Int} {x2 : Int} {x3 : Int} {x4 : List TRef} {x5 : Int} {r : Int × (List TRef)} (hF : F_laws_markCheck_w x0 x1 x2 x3 x4 x5 = some r) : ACalls Try.prog 0 38 [.agg [.int .i64 x0, .int .i64 x1, .int .i64 x2, .int .i64 x3, .sl 0 0 x4.length], .int .i64 x5] [some ⟨fl (enc_TRef true) x4, 2⟩] (.int .i64 r.1) [some ⟨fl (enc_TRef true) r.2, 2⟩] := by
 refine ACalls.of_s k_laws_markCheck rfl ?_
 unfold F_laws_markCheck_w at hF
 refine RW.sreg (rl.run 2 rfl (rl.done (RW.sreg (rl.run 3 rfl ?_))))
 obtain ⟨v1, e1, h1⟩ := bindS hF
 refine rl.call rfl rfl rfl (CallW.embW (r0 := .int .i64 v1.1) (H' := [some ⟨fl (enc_TRef true) v1.2, 2⟩, some ⟨[.int .i64 x0, .int .i64 x1, .int .i64 x2, .int .i64 x3, .sl 0 0 x4.length], 0⟩]) [⟨fl (enc_TRef true) x4, 2⟩] [⟨fl (enc_TRef true) v1.2, 2⟩] [0] ok_laws_markRefS (law_laws_markRefS_w (guardO_s e1)) (.cons rfl (ek_TRef.fref _ _) (ek_TRef.fown _) .nil) rfl (.cons (.slq rfl rfl) (.cons (.dat .int) .nil)) .int rfl rfl ?_)
 refine rl.run 1 rfl (rl.done (RW.sreg (rl.run 2 rfl (rl.done (RW.ret ?_)))))
 cases h1
 exact RRetS.mk rfl .int (Gh.renN [0] (.same rfl (ek_TRef.fref _ _) .nil) rfl rfl rfl .nil)
theorem law_laws_heldRefS {x0 : List TRef} {x1 : Int} {r : Int} (hF : F_laws_heldRefS x0 x1 = some r) : PCalls Try.prog 80 [.lst false 2 (fl (enc_TRef false) x0) x0.length, .int .i64 x1] (.int .i64 r) := by
 refine PCalls.of_r k_laws_heldRefS rfl ?_
 unfold F_laws_heldRefS at hF
 refine RW.sreg (rl.run 1 rfl (rl.done (RW.seq (RW.sreg (rl.run 1 rfl (rl.done ?_))))))
 obtain ⟨y5, ey5, h2⟩ := bindS hF
 refine RW.cutq (σ := Int) (fun y2 => [(1, .int .i64 y2)]) (fun y2 => []) (fun y => y5 = .inr y) (fun _ _ _ _ g h => RW.gh g h) ?_ ?_
 ·refine RW.blk ?_
  refine RW.iter (σ := Int × Int) ey5 (fun s1 => [(0, .lst false 2 (fl (enc_TRef false) x0) x0.length), (1, .int .i64 s1.1), (5, .int .i64 s1.2)]) (fun s1 => []) (Gh.ren0 [] .nil rfl (.cons rfl (.dat (ek_TRef.rlst)) (.cons rfl (.dat .int) (.cons rfl (.dat .int) .nil)))) (fun s1 B o hS1 hB1 hE1 => ?_)
  unfold S_laws_heldRefS_1 at hS1
  refine RW.seq (RW.sreg (rl.run 3 rfl ?_))
  refine rl.gen rfl rfl fun b hb => ?_
  cases b
  ·have h3 := iteBF hS1 hb
   refine rl.done (RW.cond_f rfl (RW.exit (blkA_eq ?_)))
   cases h3
   exact ⟨_, (hE1 _ rfl).symm, (Gh.ren0 [] .nil rfl (.cons rfl (.dat .int) .nil))⟩
  ·have h4 := iteBT hS1 hb
   refine rl.done (RW.cond_t rfl (RW.skip (RW.seq (RW.blk (RW.seq (RW.sreg (rl.run 2 rfl ?_)))))))
   obtain ⟨v3, e3, h5⟩ := bindS h4
   refine rl.op (x_ia_lst (enc := enc_TRef) (o := false) rfl rfl rfl e3) ?_
   refine rl.run 1 rfl ?_
   refine rl.op (x_ld_el (off' := 0) ek_TRef rfl e3 rfl rfl rfl) ?_
   refine rl.run 1 rfl ?_
   refine rl.gen rfl rfl fun b hb => ?_
   cases b
   ·have h6 := iteBF h5 hb
    refine rl.done (RW.cond_f rfl (RW.skip (RW.sreg (rl.run 3 rfl (rl.done ?_)))))
    refine RW.keep [0, 1, 5] (a' := [(0, .lst false 2 (fl (enc_TRef false) x0) x0.length), (1, .int .i64 (w64 (s1.1 + 1))), (5, .int .i64 s1.2)]) (H' := []) rfl rfl ?_
    refine RW.seq (RW.sreg (rl.run 2 rfl ?_))
    obtain ⟨v4, e4, h7⟩ := bindS h6
    refine rl.op (x_ia_lst (enc := enc_TRef) (o := false) rfl rfl rfl e4) ?_
    refine rl.run 1 rfl ?_
    refine rl.op (x_ld_el (off' := 1) ek_TRef rfl e4 rfl rfl rfl) ?_
    refine rl.run 1 rfl ?_
    refine rl.gen rfl rfl fun b hb => ?_
    cases b
    ·have h8 := iteBF h7 hb
     refine rl.done (RW.cond_f rfl (RW.skip (RW.reg (rl.run 3 rfl (rl.done (RW.reg (rl.run 3 rfl (rl.done ?_))))))))
     cases h8
     exact hB1 _ rfl _ _ (Gh.ren0 [] .nil rfl (.cons rfl (.dat (ek_TRef.rlst)) (.cons rfl (.dat .int) (.cons rfl (.dat .int) .nil))))
    ·have h9 := iteBT h7 hb
     refine rl.done (RW.cond_t rfl (RW.sreg (rl.run 1 rfl (rl.done (RW.ret ?_)))))
     cases h9
     have h10 := elimL h2 (hE1 _ rfl)
     cases h10
     exact RRet.mk rfl .int (by first | decide | simp)
   ·have h11 := iteBT h5 hb
    refine rl.done (RW.cond_t rfl (RW.sreg (rl.run 1 rfl (rl.done ?_))))
    refine RW.keep [4] (a' := [(4, .int .i64 (-1))]) (H' := []) rfl rfl ?_
    refine RW.ret ?_
    cases h11
    have h12 := elimL h2 (hE1 _ rfl)
    cases h12
    exact RRet.mk rfl .int (by first | decide | simp)
 ·intro y2 hC
  have h2 := elimR h2 hC
  refine RW.sreg (rl.run 2 rfl (rl.done (RW.ret ?_)))
  cases h2
  exact RRet.mk rfl .int (by first | decide | simp)
theorem law_laws_heldCheck {x0 : TCheck} {x1 : Int} {r : Int} (hF : F_laws_heldCheck x0 x1 = some r) : PCalls Try.prog 39 [.agg (enc_TCheck false x0), .int .i64 x1] (.int .i64 r) := by
 refine PCalls.of_r k_laws_heldCheck rfl ?_
 unfold F_laws_heldCheck at hF
 refine RW.sreg (rl.run 2 rfl (rl.done (RW.sreg (rl.run 3 rfl ?_))))
 obtain ⟨v1, e1, h1⟩ := bindS hF
 refine rl.call rfl rfl rfl (CallW.val (r' := .int .i64 v1) ok_laws_heldRefS (law_laws_heldRefS e1) (.cons (.lst ek_TRef) (.cons .int .nil)) .refl ?_)
 refine rl.run 1 rfl (rl.done (RW.seq (RW.sreg (rl.run 1 rfl ?_))))
 refine rl.gen rfl rfl fun b hb => ?_
 cases b
 ·have h2 := iteBF h1 hb
  refine rl.done (RW.cond_f rfl (RW.skip (RW.sreg (rl.run 2 rfl (rl.done (RW.ret ?_))))))
  cases h2
  exact RRet.mk rfl .int (by first | decide | simp)
 ·have h3 := iteBT h1 hb
  refine rl.done (RW.cond_t rfl (RW.sreg (rl.run 1 rfl (rl.done (RW.ret ?_)))))
  cases h3
  exact RRet.mk rfl .int (by first | decide | simp)
theorem law_laws_FnExactCheckOf {x0 : TLog} {r : Bool} (hF : F_laws_FnExactCheckOf x0 = some r) : PCalls Try.prog 7 [.agg (enc_TLog false x0)] (.bool r) := by
 refine PCalls.of_r k_laws_FnExactCheckOf rfl ?_
 unfold F_laws_FnExactCheckOf at hF
 refine RW.sreg (rl.run 2 rfl (rl.done (RW.sreg (rl.run 1 rfl (rl.done (RW.sreg (rl.run 2 rfl ?_)))))))
 obtain ⟨v1, e1, h1⟩ := bindS hF
 refine rl.call rfl rfl rfl (CallW.val (r' := .int .i64 v1) ok_laws_szLog (law_laws_szLog e1) (.cons (DFL.agg (.cons (.lst ekS) (.cons (.lst ek_TWrite) (.cons .int (.cons (.lst ek_TSeg) (.cons .int (.cons .int (.cons .int (.cons .int .nil))))))))) (.cons .int .nil)) .refl ?_)
 refine rl.run 1 rfl (rl.done (RW.seq (RW.sreg (rl.run 1 rfl ?_))))
 refine rl.gen rfl rfl fun b hb => ?_
 cases b
 ·have h2 := iteBF h1 hb
  refine rl.done (RW.cond_f rfl (RW.skip (RW.sreg (rl.run 1 rfl ?_))))
  obtain ⟨v2, e2, h3⟩ := bindS h2
  refine rl.call rfl rfl rfl (CallW.val (r' := .agg (enc_TLog false v2)) ok_laws_toLog (law_laws_toLog e2) (.cons (DFL.agg (.cons (.lst ekS) (.cons (.lst ek_TWrite) (.cons .int (.cons (.lst ek_TSeg) (.cons .int (.cons .int (.cons .int (.cons .int .nil))))))))) .nil) (ek_TLog.flag _).agg ?_)
  obtain ⟨v3, e3, h4⟩ := bindS h3
  refine rl.call rfl rfl rfl (CallW.val (r' := .agg (enc_TCheck false v3)) ok_spec_CheckOf (law_spec_CheckOf e3) (.cons (.dat (.agg (ek_TLog.dat false _))) .nil) (ek_TCheck.flag _).agg ?_)
  refine rl.run 2 rfl (rl.done ?_)
  refine RW.keep [1, 4] (a' := [(1, .ptr 0 0), (4, .ptr 1 0)]) (H' := [some ⟨[.lst false 1 (fl (encS false) x0.Disk.Sectors) x0.Disk.Sectors.length, .lst false 2 (fl (enc_TWrite false) x0.Disk.Cache) x0.Disk.Cache.length, .int .i64 x0.Segs, .lst false 4 (fl (enc_TSeg false) x0.Used) x0.Used.length, .int .i64 x0.NextGen, .int .i64 x0.NextSeq, .int .i64 x0.Stamp, .int .i64 x0.NextValid], 0⟩, some ⟨[.int .i64 v3.Stamp, .int .i64 v3.NextGen, .int .i64 v3.NextSeq, .int .i64 v3.NextValid, .lst false 2 (fl (enc_TRef false) v3.Refs) v3.Refs.length], 0⟩]) rfl rfl ?_
  refine RW.sreg (rl.run 1 rfl ?_)
  obtain ⟨v4, e4, h5⟩ := bindS h4
  refine rl.call rfl rfl rfl (CallW.own (r' := .agg [.sl 2 0 v4.Disk.Sectors.length, .sl 3 0 v4.Disk.Cache.length, .int .i64 v4.Segs, .sl 4 0 v4.Used.length, .int .i64 v4.NextGen, .int .i64 v4.NextSeq, .int .i64 v4.Stamp, .int .i64 v4.NextValid]) (H' := [some ⟨[.lst false 1 (fl (encS false) x0.Disk.Sectors) x0.Disk.Sectors.length, .lst false 2 (fl (enc_TWrite false) x0.Disk.Cache) x0.Disk.Cache.length, .int .i64 x0.Segs, .lst false 4 (fl (enc_TSeg false) x0.Used) x0.Used.length, .int .i64 x0.NextGen, .int .i64 x0.NextSeq, .int .i64 x0.Stamp, .int .i64 x0.NextValid], 0⟩, some ⟨[.int .i64 v3.Stamp, .int .i64 v3.NextGen, .int .i64 v3.NextSeq, .int .i64 v3.NextValid, .lst false 2 (fl (enc_TRef false) v3.Refs) v3.Refs.length], 0⟩, some ⟨fl (encS true) v4.Disk.Sectors, 1⟩, some ⟨fl (enc_TWrite true) v4.Disk.Cache, 2⟩, some ⟨fl (enc_TSeg true) v4.Used, 4⟩]) ok_laws_toLog (law_laws_toLog e4) (.cons (DFL.agg (.cons (.lst ekS) (.cons (.lst ek_TWrite) (.cons .int (.cons (.lst ek_TSeg) (.cons .int (.cons .int (.cons .int (.cons .int .nil))))))))) .nil) (ek_TLog.own _) rfl ?_)
  refine rl.run 2 rfl (rl.done (RW.sreg (rl.run 1 rfl ?_)))
  obtain ⟨v5, e5, h6⟩ := bindS h5
  refine rl.call rfl rfl rfl (CallW.own (r' := .agg [.int .i64 v5.Stamp, .int .i64 v5.NextGen, .int .i64 v5.NextSeq, .int .i64 v5.NextValid, .sl 6 0 v5.Refs.length]) (H' := [some ⟨[.lst false 1 (fl (encS false) x0.Disk.Sectors) x0.Disk.Sectors.length, .lst false 2 (fl (enc_TWrite false) x0.Disk.Cache) x0.Disk.Cache.length, .int .i64 x0.Segs, .lst false 4 (fl (enc_TSeg false) x0.Used) x0.Used.length, .int .i64 x0.NextGen, .int .i64 x0.NextSeq, .int .i64 x0.Stamp, .int .i64 x0.NextValid], 0⟩, some ⟨[.int .i64 v3.Stamp, .int .i64 v3.NextGen, .int .i64 v3.NextSeq, .int .i64 v3.NextValid, .lst false 2 (fl (enc_TRef false) v3.Refs) v3.Refs.length], 0⟩, some ⟨fl (encS true) v4.Disk.Sectors, 1⟩, some ⟨fl (enc_TWrite true) v4.Disk.Cache, 2⟩, some ⟨fl (enc_TSeg true) v4.Used, 4⟩, some ⟨[.sl 2 0 v4.Disk.Sectors.length, .sl 3 0 v4.Disk.Cache.length, .int .i64 v4.Segs, .sl 4 0 v4.Used.length, .int .i64 v4.NextGen, .int .i64 v4.NextSeq, .int .i64 v4.Stamp, .int .i64 v4.NextValid], 0⟩, some ⟨fl (enc_TRef true) v5.Refs, 2⟩]) ok_impl_CheckOf (law_impl_CheckOf e5) (.cons (DFL.agg (.cons (.slq ekS rfl rfl) (.cons (.slq ek_TWrite rfl rfl) (.cons .int (.cons (.slq ek_TSeg rfl rfl) (.cons .int (.cons .int (.cons .int (.cons .int .nil))))))))) .nil) (ek_TCheck.own _) rfl ?_)
  refine rl.run 2 rfl (rl.done (RW.seq (RW.sreg (rl.run 2 rfl ?_))))
  obtain ⟨v6, e6, h7⟩ := bindS h6
  refine rl.call rfl rfl rfl (CallW.val (r' := .bool v6) ok_laws_eqCheck (law_laws_eqCheck e6) (.cons (DFL.agg (.cons .int (.cons .int (.cons .int (.cons .int (.cons (.slq ek_TRef rfl rfl) .nil)))))) (.cons (DFL.agg (.cons .int (.cons .int (.cons .int (.cons .int (.cons (.lst ek_TRef) .nil)))))) .nil)) .refl ?_)
  cases hb : v6
  ·have h8 := iteBF h7 hb
   refine rl.run 1 rfl (rl.done (RW.cond_t rfl (RW.sreg (rl.run 1 rfl (rl.done ?_)))))
   refine RW.keep [2] (a' := [(2, .bool false)]) (H' := [some ⟨[.lst false 1 (fl (encS false) x0.Disk.Sectors) x0.Disk.Sectors.length, .lst false 2 (fl (enc_TWrite false) x0.Disk.Cache) x0.Disk.Cache.length, .int .i64 x0.Segs, .lst false 4 (fl (enc_TSeg false) x0.Used) x0.Used.length, .int .i64 x0.NextGen, .int .i64 x0.NextSeq, .int .i64 x0.Stamp, .int .i64 x0.NextValid], 0⟩, some ⟨[.int .i64 v3.Stamp, .int .i64 v3.NextGen, .int .i64 v3.NextSeq, .int .i64 v3.NextValid, .lst false 2 (fl (enc_TRef false) v3.Refs) v3.Refs.length], 0⟩, some ⟨fl (encS true) v4.Disk.Sectors, 1⟩, some ⟨fl (enc_TWrite true) v4.Disk.Cache, 2⟩, some ⟨fl (enc_TSeg true) v4.Used, 4⟩, some ⟨[.sl 2 0 v4.Disk.Sectors.length, .sl 3 0 v4.Disk.Cache.length, .int .i64 v4.Segs, .sl 4 0 v4.Used.length, .int .i64 v4.NextGen, .int .i64 v4.NextSeq, .int .i64 v4.Stamp, .int .i64 v4.NextValid], 0⟩, some ⟨fl (enc_TRef true) v5.Refs, 2⟩, some ⟨[.int .i64 v5.Stamp, .int .i64 v5.NextGen, .int .i64 v5.NextSeq, .int .i64 v5.NextValid, .sl 6 0 v5.Refs.length], 0⟩]) rfl rfl ?_
   refine RW.ret ?_
   cases h8
   exact RRet.mk rfl .bool (by first | decide | simp)
  ·have h9 := iteBT h7 hb
   refine rl.run 1 rfl (rl.done (RW.cond_f rfl (RW.skip (RW.seq (RW.sdrw (rdraw.op rfl rfl (rdraw.op rfl rfl ?_)))))))
   obtain ⟨v7, e7, h10⟩ := bindS h9
   refine rdraw.call rfl rfl rfl (CallW.val (r' := .agg (enc_TLog false v7)) ok_laws_toLog (law_laws_toLog e7) (.cons (DFL.agg (.cons (.lst ekS) (.cons (.lst ek_TWrite) (.cons .int (.cons (.lst ek_TSeg) (.cons .int (.cons .int (.cons .int (.cons .int .nil))))))))) .nil) (ek_TLog.flag _).agg ⟨rfl, ?_⟩)
   obtain ⟨v8, e8, h11⟩ := bindS h10
   refine rdraw.call rfl rfl rfl (CallW.val (r' := .bool v8) ok_laws_eqLog (law_laws_eqLog e8) (.cons (DFL.agg (.cons (.slq ekS rfl rfl) (.cons (.slq ek_TWrite rfl rfl) (.cons .int (.cons (.slq ek_TSeg rfl rfl) (.cons .int (.cons .int (.cons .int (.cons .int .nil))))))))) (.cons (.dat (.agg (ek_TLog.dat false _))) .nil)) .refl ⟨rfl, ?_⟩)
   cases hb : v8
   ·have h12 := iteBF h11 hb
    refine rdraw.op rfl rfl (rdraw.done ?_)
    refine RW.keep [1, 4, 5, 6, 31] (a' := [(1, .ptr 0 0), (4, .ptr 1 0), (5, .ptr 5 0), (6, .ptr 7 0), (31, .bool true)]) (H' := [some ⟨[.lst false 1 (fl (encS false) x0.Disk.Sectors) x0.Disk.Sectors.length, .lst false 2 (fl (enc_TWrite false) x0.Disk.Cache) x0.Disk.Cache.length, .int .i64 x0.Segs, .lst false 4 (fl (enc_TSeg false) x0.Used) x0.Used.length, .int .i64 x0.NextGen, .int .i64 x0.NextSeq, .int .i64 x0.Stamp, .int .i64 x0.NextValid], 0⟩, some ⟨[.int .i64 v3.Stamp, .int .i64 v3.NextGen, .int .i64 v3.NextSeq, .int .i64 v3.NextValid, .lst false 2 (fl (enc_TRef false) v3.Refs) v3.Refs.length], 0⟩, some ⟨fl (encS true) v4.Disk.Sectors, 1⟩, some ⟨fl (enc_TWrite true) v4.Disk.Cache, 2⟩, some ⟨fl (enc_TSeg true) v4.Used, 4⟩, some ⟨[.sl 2 0 v4.Disk.Sectors.length, .sl 3 0 v4.Disk.Cache.length, .int .i64 v4.Segs, .sl 4 0 v4.Used.length, .int .i64 v4.NextGen, .int .i64 v4.NextSeq, .int .i64 v4.Stamp, .int .i64 v4.NextValid], 0⟩, some ⟨fl (enc_TRef true) v5.Refs, 2⟩, some ⟨[.int .i64 v5.Stamp, .int .i64 v5.NextGen, .int .i64 v5.NextSeq, .int .i64 v5.NextValid, .sl 6 0 v5.Refs.length], 0⟩]) rfl rfl ?_
    refine RW.cond_t rfl (RW.sreg (rl.run 1 rfl (rl.done (RW.ret ?_))))
    cases h12
    exact RRet.mk rfl .bool (by first | decide | simp)
   ·have h13 := iteBT h11 hb
    refine rdraw.op rfl rfl (rdraw.done ?_)
    refine RW.keep [1, 4, 5, 6, 31] (a' := [(1, .ptr 0 0), (4, .ptr 1 0), (5, .ptr 5 0), (6, .ptr 7 0), (31, .bool false)]) (H' := [some ⟨[.lst false 1 (fl (encS false) x0.Disk.Sectors) x0.Disk.Sectors.length, .lst false 2 (fl (enc_TWrite false) x0.Disk.Cache) x0.Disk.Cache.length, .int .i64 x0.Segs, .lst false 4 (fl (enc_TSeg false) x0.Used) x0.Used.length, .int .i64 x0.NextGen, .int .i64 x0.NextSeq, .int .i64 x0.Stamp, .int .i64 x0.NextValid], 0⟩, some ⟨[.int .i64 v3.Stamp, .int .i64 v3.NextGen, .int .i64 v3.NextSeq, .int .i64 v3.NextValid, .lst false 2 (fl (enc_TRef false) v3.Refs) v3.Refs.length], 0⟩, some ⟨fl (encS true) v4.Disk.Sectors, 1⟩, some ⟨fl (enc_TWrite true) v4.Disk.Cache, 2⟩, some ⟨fl (enc_TSeg true) v4.Used, 4⟩, some ⟨[.sl 2 0 v4.Disk.Sectors.length, .sl 3 0 v4.Disk.Cache.length, .int .i64 v4.Segs, .sl 4 0 v4.Used.length, .int .i64 v4.NextGen, .int .i64 v4.NextSeq, .int .i64 v4.Stamp, .int .i64 v4.NextValid], 0⟩, some ⟨fl (enc_TRef true) v5.Refs, 2⟩, some ⟨[.int .i64 v5.Stamp, .int .i64 v5.NextGen, .int .i64 v5.NextSeq, .int .i64 v5.NextValid, .sl 6 0 v5.Refs.length], 0⟩]) rfl rfl ?_
    refine RW.cond_f rfl (RW.skip (RW.sreg (rl.run 1 rfl (rl.done (RW.sreg (rl.run 2 rfl ?_))))))
    obtain ⟨v9, e9, h14⟩ := bindS h13
    refine rl.call rfl rfl rfl (CallW.embW (r0 := .int .i64 v9.1) (H' := [some ⟨[.lst false 1 (fl (encS false) x0.Disk.Sectors) x0.Disk.Sectors.length, .lst false 2 (fl (enc_TWrite false) x0.Disk.Cache) x0.Disk.Cache.length, .int .i64 x0.Segs, .lst false 4 (fl (enc_TSeg false) x0.Used) x0.Used.length, .int .i64 x0.NextGen, .int .i64 x0.NextSeq, .int .i64 x0.Stamp, .int .i64 x0.NextValid], 0⟩, some ⟨[.int .i64 v3.Stamp, .int .i64 v3.NextGen, .int .i64 v3.NextSeq, .int .i64 v3.NextValid, .lst false 2 (fl (enc_TRef false) v3.Refs) v3.Refs.length], 0⟩, some ⟨fl (encS true) v9.2.1, 1⟩, some ⟨fl (enc_TWrite true) v9.2.2.1, 2⟩, some ⟨fl (enc_TSeg true) v9.2.2.2, 4⟩, some ⟨[.sl 2 0 v4.Disk.Sectors.length, .sl 3 0 v4.Disk.Cache.length, .int .i64 v4.Segs, .sl 4 0 v4.Used.length, .int .i64 v4.NextGen, .int .i64 v4.NextSeq, .int .i64 v4.Stamp, .int .i64 v4.NextValid], 0⟩, some ⟨fl (enc_TRef true) v5.Refs, 2⟩, some ⟨[.int .i64 v5.Stamp, .int .i64 v5.NextGen, .int .i64 v5.NextSeq, .int .i64 v5.NextValid, .sl 6 0 v5.Refs.length], 0⟩]) [⟨fl (encS true) v4.Disk.Sectors, 1⟩, ⟨fl (enc_TWrite true) v4.Disk.Cache, 2⟩, ⟨fl (enc_TSeg true) v4.Used, 4⟩] [⟨fl (encS true) v9.2.1, 1⟩, ⟨fl (enc_TWrite true) v9.2.2.1, 2⟩, ⟨fl (enc_TSeg true) v9.2.2.2, 4⟩] [2, 3, 4] ok_laws_markLog (law_laws_markLog_w (guardO_s e9)) (.cons rfl (ekS.fref _ _) (ekS.fown _) (.cons rfl (ek_TWrite.fref _ _) (ek_TWrite.fown _) (.cons rfl (ek_TSeg.fref _ _) (ek_TSeg.fown _) .nil))) rfl (.cons (RnL.agg (.cons (.slq rfl rfl) (.cons (.slq rfl rfl) (.cons (.dat .int) (.cons (.slq rfl rfl) (.cons (.dat .int) (.cons (.dat .int) (.cons (.dat .int) (.cons (.dat .int) .nil))))))))) (.cons (.dat .int) .nil)) .int rfl rfl ?_)
    refine rl.run 1 rfl (rl.done (RW.seq (RW.seq ?_)))
    obtain ⟨y10, ey10, h15⟩ := bindS h14
    refine RW.cutq (σ := Bool) (fun y10 => [(1, .ptr 0 0), (4, .ptr 1 0), (6, .ptr 2 0), (42, .bool y10)]) (fun y10 => [some ⟨[.lst false 1 (fl (encS false) x0.Disk.Sectors) x0.Disk.Sectors.length, .lst false 2 (fl (enc_TWrite false) x0.Disk.Cache) x0.Disk.Cache.length, .int .i64 x0.Segs, .lst false 4 (fl (enc_TSeg false) x0.Used) x0.Used.length, .int .i64 x0.NextGen, .int .i64 x0.NextSeq, .int .i64 x0.Stamp, .int .i64 x0.NextValid], 0⟩, some ⟨[.int .i64 v3.Stamp, .int .i64 v3.NextGen, .int .i64 v3.NextSeq, .int .i64 v3.NextValid, .lst false 2 (fl (enc_TRef false) v3.Refs) v3.Refs.length], 0⟩, some ⟨[.int .i64 v5.Stamp, .int .i64 v5.NextGen, .int .i64 v5.NextSeq, .int .i64 v5.NextValid, .sl 3 0 v5.Refs.length], 0⟩, some ⟨fl (enc_TRef true) v5.Refs, 2⟩]) (fun y => y10 = y) (fun _ _ _ _ g h => RW.gh g h) ?_ ?_
    ·refine RW.reg ?_
     refine rl.run 1 rfl ?_
     refine rl.gen rfl rfl fun b hb => ?_
     cases b
     ·have h16 := iteBF ey10 hb
      refine rl.run 3 rfl ?_
      obtain ⟨v11, e11, h17⟩ := bindS h16
      refine rl.call rfl rfl rfl (CallW.val (r' := .bool v11) ok_laws_eqCheck (law_laws_eqCheck e11) (.cons (DFL.agg (.cons .int (.cons .int (.cons .int (.cons .int (.cons (.slq ek_TRef rfl rfl) .nil)))))) (.cons (DFL.agg (.cons .int (.cons .int (.cons .int (.cons .int (.cons (.lst ek_TRef) .nil)))))) .nil)) .refl ?_)
      cases hb : v11
      ·have h18 := iteBF h17 hb
       refine rl.run 2 rfl (rl.done ?_)
       cases h18
       exact ⟨_, rfl, (Gh.ren0 [0, 1, 7, 6] (.cells rfl rfl (.keep (ekS.rlst) (.keep (ek_TWrite.rlst) (.keep .int (.keep (ek_TSeg.rlst) (.keep .int (.keep .int (.keep .int (.keep .int .nil)))))))) (.cells rfl rfl (.keep .int (.keep .int (.keep .int (.keep .int (.keep (ek_TRef.rlst) .nil))))) (.cells rfl rfl (.keep .int (.keep .int (.keep .int (.keep .int (.slq rfl rfl .nil))))) (.same rfl (ek_TRef.fref _ _) .nil)))) rfl (.cons rfl (.ptr rfl) (.cons rfl (.ptr rfl) (.cons rfl (.ptr rfl) (.cons rfl (.dat .bool) .nil)))))⟩
      ·have h19 := iteBT h17 hb
       refine rl.run 2 rfl (rl.done ?_)
       cases h19
       exact ⟨_, rfl, (Gh.ren0 [0, 1, 7, 6] (.cells rfl rfl (.keep (ekS.rlst) (.keep (ek_TWrite.rlst) (.keep .int (.keep (ek_TSeg.rlst) (.keep .int (.keep .int (.keep .int (.keep .int .nil)))))))) (.cells rfl rfl (.keep .int (.keep .int (.keep .int (.keep .int (.keep (ek_TRef.rlst) .nil))))) (.cells rfl rfl (.keep .int (.keep .int (.keep .int (.keep .int (.slq rfl rfl .nil))))) (.same rfl (ek_TRef.fref _ _) .nil)))) rfl (.cons rfl (.ptr rfl) (.cons rfl (.ptr rfl) (.cons rfl (.ptr rfl) (.cons rfl (.dat .bool) .nil)))))⟩
     ·have h20 := iteBT ey10 hb
      refine rl.run 6 rfl (rl.done ?_)
      cases h20
      exact ⟨_, rfl, (Gh.ren0 [0, 1, 7, 6] (.cells rfl rfl (.keep (ekS.rlst) (.keep (ek_TWrite.rlst) (.keep .int (.keep (ek_TSeg.rlst) (.keep .int (.keep .int (.keep .int (.keep .int .nil)))))))) (.cells rfl rfl (.keep .int (.keep .int (.keep .int (.keep .int (.keep (ek_TRef.rlst) .nil))))) (.cells rfl rfl (.keep .int (.keep .int (.keep .int (.keep .int (.slq rfl rfl .nil))))) (.same rfl (ek_TRef.fref _ _) .nil)))) rfl (.cons rfl (.ptr rfl) (.cons rfl (.ptr rfl) (.cons rfl (.ptr rfl) (.cons rfl (.dat .bool) .nil)))))⟩
    ·intro y hC
     subst hC
     cases hb : y10
     ·have h21 := iteBF h15 hb
      refine RW.cond_f rfl (RW.skip (RW.sreg (rl.run 1 rfl (rl.done (RW.sreg (rl.run 2 rfl ?_))))))
      obtain ⟨v12, e12, h22⟩ := bindS h21
      refine rl.call rfl rfl rfl (CallW.embW (r0 := .int .i64 v12.1) (H' := [some ⟨[.lst false 1 (fl (encS false) x0.Disk.Sectors) x0.Disk.Sectors.length, .lst false 2 (fl (enc_TWrite false) x0.Disk.Cache) x0.Disk.Cache.length, .int .i64 x0.Segs, .lst false 4 (fl (enc_TSeg false) x0.Used) x0.Used.length, .int .i64 x0.NextGen, .int .i64 x0.NextSeq, .int .i64 x0.Stamp, .int .i64 x0.NextValid], 0⟩, some ⟨[.int .i64 v3.Stamp, .int .i64 v3.NextGen, .int .i64 v3.NextSeq, .int .i64 v3.NextValid, .lst false 2 (fl (enc_TRef false) v3.Refs) v3.Refs.length], 0⟩, some ⟨[.int .i64 v5.Stamp, .int .i64 v5.NextGen, .int .i64 v5.NextSeq, .int .i64 v5.NextValid, .sl 3 0 v5.Refs.length], 0⟩, some ⟨fl (enc_TRef true) v12.2, 2⟩]) [⟨fl (enc_TRef true) v5.Refs, 2⟩] [⟨fl (enc_TRef true) v12.2, 2⟩] [3] ok_laws_markCheck (law_laws_markCheck_w (guardO_s e12)) (.cons rfl (ek_TRef.fref _ _) (ek_TRef.fown _) .nil) rfl (.cons (RnL.agg (.cons (.dat .int) (.cons (.dat .int) (.cons (.dat .int) (.cons (.dat .int) (.cons (.slq rfl rfl) .nil)))))) (.cons (.dat .int) .nil)) .int rfl rfl ?_)
      refine rl.run 1 rfl (rl.done (RW.sreg (rl.run 1 rfl (rl.done (RW.sreg (rl.run 2 rfl ?_))))))
      obtain ⟨v13, e13, h23⟩ := bindS h22
      refine rl.call rfl rfl rfl (CallW.val (r' := .int .i64 v13) ok_laws_heldCheck (law_laws_heldCheck e13) (.cons (DFL.agg (.cons .int (.cons .int (.cons .int (.cons .int (.cons (.slq ek_TRef rfl (guardO_p (p := fun r : Int × (List TRef) => v5.Refs.length = r.2.length) e12)) .nil)))))) (.cons .int .nil)) .refl ?_)
      refine rl.run 1 rfl (rl.done (RW.seq (RW.sreg (rl.run 1 rfl ?_))))
      refine rl.gen rfl rfl fun b hb => ?_
      cases b
      ·have h24 := iteBF h23 hb
       refine rl.done (RW.cond_f rfl (RW.skip (RW.seq (RW.sreg (rl.run 2 rfl ?_)))))
       refine rl.gen rfl rfl fun b hb => ?_
       cases b
       ·have h25 := iteBF h24 hb
        refine rl.done ?_
        refine RW.keep [1, 4, 6, 8, 53] (a' := [(1, .ptr 0 0), (4, .ptr 1 0), (6, .ptr 2 0), (8, .int .i64 v12.1), (53, .bool false)]) (H' := [some ⟨[.lst false 1 (fl (encS false) x0.Disk.Sectors) x0.Disk.Sectors.length, .lst false 2 (fl (enc_TWrite false) x0.Disk.Cache) x0.Disk.Cache.length, .int .i64 x0.Segs, .lst false 4 (fl (enc_TSeg false) x0.Used) x0.Used.length, .int .i64 x0.NextGen, .int .i64 x0.NextSeq, .int .i64 x0.Stamp, .int .i64 x0.NextValid], 0⟩, some ⟨[.int .i64 v3.Stamp, .int .i64 v3.NextGen, .int .i64 v3.NextSeq, .int .i64 v3.NextValid, .lst false 2 (fl (enc_TRef false) v3.Refs) v3.Refs.length], 0⟩, some ⟨[.int .i64 v5.Stamp, .int .i64 v5.NextGen, .int .i64 v5.NextSeq, .int .i64 v5.NextValid, .sl 3 0 v5.Refs.length], 0⟩, some ⟨fl (enc_TRef true) v12.2, 2⟩]) rfl rfl ?_
        refine RW.cond_f rfl (RW.skip (RW.sreg (rl.run 1 rfl ?_)))
        obtain ⟨v14, e14, h26⟩ := bindS h25
        refine rl.call rfl rfl rfl (CallW.val (r' := .agg (enc_TLog false v14)) ok_laws_toLog (law_laws_toLog e14) (.cons (DFL.agg (.cons (.lst ekS) (.cons (.lst ek_TWrite) (.cons .int (.cons (.lst ek_TSeg) (.cons .int (.cons .int (.cons .int (.cons .int .nil))))))))) .nil) (ek_TLog.flag _).agg ?_)
        obtain ⟨v15, e15, h27⟩ := bindS h26
        refine rl.call rfl rfl rfl (CallW.val (r' := .agg (enc_TCheck false v15)) ok_impl_CheckOf (law_impl_CheckOf e15) (.cons (.dat (.agg (ek_TLog.dat false _))) .nil) (ek_TCheck.flag _).agg ?_)
        refine rl.run 2 rfl (rl.done (RW.seq (RW.sreg (rl.run 2 rfl ?_))))
        obtain ⟨v16, e16, h28⟩ := bindS h27
        refine rl.call rfl rfl rfl (CallW.val (r' := .bool v16) ok_laws_eqCheck (law_laws_eqCheck e16) (.cons (DFL.agg (.cons .int (.cons .int (.cons .int (.cons .int (.cons (.lst ek_TRef) .nil)))))) (.cons (DFL.agg (.cons .int (.cons .int (.cons .int (.cons .int (.cons (.lst ek_TRef) .nil)))))) .nil)) .refl ?_)
        cases hb : v16
        ·have h29 := iteBF h28 hb
         refine rl.run 1 rfl (rl.done (RW.cond_t rfl (RW.sreg (rl.run 1 rfl (rl.done ?_)))))
         refine RW.keep [2] (a' := [(2, .bool false)]) (H' := [some ⟨[.lst false 1 (fl (encS false) x0.Disk.Sectors) x0.Disk.Sectors.length, .lst false 2 (fl (enc_TWrite false) x0.Disk.Cache) x0.Disk.Cache.length, .int .i64 x0.Segs, .lst false 4 (fl (enc_TSeg false) x0.Used) x0.Used.length, .int .i64 x0.NextGen, .int .i64 x0.NextSeq, .int .i64 x0.Stamp, .int .i64 x0.NextValid], 0⟩, some ⟨[.int .i64 v3.Stamp, .int .i64 v3.NextGen, .int .i64 v3.NextSeq, .int .i64 v3.NextValid, .lst false 2 (fl (enc_TRef false) v3.Refs) v3.Refs.length], 0⟩, some ⟨[.int .i64 v5.Stamp, .int .i64 v5.NextGen, .int .i64 v5.NextSeq, .int .i64 v5.NextValid, .sl 3 0 v5.Refs.length], 0⟩, some ⟨fl (enc_TRef true) v12.2, 2⟩, some ⟨[.int .i64 v15.Stamp, .int .i64 v15.NextGen, .int .i64 v15.NextSeq, .int .i64 v15.NextValid, .lst false 2 (fl (enc_TRef false) v15.Refs) v15.Refs.length], 0⟩]) rfl rfl ?_
         refine RW.ret ?_
         cases h29
         exact RRet.mk rfl .bool (by first | decide | simp)
        ·have h30 := iteBT h28 hb
         refine rl.run 1 rfl (rl.done (RW.cond_f rfl (RW.skip (RW.sreg (rl.run 1 rfl (rl.done ?_))))))
         refine RW.keep [6, 8, 9] (a' := [(6, .ptr 2 0), (8, .int .i64 v12.1), (9, .int .i64 1)]) (H' := [some ⟨[.lst false 1 (fl (encS false) x0.Disk.Sectors) x0.Disk.Sectors.length, .lst false 2 (fl (enc_TWrite false) x0.Disk.Cache) x0.Disk.Cache.length, .int .i64 x0.Segs, .lst false 4 (fl (enc_TSeg false) x0.Used) x0.Used.length, .int .i64 x0.NextGen, .int .i64 x0.NextSeq, .int .i64 x0.Stamp, .int .i64 x0.NextValid], 0⟩, some ⟨[.int .i64 v3.Stamp, .int .i64 v3.NextGen, .int .i64 v3.NextSeq, .int .i64 v3.NextValid, .lst false 2 (fl (enc_TRef false) v3.Refs) v3.Refs.length], 0⟩, some ⟨[.int .i64 v5.Stamp, .int .i64 v5.NextGen, .int .i64 v5.NextSeq, .int .i64 v5.NextValid, .sl 3 0 v5.Refs.length], 0⟩, some ⟨fl (enc_TRef true) v12.2, 2⟩, some ⟨[.int .i64 v15.Stamp, .int .i64 v15.NextGen, .int .i64 v15.NextSeq, .int .i64 v15.NextValid, .lst false 2 (fl (enc_TRef false) v15.Refs) v15.Refs.length], 0⟩]) rfl rfl ?_
         refine RW.sreg (rl.run 2 rfl ?_)
         obtain ⟨v17, e17, h31⟩ := bindS h30
         refine rl.call rfl rfl rfl (CallW.val (r' := .int .i64 v17) ok_laws_heldCheck (law_laws_heldCheck e17) (.cons (DFL.agg (.cons .int (.cons .int (.cons .int (.cons .int (.cons (.slq ek_TRef rfl (guardO_p (p := fun r : Int × (List TRef) => v5.Refs.length = r.2.length) e12)) .nil)))))) (.cons .int .nil)) .refl ?_)
         refine rl.run 1 rfl (rl.done (RW.seq (RW.sreg (rl.run 1 rfl ?_))))
         refine rl.gen rfl rfl fun b hb => ?_
         cases b
         ·have h32 := iteBF h31 hb
          refine rl.done (RW.cond_f rfl (RW.skip (RW.seq (RW.sreg (rl.run 2 rfl ?_)))))
          refine rl.gen rfl rfl fun b hb => ?_
          cases b
          ·have h33 := iteBF h32 hb
           refine rl.done (RW.cond_f rfl (RW.skip (RW.sreg (rl.run 1 rfl (rl.done ?_)))))
           refine RW.keep [2] (a' := [(2, .bool true)]) (H' := [some ⟨[.lst false 1 (fl (encS false) x0.Disk.Sectors) x0.Disk.Sectors.length, .lst false 2 (fl (enc_TWrite false) x0.Disk.Cache) x0.Disk.Cache.length, .int .i64 x0.Segs, .lst false 4 (fl (enc_TSeg false) x0.Used) x0.Used.length, .int .i64 x0.NextGen, .int .i64 x0.NextSeq, .int .i64 x0.Stamp, .int .i64 x0.NextValid], 0⟩, some ⟨[.int .i64 v3.Stamp, .int .i64 v3.NextGen, .int .i64 v3.NextSeq, .int .i64 v3.NextValid, .lst false 2 (fl (enc_TRef false) v3.Refs) v3.Refs.length], 0⟩, some ⟨[.int .i64 v5.Stamp, .int .i64 v5.NextGen, .int .i64 v5.NextSeq, .int .i64 v5.NextValid, .sl 3 0 v5.Refs.length], 0⟩, some ⟨fl (enc_TRef true) v12.2, 2⟩, some ⟨[.int .i64 v15.Stamp, .int .i64 v15.NextGen, .int .i64 v15.NextSeq, .int .i64 v15.NextValid, .lst false 2 (fl (enc_TRef false) v15.Refs) v15.Refs.length], 0⟩]) rfl rfl ?_
           refine RW.ret ?_
           cases h33
           exact RRet.mk rfl .bool (by first | decide | simp)
          ·have h34 := iteBT h32 hb
           refine rl.done (RW.cond_t rfl (RW.sreg (rl.run 1 rfl (rl.done ?_))))
           refine RW.keep [2] (a' := [(2, .bool false)]) (H' := [some ⟨[.lst false 1 (fl (encS false) x0.Disk.Sectors) x0.Disk.Sectors.length, .lst false 2 (fl (enc_TWrite false) x0.Disk.Cache) x0.Disk.Cache.length, .int .i64 x0.Segs, .lst false 4 (fl (enc_TSeg false) x0.Used) x0.Used.length, .int .i64 x0.NextGen, .int .i64 x0.NextSeq, .int .i64 x0.Stamp, .int .i64 x0.NextValid], 0⟩, some ⟨[.int .i64 v3.Stamp, .int .i64 v3.NextGen, .int .i64 v3.NextSeq, .int .i64 v3.NextValid, .lst false 2 (fl (enc_TRef false) v3.Refs) v3.Refs.length], 0⟩, some ⟨[.int .i64 v5.Stamp, .int .i64 v5.NextGen, .int .i64 v5.NextSeq, .int .i64 v5.NextValid, .sl 3 0 v5.Refs.length], 0⟩, some ⟨fl (enc_TRef true) v12.2, 2⟩, some ⟨[.int .i64 v15.Stamp, .int .i64 v15.NextGen, .int .i64 v15.NextSeq, .int .i64 v15.NextValid, .lst false 2 (fl (enc_TRef false) v15.Refs) v15.Refs.length], 0⟩]) rfl rfl ?_
           refine RW.ret ?_
           cases h34
           exact RRet.mk rfl .bool (by first | decide | simp)
         ·have h35 := iteBT h31 hb
          refine rl.done (RW.cond_t rfl (RW.sreg (rl.run 1 rfl (rl.done (RW.ret ?_)))))
          cases h35
          exact RRet.mk rfl .bool (by first | decide | simp)
       ·have h36 := iteBT h24 hb
        refine rl.done ?_
        refine RW.keep [1, 4, 6, 8, 53] (a' := [(1, .ptr 0 0), (4, .ptr 1 0), (6, .ptr 2 0), (8, .int .i64 v12.1), (53, .bool true)]) (H' := [some ⟨[.lst false 1 (fl (encS false) x0.Disk.Sectors) x0.Disk.Sectors.length, .lst false 2 (fl (enc_TWrite false) x0.Disk.Cache) x0.Disk.Cache.length, .int .i64 x0.Segs, .lst false 4 (fl (enc_TSeg false) x0.Used) x0.Used.length, .int .i64 x0.NextGen, .int .i64 x0.NextSeq, .int .i64 x0.Stamp, .int .i64 x0.NextValid], 0⟩, some ⟨[.int .i64 v3.Stamp, .int .i64 v3.NextGen, .int .i64 v3.NextSeq, .int .i64 v3.NextValid, .lst false 2 (fl (enc_TRef false) v3.Refs) v3.Refs.length], 0⟩, some ⟨[.int .i64 v5.Stamp, .int .i64 v5.NextGen, .int .i64 v5.NextSeq, .int .i64 v5.NextValid, .sl 3 0 v5.Refs.length], 0⟩, some ⟨fl (enc_TRef true) v12.2, 2⟩]) rfl rfl ?_
        refine RW.cond_t rfl (RW.sreg (rl.run 1 rfl (rl.done (RW.ret ?_))))
        cases h36
        exact RRet.mk rfl .bool (by first | decide | simp)
      ·have h37 := iteBT h23 hb
       refine rl.done (RW.cond_t rfl (RW.sreg (rl.run 1 rfl (rl.done ?_))))
       refine RW.keep [2] (a' := [(2, .bool false)]) (H' := [some ⟨[.lst false 1 (fl (encS false) x0.Disk.Sectors) x0.Disk.Sectors.length, .lst false 2 (fl (enc_TWrite false) x0.Disk.Cache) x0.Disk.Cache.length, .int .i64 x0.Segs, .lst false 4 (fl (enc_TSeg false) x0.Used) x0.Used.length, .int .i64 x0.NextGen, .int .i64 x0.NextSeq, .int .i64 x0.Stamp, .int .i64 x0.NextValid], 0⟩, some ⟨[.int .i64 v3.Stamp, .int .i64 v3.NextGen, .int .i64 v3.NextSeq, .int .i64 v3.NextValid, .lst false 2 (fl (enc_TRef false) v3.Refs) v3.Refs.length], 0⟩, some ⟨[.int .i64 v5.Stamp, .int .i64 v5.NextGen, .int .i64 v5.NextSeq, .int .i64 v5.NextValid, .sl 3 0 v5.Refs.length], 0⟩, some ⟨fl (enc_TRef true) v12.2, 2⟩]) rfl rfl ?_
       refine RW.ret ?_
       cases h37
       exact RRet.mk rfl .bool (by first | decide | simp)
     ·have h38 := iteBT h15 hb
      refine RW.cond_t rfl (RW.sreg (rl.run 1 rfl (rl.done (RW.ret ?_))))
      cases h38
      exact RRet.mk rfl .bool (by first | decide | simp)
 ·have h39 := iteBT h1 hb
  refine rl.done (RW.cond_t rfl (RW.sreg (rl.run 1 rfl (rl.done (RW.ret ?_)))))
  cases h39
  exact RRet.mk rfl .bool (by first | decide | simp)
end Go.Proofs.Ytgdcbjoaoagbpaa.V
