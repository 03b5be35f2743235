/- What a call comes to. -/
import Derived.Test.YtgdcbjoaoagbpaaGreatXD1
namespace Go.Proofs.YtgdcbjoaoagbpaaGreat.V
open Go Go.Proofs Go.RowKit
set_option maxRecDepth 100000
theorem law_impl_VictimOf {x0 : TStore} {r : Int} (hF : F_impl_VictimOf x0 = some r) : PCalls Tryz.prog 14 [.agg (enc_TStore false x0)] (.int .i64 r) := by
 refine PCalls.of_r k_impl_VictimOf rfl ?_
 unfold F_impl_VictimOf at hF
 refine RW.sreg (rl.run 2 rfl (rl.done (RW.sreg (rl.run 2 rfl (rl.done (RW.seq (RW.sreg (rl.run 5 rfl (rl.done ?_)))))))))
 obtain ⟨y4, ey4, h2⟩ := bindS hF
 refine RW.cutq (σ := Int) (fun y2 => [(3, .int .i64 y2)]) (fun y2 => []) (fun y => y4 = y) (fun _ _ _ _ g h => RW.gh g h) ?_ ?_
 ·refine RW.blk ?_
  refine RW.iter (σ := Int × Int × Int) ey4 (fun s1 => [(1, .ptr 0 0), (3, .int .i64 s1.1), (4, .int .i64 s1.2.1), (10, .int .i64 (x0.Log.Used.length : Int)), (11, .int .i64 s1.2.2)]) (fun s1 => [some ⟨[.lst false 1 (fl (encS false) x0.Log.Disk.Sectors) x0.Log.Disk.Sectors.length, .lst false 2 (fl (enc_TWrite false) x0.Log.Disk.Cache) x0.Log.Disk.Cache.length, .int .i64 x0.Log.Segs, .lst false 4 (fl (enc_TSeg false) x0.Log.Used) x0.Log.Used.length, .int .i64 x0.Log.NextGen, .int .i64 x0.Log.NextSeq, .int .i64 x0.Log.Stamp, .int .i64 x0.Log.NextValid, .lst false 1 (fl (encI false) x0.Freed) x0.Freed.length], 0⟩]) (Gh.ren0 [0] (.cells rfl rfl (.keep (ekS.rlst) (.keep (ek_TWrite.rlst) (.keep .int (.keep (ek_TSeg.rlst) (.keep .int (.keep .int (.keep .int (.keep .int (.keep (ekI.rlst) .nil))))))))) .nil) rfl (.cons rfl (.ptr rfl) (.cons rfl (.dat .int) (.cons rfl (.dat .int) (.cons rfl (.dat .int) (.cons rfl (.dat .int) .nil)))))) (fun s1 B o hS1 hB1 hE1 => ?_)
  unfold S_impl_VictimOf_1 at hS1
  refine RW.sreg ?_
  refine rl.gen rfl rfl fun b hb => ?_
  cases b
  ·have h3 := iteBF hS1 hb
   refine rl.done (RW.seq (RW.cond_f rfl (RW.exit (blkA_eq ?_))))
   cases h3
   exact ⟨_, (hE1 _ rfl).symm, (Gh.ren0 [] .nil rfl (.cons rfl (.dat .int) .nil))⟩
  ·have h4 := iteBT hS1 hb
   refine rl.done (RW.seq (RW.cond_t rfl (RW.skip (RW.seq (RW.blk (RW.sreg (rl.run 2 rfl (rl.done (RW.sreg (rl.run 2 rfl ?_))))))))))
   obtain ⟨v3, e3, h5⟩ := bindS h4
   refine rl.call rfl rfl rfl (CallW.val (r' := .int .i64 v3) ok_impl_GainOf (law_impl_GainOf e3) (.cons (DFL.agg (.cons (.lst ekS) (.cons (.lst ek_TWrite) (.cons .int (.cons (.lst ek_TSeg) (.cons .int (.cons .int (.cons .int (.cons .int (.cons (.lst ekI) .nil)))))))))) (.cons .int .nil)) .refl ?_)
   refine rl.run 1 rfl (rl.done (RW.sreg (rl.run 2 rfl ?_)))
   refine rl.gen rfl rfl fun b hb => ?_
   cases b
   ·have h6 := iteBF h5 hb
    refine rl.done (RW.cond_f rfl (RW.skip (RW.reg (rl.run 2 rfl (rl.done ?_)))))
    cases h6
    exact hB1 _ rfl _ _ (Gh.ren0 [0] (.cells rfl rfl (.keep (ekS.rlst) (.keep (ek_TWrite.rlst) (.keep .int (.keep (ek_TSeg.rlst) (.keep .int (.keep .int (.keep .int (.keep .int (.keep (ekI.rlst) .nil))))))))) .nil) rfl (.cons rfl (.ptr rfl) (.cons rfl (.dat .int) (.cons rfl (.dat .int) (.cons rfl (.dat .int) (.cons rfl (.dat .int) .nil))))))
   ·have h7 := iteBT h5 hb
    refine rl.done (RW.cond_t rfl (RW.reg (rl.run 4 rfl (rl.done (RW.reg (rl.run 2 rfl (rl.done ?_)))))))
    cases h7
    exact hB1 _ rfl _ _ (Gh.ren0 [0] (.cells rfl rfl (.keep (ekS.rlst) (.keep (ek_TWrite.rlst) (.keep .int (.keep (ek_TSeg.rlst) (.keep .int (.keep .int (.keep .int (.keep .int (.keep (ekI.rlst) .nil))))))))) .nil) rfl (.cons rfl (.ptr rfl) (.cons rfl (.dat .int) (.cons rfl (.dat .int) (.cons rfl (.dat .int) (.cons rfl (.dat .int) .nil))))))
 ·intro y2 hC
  subst hC
  refine RW.sreg (rl.run 2 rfl (rl.done (RW.ret ?_)))
  cases h2
  exact RRet.mk rfl .int (by first | decide | simp)
theorem law_laws_szStringS {x0 : List (List UInt8)} {x1 : Int} {r : Int} (hF : F_laws_szStringS x0 x1 = some r) : PCalls Tryz.prog 43 [.lst false 1 (fl (encS false) x0) x0.length, .int .i64 x1] (.int .i64 r) := by
 refine PCalls.of_r k_laws_szStringS rfl ?_
 unfold F_laws_szStringS at hF
 refine RW.sreg (rl.run 1 rfl (rl.done (RW.sreg (rl.run 5 rfl (rl.done (RW.seq (RW.sreg (rl.run 1 rfl ?_))))))))
 refine rl.gen rfl rfl fun b hb => ?_
 cases b
 ·have h1 := iteBF hF hb
  refine rl.done (RW.cond_f rfl (RW.skip (RW.seq (RW.sreg (rl.run 1 rfl (rl.done ?_))))))
  obtain ⟨y4, ey4, h3⟩ := bindS h1
  refine RW.cutq (σ := Int) (fun y2 => [(1, .int .i64 y2)]) (fun y2 => []) (fun y => y4 = .inr y) (fun _ _ _ _ g h => RW.gh g h) ?_ ?_
  ·refine RW.blk ?_
   refine RW.iter (σ := Int × Int) ey4 (fun s1 => [(0, .lst false 1 (fl (encS false) x0) x0.length), (1, .int .i64 s1.1), (5, .int .i64 s1.2)]) (fun s1 => []) (Gh.ren0 [] .nil rfl (.cons rfl (.dat (ekS.rlst)) (.cons rfl (.dat .int) (.cons rfl (.dat .int) .nil)))) (fun s1 B o hS2 hB2 hE2 => ?_)
   unfold S_laws_szStringS_1 at hS2
   refine RW.seq (RW.sreg (rl.run 3 rfl ?_))
   refine rl.gen rfl rfl fun b hb => ?_
   cases b
   ·have h4 := iteBF hS2 hb
    refine rl.done (RW.cond_f rfl (RW.exit (blkA_eq ?_)))
    cases h4
    exact ⟨_, (hE2 _ rfl).symm, (Gh.ren0 [] .nil rfl (.cons rfl (.dat .int) .nil))⟩
   ·have h5 := iteBT hS2 hb
    refine rl.done (RW.cond_t rfl (RW.skip (RW.seq (RW.blk (RW.sreg (rl.run 3 rfl ?_))))))
    obtain ⟨v3, e3, h6⟩ := bindS h5
    refine rl.op (x_ia_lst (enc := encS) (o := false) rfl rfl rfl e3) ?_
    refine rl.op (x_ld_el (off' := 0) ekS rfl e3 rfl rfl rfl) ?_
    refine rl.run 3 rfl (rl.done ?_)
    refine RW.keep [0, 1, 5] (a' := [(0, .lst false 1 (fl (encS false) x0) x0.length), (1, .int .i64 (w64 (s1.1 - (v3.length : Int)))), (5, .int .i64 s1.2)]) (H' := []) rfl rfl ?_
    refine RW.sreg (rl.run 1 rfl ?_)
    refine rl.gen rfl rfl fun b hb => ?_
    cases b
    ·have h7 := iteBF h6 hb
     refine rl.done (RW.cond_f rfl (RW.skip (RW.reg (rl.run 3 rfl (rl.done ?_)))))
     cases h7
     exact hB2 _ rfl _ _ (Gh.ren0 [] .nil rfl (.cons rfl (.dat (ekS.rlst)) (.cons rfl (.dat .int) (.cons rfl (.dat .int) .nil))))
    ·have h8 := iteBT h6 hb
     refine rl.done (RW.cond_t rfl (RW.sreg (rl.run 1 rfl (rl.done (RW.ret ?_)))))
     cases h8
     have h9 := elimL h3 (hE2 _ rfl)
     cases h9
     exact RRet.mk rfl .int (by first | decide | simp)
  ·intro y2 hC
   have h3 := elimR h3 hC
   refine RW.sreg (rl.run 2 rfl (rl.done (RW.ret ?_)))
   cases h3
   exact RRet.mk rfl .int (by first | decide | simp)
 ·have h10 := iteBT hF hb
  refine rl.done (RW.cond_t rfl (RW.sreg (rl.run 1 rfl (rl.done (RW.ret ?_)))))
  cases h10
  exact RRet.mk rfl .int (by first | decide | simp)
theorem law_laws_szWrite {x0 : TWrite} {x1 : Int} {r : Int} (hF : F_laws_szWrite x0 x1 = some r) : PCalls Tryz.prog 63 [.agg (enc_TWrite false x0), .int .i64 x1] (.int .i64 r) := by
 refine PCalls.of_r k_laws_szWrite rfl ?_
 unfold F_laws_szWrite at hF
 refine RW.sreg (rl.run 2 rfl (rl.done (RW.sreg (rl.run 6 rfl (rl.done (RW.seq (RW.sreg (rl.run 1 rfl ?_))))))))
 refine rl.gen rfl rfl fun b hb => ?_
 cases b
 ·have h1 := iteBF hF hb
  refine rl.done (RW.cond_f rfl (RW.skip (RW.sreg (rl.run 2 rfl (rl.done ?_)))))
  refine RW.keep [4] (a' := [(4, .int .i64 (w64 (x1 - (x0.Text.length : Int))))]) (H' := [some ⟨[.int .i64 x0.At, .str x0.Text], 0⟩]) rfl rfl ?_
  refine RW.ret ?_
  cases h1
  exact RRet.mk rfl .int (by first | decide | simp)
 ·have h2 := iteBT hF hb
  refine rl.done (RW.cond_t rfl (RW.sreg (rl.run 1 rfl (rl.done (RW.ret ?_)))))
  cases h2
  exact RRet.mk rfl .int (by first | decide | simp)
theorem law_laws_szWriteS {x0 : List TWrite} {x1 : Int} {r : Int} (hF : F_laws_szWriteS x0 x1 = some r) : PCalls Tryz.prog 44 [.lst false 2 (fl (enc_TWrite false) x0) x0.length, .int .i64 x1] (.int .i64 r) := by
 refine PCalls.of_r k_laws_szWriteS rfl ?_
 unfold F_laws_szWriteS at hF
 refine RW.sreg (rl.run 1 rfl (rl.done (RW.sreg (rl.run 5 rfl (rl.done (RW.seq (RW.sreg (rl.run 1 rfl ?_))))))))
 refine rl.gen rfl rfl fun b hb => ?_
 cases b
 ·have h1 := iteBF hF hb
  refine rl.done (RW.cond_f rfl (RW.skip (RW.seq (RW.sreg (rl.run 1 rfl (rl.done ?_))))))
  obtain ⟨y5, ey5, h3⟩ := bindS h1
  refine RW.cutq (σ := Int) (fun y2 => [(1, .int .i64 y2)]) (fun y2 => []) (fun y => y5 = .inr y) (fun _ _ _ _ g h => RW.gh g h) ?_ ?_
  ·refine RW.blk ?_
   refine RW.iter (σ := Int × Int) ey5 (fun s1 => [(0, .lst false 2 (fl (enc_TWrite false) x0) x0.length), (1, .int .i64 s1.1), (5, .int .i64 s1.2)]) (fun s1 => []) (Gh.ren0 [] .nil rfl (.cons rfl (.dat (ek_TWrite.rlst)) (.cons rfl (.dat .int) (.cons rfl (.dat .int) .nil)))) (fun s1 B o hS2 hB2 hE2 => ?_)
   unfold S_laws_szWriteS_1 at hS2
   refine RW.seq (RW.sreg (rl.run 3 rfl ?_))
   refine rl.gen rfl rfl fun b hb => ?_
   cases b
   ·have h4 := iteBF hS2 hb
    refine rl.done (RW.cond_f rfl (RW.exit (blkA_eq ?_)))
    cases h4
    exact ⟨_, (hE2 _ rfl).symm, (Gh.ren0 [] .nil rfl (.cons rfl (.dat .int) .nil))⟩
   ·have h5 := iteBT hS2 hb
    refine rl.done (RW.cond_t rfl (RW.skip (RW.seq (RW.blk (RW.sreg (rl.run 2 rfl ?_))))))
    obtain ⟨v3, e3, h6⟩ := bindS h5
    refine rl.op (x_ia_lst (enc := enc_TWrite) (o := false) rfl rfl rfl e3) ?_
    refine rl.op (x_ld_ela (off' := 0) (vs := (enc_TWrite false v3)) ek_TWrite rfl e3 rfl rfl rfl) ?_
    refine rl.run 1 rfl ?_
    obtain ⟨v4, e4, h7⟩ := bindS h6
    refine rl.call rfl rfl rfl (CallW.val (r' := .int .i64 v4) ok_laws_szWrite (law_laws_szWrite e4) (.cons (.dat (.agg (ek_TWrite.dat false _))) (.cons .int .nil)) .refl ?_)
    refine rl.run 1 rfl (rl.done (RW.sreg (rl.run 1 rfl ?_)))
    refine rl.gen rfl rfl fun b hb => ?_
    cases b
    ·have h8 := iteBF h7 hb
     refine rl.done ?_
     refine RW.keep [0, 1, 5, 25] (a' := [(0, .lst false 2 (fl (enc_TWrite false) x0) x0.length), (1, .int .i64 v4), (5, .int .i64 s1.2), (25, .bool false)]) (H' := []) rfl rfl ?_
     refine RW.cond_f rfl (RW.skip (RW.reg (rl.run 3 rfl (rl.done ?_))))
     cases h8
     exact hB2 _ rfl _ _ (Gh.ren0 [] .nil rfl (.cons rfl (.dat (ek_TWrite.rlst)) (.cons rfl (.dat .int) (.cons rfl (.dat .int) .nil))))
    ·have h9 := iteBT h7 hb
     refine rl.done ?_
     refine RW.keep [0, 1, 5, 25] (a' := [(0, .lst false 2 (fl (enc_TWrite false) x0) x0.length), (1, .int .i64 v4), (5, .int .i64 s1.2), (25, .bool true)]) (H' := []) rfl rfl ?_
     refine RW.cond_t rfl (RW.sreg (rl.run 1 rfl (rl.done (RW.ret ?_))))
     cases h9
     have h10 := elimL h3 (hE2 _ rfl)
     cases h10
     exact RRet.mk rfl .int (by first | decide | simp)
  ·intro y2 hC
   have h3 := elimR h3 hC
   refine RW.sreg (rl.run 2 rfl (rl.done (RW.ret ?_)))
   cases h3
   exact RRet.mk rfl .int (by first | decide | simp)
 ·have h11 := iteBT hF hb
  refine rl.done (RW.cond_t rfl (RW.sreg (rl.run 1 rfl (rl.done (RW.ret ?_)))))
  cases h11
  exact RRet.mk rfl .int (by first | decide | simp)
theorem law_laws_szDisk {x0 : TDisk} {x1 : Int} {r : Int} (hF : F_laws_szDisk x0 x1 = some r) : PCalls Tryz.prog 26 [.agg (enc_TDisk false x0), .int .i64 x1] (.int .i64 r) := by
 refine PCalls.of_r k_laws_szDisk rfl ?_
 unfold F_laws_szDisk at hF
 refine RW.sreg (rl.run 2 rfl (rl.done (RW.sreg (rl.run 3 rfl ?_))))
 obtain ⟨v1, e1, h1⟩ := bindS hF
 refine rl.call rfl rfl rfl (CallW.val (r' := .int .i64 v1) ok_laws_szStringS (law_laws_szStringS e1) (.cons (.lst ekS) (.cons .int .nil)) .refl ?_)
 refine rl.run 1 rfl (rl.done (RW.seq (RW.sreg (rl.run 1 rfl ?_))))
 refine rl.gen rfl rfl fun b hb => ?_
 cases b
 ·have h2 := iteBF h1 hb
  refine rl.done (RW.cond_f rfl (RW.skip (RW.sreg (rl.run 3 rfl ?_))))
  obtain ⟨v2, e2, h3⟩ := bindS h2
  refine rl.call rfl rfl rfl (CallW.val (r' := .int .i64 v2) ok_laws_szWriteS (law_laws_szWriteS e2) (.cons (.lst ek_TWrite) (.cons .int .nil)) .refl ?_)
  refine rl.run 1 rfl (rl.done ?_)
  refine RW.keep [1] (a' := [(1, .int .i64 v2)]) (H' := [some ⟨[.lst false 1 (fl (encS false) x0.Sectors) x0.Sectors.length, .lst false 2 (fl (enc_TWrite false) x0.Cache) x0.Cache.length], 0⟩]) rfl rfl ?_
  refine RW.seq (RW.sreg (rl.run 1 rfl ?_))
  refine rl.gen rfl rfl fun b hb => ?_
  cases b
  ·have h4 := iteBF h3 hb
   refine rl.done (RW.cond_f rfl (RW.skip (RW.sreg (rl.run 2 rfl (rl.done (RW.ret ?_))))))
   cases h4
   exact RRet.mk rfl .int (by first | decide | simp)
  ·have h5 := iteBT h3 hb
   refine rl.done (RW.cond_t rfl (RW.sreg (rl.run 1 rfl (rl.done (RW.ret ?_)))))
   cases h5
   exact RRet.mk rfl .int (by first | decide | simp)
 ·have h6 := iteBT h1 hb
  refine rl.done (RW.cond_t rfl (RW.sreg (rl.run 1 rfl (rl.done (RW.ret ?_)))))
  cases h6
  exact RRet.mk rfl .int (by first | decide | simp)
theorem law_laws_szRec {x0 : TRec} {x1 : Int} {r : Int} (hF : F_laws_szRec x0 x1 = some r) : PCalls Tryz.prog 102 [.agg (enc_TRec false x0), .int .i64 x1] (.int .i64 r) := by
 refine PCalls.of_r k_laws_szRec rfl ?_
 unfold F_laws_szRec at hF
 refine RW.sreg (rl.run 2 rfl (rl.done (RW.sreg (rl.run 6 rfl (rl.done (RW.seq (RW.sreg (rl.run 1 rfl ?_))))))))
 refine rl.gen rfl rfl fun b hb => ?_
 cases b
 ·have h1 := iteBF hF hb
  refine rl.done (RW.cond_f rfl (RW.skip (RW.sreg (rl.run 6 rfl (rl.done ?_)))))
  refine RW.keep [1, 2] (a' := [(1, .int .i64 (w64 ((w64 (x1 - (x0.User.length : Int))) - (x0.Name.length : Int)))), (2, .ptr 0 0)]) (H' := [some ⟨[.int .i64 x0.Kind, .int .i64 x0.Valid, .int .i64 x0.Uid, .int .i64 x0.Next, .int .i64 x0.Flags, .str x0.User, .str x0.Name, .str x0.Text], 0⟩]) rfl rfl ?_
  refine RW.seq (RW.sreg (rl.run 1 rfl ?_))
  refine rl.gen rfl rfl fun b hb => ?_
  cases b
  ·have h2 := iteBF h1 hb
   refine rl.done (RW.cond_f rfl (RW.skip (RW.sreg (rl.run 6 rfl (rl.done (RW.seq (RW.sreg (rl.run 1 rfl ?_))))))))
   refine rl.gen rfl rfl fun b hb => ?_
   cases b
   ·have h3 := iteBF h2 hb
    refine rl.done (RW.cond_f rfl (RW.skip (RW.sreg (rl.run 2 rfl (rl.done ?_)))))
    refine RW.keep [4] (a' := [(4, .int .i64 (w64 ((w64 ((w64 (x1 - (x0.User.length : Int))) - (x0.Name.length : Int))) - (x0.Text.length : Int))))]) (H' := [some ⟨[.int .i64 x0.Kind, .int .i64 x0.Valid, .int .i64 x0.Uid, .int .i64 x0.Next, .int .i64 x0.Flags, .str x0.User, .str x0.Name, .str x0.Text], 0⟩]) rfl rfl ?_
    refine RW.ret ?_
    cases h3
    exact RRet.mk rfl .int (by first | decide | simp)
   ·have h4 := iteBT h2 hb
    refine rl.done (RW.cond_t rfl (RW.sreg (rl.run 1 rfl (rl.done ?_))))
    refine RW.keep [4] (a' := [(4, .int .i64 (-1))]) (H' := [some ⟨[.int .i64 x0.Kind, .int .i64 x0.Valid, .int .i64 x0.Uid, .int .i64 x0.Next, .int .i64 x0.Flags, .str x0.User, .str x0.Name, .str x0.Text], 0⟩]) rfl rfl ?_
    refine RW.ret ?_
    cases h4
    exact RRet.mk rfl .int (by first | decide | simp)
  ·have h5 := iteBT h1 hb
   refine rl.done (RW.cond_t rfl (RW.sreg (rl.run 1 rfl (rl.done (RW.ret ?_)))))
   cases h5
   exact RRet.mk rfl .int (by first | decide | simp)
 ·have h6 := iteBT hF hb
  refine rl.done (RW.cond_t rfl (RW.sreg (rl.run 1 rfl (rl.done (RW.ret ?_)))))
  cases h6
  exact RRet.mk rfl .int (by first | decide | simp)
theorem law_laws_szItem {x0 : TItem} {x1 : Int} {r : Int} (hF : F_laws_szItem x0 x1 = some r) : PCalls Tryz.prog 83 [.agg (enc_TItem false x0), .int .i64 x1] (.int .i64 r) := by
 refine PCalls.of_r k_laws_szItem rfl ?_
 unfold F_laws_szItem at hF
 refine RW.sreg (rl.run 2 rfl (rl.done (RW.sreg (rl.run 3 rfl ?_))))
 obtain ⟨v1, e1, h1⟩ := bindS hF
 refine rl.call rfl rfl rfl (CallW.val (r' := .int .i64 v1) ok_laws_szRec (law_laws_szRec e1) (.cons (DFL.agg (.cons .int (.cons .int (.cons .int (.cons .int (.cons .int (.cons .str (.cons .str (.cons .str .nil))))))))) (.cons .int .nil)) .refl ?_)
 refine rl.run 1 rfl (rl.done (RW.seq (RW.sreg (rl.run 1 rfl ?_))))
 refine rl.gen rfl rfl fun b hb => ?_
 cases b
 ·have h2 := iteBF h1 hb
  refine rl.done (RW.cond_f rfl (RW.skip (RW.sreg (rl.run 2 rfl (rl.done (RW.ret ?_))))))
  cases h2
  exact RRet.mk rfl .int (by first | decide | simp)
 ·have h3 := iteBT h1 hb
  refine rl.done (RW.cond_t rfl (RW.sreg (rl.run 1 rfl (rl.done (RW.ret ?_)))))
  cases h3
  exact RRet.mk rfl .int (by first | decide | simp)
theorem law_laws_szItemS {x0 : List TItem} {x1 : Int} {r : Int} (hF : F_laws_szItemS x0 x1 = some r) : PCalls Tryz.prog 64 [.lst false 9 (fl (enc_TItem false) x0) x0.length, .int .i64 x1] (.int .i64 r) := by
 refine PCalls.of_r k_laws_szItemS rfl ?_
 unfold F_laws_szItemS at hF
 refine RW.sreg (rl.run 1 rfl (rl.done (RW.sreg (rl.run 5 rfl (rl.done (RW.seq (RW.sreg (rl.run 1 rfl ?_))))))))
 refine rl.gen rfl rfl fun b hb => ?_
 cases b
 ·have h1 := iteBF hF hb
  refine rl.done (RW.cond_f rfl (RW.skip (RW.seq (RW.sreg (rl.run 1 rfl (rl.done ?_))))))
  obtain ⟨y5, ey5, h3⟩ := bindS h1
  refine RW.cutq (σ := Int) (fun y2 => [(1, .int .i64 y2)]) (fun y2 => []) (fun y => y5 = .inr y) (fun _ _ _ _ g h => RW.gh g h) ?_ ?_
  ·refine RW.blk ?_
   refine RW.iter (σ := Int × Int) ey5 (fun s1 => [(0, .lst false 9 (fl (enc_TItem false) x0) x0.length), (1, .int .i64 s1.1), (5, .int .i64 s1.2)]) (fun s1 => []) (Gh.ren0 [] .nil rfl (.cons rfl (.dat (ek_TItem.rlst)) (.cons rfl (.dat .int) (.cons rfl (.dat .int) .nil)))) (fun s1 B o hS2 hB2 hE2 => ?_)
   unfold S_laws_szItemS_1 at hS2
   refine RW.seq (RW.sreg (rl.run 3 rfl ?_))
   refine rl.gen rfl rfl fun b hb => ?_
   cases b
   ·have h4 := iteBF hS2 hb
    refine rl.done (RW.cond_f rfl (RW.exit (blkA_eq ?_)))
    cases h4
    exact ⟨_, (hE2 _ rfl).symm, (Gh.ren0 [] .nil rfl (.cons rfl (.dat .int) .nil))⟩
   ·have h5 := iteBT hS2 hb
    refine rl.done (RW.cond_t rfl (RW.skip (RW.seq (RW.blk (RW.sreg (rl.run 2 rfl ?_))))))
    obtain ⟨v3, e3, h6⟩ := bindS h5
    refine rl.op (x_ia_lst (enc := enc_TItem) (o := false) rfl rfl rfl e3) ?_
    refine rl.op (x_ld_ela (off' := 0) (vs := (enc_TItem false v3)) ek_TItem rfl e3 rfl rfl rfl) ?_
    refine rl.run 1 rfl ?_
    obtain ⟨v4, e4, h7⟩ := bindS h6
    refine rl.call rfl rfl rfl (CallW.val (r' := .int .i64 v4) ok_laws_szItem (law_laws_szItem e4) (.cons (.dat (.agg (ek_TItem.dat false _))) (.cons .int .nil)) .refl ?_)
    refine rl.run 1 rfl (rl.done (RW.sreg (rl.run 1 rfl ?_)))
    refine rl.gen rfl rfl fun b hb => ?_
    cases b
    ·have h8 := iteBF h7 hb
     refine rl.done ?_
     refine RW.keep [0, 1, 5, 25] (a' := [(0, .lst false 9 (fl (enc_TItem false) x0) x0.length), (1, .int .i64 v4), (5, .int .i64 s1.2), (25, .bool false)]) (H' := []) rfl rfl ?_
     refine RW.cond_f rfl (RW.skip (RW.reg (rl.run 3 rfl (rl.done ?_))))
     cases h8
     exact hB2 _ rfl _ _ (Gh.ren0 [] .nil rfl (.cons rfl (.dat (ek_TItem.rlst)) (.cons rfl (.dat .int) (.cons rfl (.dat .int) .nil))))
    ·have h9 := iteBT h7 hb
     refine rl.done ?_
     refine RW.keep [0, 1, 5, 25] (a' := [(0, .lst false 9 (fl (enc_TItem false) x0) x0.length), (1, .int .i64 v4), (5, .int .i64 s1.2), (25, .bool true)]) (H' := []) rfl rfl ?_
     refine RW.cond_t rfl (RW.sreg (rl.run 1 rfl (rl.done (RW.ret ?_))))
     cases h9
     have h10 := elimL h3 (hE2 _ rfl)
     cases h10
     exact RRet.mk rfl .int (by first | decide | simp)
  ·intro y2 hC
   have h3 := elimR h3 hC
   refine RW.sreg (rl.run 2 rfl (rl.done (RW.ret ?_)))
   cases h3
   exact RRet.mk rfl .int (by first | decide | simp)
 ·have h11 := iteBT hF hb
  refine rl.done (RW.cond_t rfl (RW.sreg (rl.run 1 rfl (rl.done (RW.ret ?_)))))
  cases h11
  exact RRet.mk rfl .int (by first | decide | simp)
theorem law_laws_szSeg {x0 : TSeg} {x1 : Int} {r : Int} (hF : F_laws_szSeg x0 x1 = some r) : PCalls Tryz.prog 45 [.agg (enc_TSeg false x0), .int .i64 x1] (.int .i64 r) := by
 refine PCalls.of_r k_laws_szSeg rfl ?_
 unfold F_laws_szSeg at hF
 refine RW.sreg (rl.run 2 rfl (rl.done (RW.sreg (rl.run 3 rfl ?_))))
 obtain ⟨v1, e1, h1⟩ := bindS hF
 refine rl.call rfl rfl rfl (CallW.val (r' := .int .i64 v1) ok_laws_szItemS (law_laws_szItemS e1) (.cons (.lst ek_TItem) (.cons .int .nil)) .refl ?_)
 refine rl.run 1 rfl (rl.done (RW.seq (RW.sreg (rl.run 1 rfl ?_))))
 refine rl.gen rfl rfl fun b hb => ?_
 cases b
 ·have h2 := iteBF h1 hb
  refine rl.done (RW.cond_f rfl (RW.skip (RW.sreg (rl.run 2 rfl (rl.done (RW.ret ?_))))))
  cases h2
  exact RRet.mk rfl .int (by first | decide | simp)
 ·have h3 := iteBT h1 hb
  refine rl.done (RW.cond_t rfl (RW.sreg (rl.run 1 rfl (rl.done (RW.ret ?_)))))
  cases h3
  exact RRet.mk rfl .int (by first | decide | simp)
theorem law_laws_szSegS {x0 : List TSeg} {x1 : Int} {r : Int} (hF : F_laws_szSegS x0 x1 = some r) : PCalls Tryz.prog 27 [.lst false 4 (fl (enc_TSeg false) x0) x0.length, .int .i64 x1] (.int .i64 r) := by
 refine PCalls.of_r k_laws_szSegS rfl ?_
 unfold F_laws_szSegS at hF
 refine RW.sreg (rl.run 1 rfl (rl.done (RW.sreg (rl.run 5 rfl (rl.done (RW.seq (RW.sreg (rl.run 1 rfl ?_))))))))
 refine rl.gen rfl rfl fun b hb => ?_
 cases b
 ·have h1 := iteBF hF hb
  refine rl.done (RW.cond_f rfl (RW.skip (RW.seq (RW.sreg (rl.run 1 rfl (rl.done ?_))))))
  obtain ⟨y5, ey5, h3⟩ := bindS h1
  refine RW.cutq (σ := Int) (fun y2 => [(1, .int .i64 y2)]) (fun y2 => []) (fun y => y5 = .inr y) (fun _ _ _ _ g h => RW.gh g h) ?_ ?_
  ·refine RW.blk ?_
   refine RW.iter (σ := Int × Int) ey5 (fun s1 => [(0, .lst false 4 (fl (enc_TSeg false) x0) x0.length), (1, .int .i64 s1.1), (5, .int .i64 s1.2)]) (fun s1 => []) (Gh.ren0 [] .nil rfl (.cons rfl (.dat (ek_TSeg.rlst)) (.cons rfl (.dat .int) (.cons rfl (.dat .int) .nil)))) (fun s1 B o hS2 hB2 hE2 => ?_)
   unfold S_laws_szSegS_1 at hS2
   refine RW.seq (RW.sreg (rl.run 3 rfl ?_))
   refine rl.gen rfl rfl fun b hb => ?_
   cases b
   ·have h4 := iteBF hS2 hb
    refine rl.done (RW.cond_f rfl (RW.exit (blkA_eq ?_)))
    cases h4
    exact ⟨_, (hE2 _ rfl).symm, (Gh.ren0 [] .nil rfl (.cons rfl (.dat .int) .nil))⟩
   ·have h5 := iteBT hS2 hb
    refine rl.done (RW.cond_t rfl (RW.skip (RW.seq (RW.blk (RW.sreg (rl.run 2 rfl ?_))))))
    obtain ⟨v3, e3, h6⟩ := bindS h5
    refine rl.op (x_ia_lst (enc := enc_TSeg) (o := false) rfl rfl rfl e3) ?_
    refine rl.op (x_ld_ela (off' := 0) (vs := (enc_TSeg false v3)) ek_TSeg rfl e3 rfl rfl rfl) ?_
    refine rl.run 1 rfl ?_
    obtain ⟨v4, e4, h7⟩ := bindS h6
    refine rl.call rfl rfl rfl (CallW.val (r' := .int .i64 v4) ok_laws_szSeg (law_laws_szSeg e4) (.cons (.dat (.agg (ek_TSeg.dat false _))) (.cons .int .nil)) .refl ?_)
    refine rl.run 1 rfl (rl.done (RW.sreg (rl.run 1 rfl ?_)))
    refine rl.gen rfl rfl fun b hb => ?_
    cases b
    ·have h8 := iteBF h7 hb
     refine rl.done ?_
     refine RW.keep [0, 1, 5, 25] (a' := [(0, .lst false 4 (fl (enc_TSeg false) x0) x0.length), (1, .int .i64 v4), (5, .int .i64 s1.2), (25, .bool false)]) (H' := []) rfl rfl ?_
     refine RW.cond_f rfl (RW.skip (RW.reg (rl.run 3 rfl (rl.done ?_))))
     cases h8
     exact hB2 _ rfl _ _ (Gh.ren0 [] .nil rfl (.cons rfl (.dat (ek_TSeg.rlst)) (.cons rfl (.dat .int) (.cons rfl (.dat .int) .nil))))
    ·have h9 := iteBT h7 hb
     refine rl.done ?_
     refine RW.keep [0, 1, 5, 25] (a' := [(0, .lst false 4 (fl (enc_TSeg false) x0) x0.length), (1, .int .i64 v4), (5, .int .i64 s1.2), (25, .bool true)]) (H' := []) rfl rfl ?_
     refine RW.cond_t rfl (RW.sreg (rl.run 1 rfl (rl.done (RW.ret ?_))))
     cases h9
     have h10 := elimL h3 (hE2 _ rfl)
     cases h10
     exact RRet.mk rfl .int (by first | decide | simp)
  ·intro y2 hC
   have h3 := elimR h3 hC
   refine RW.sreg (rl.run 2 rfl (rl.done (RW.ret ?_)))
   cases h3
   exact RRet.mk rfl .int (by first | decide | simp)
 ·have h11 := iteBT hF hb
  refine rl.done (RW.cond_t rfl (RW.sreg (rl.run 1 rfl (rl.done (RW.ret ?_)))))
  cases h11
  exact RRet.mk rfl .int (by first | decide | simp)
theorem law_laws_szLog {x0 : TLog} {x1 : Int} {r : Int} (hF : F_laws_szLog x0 x1 = some r) : PCalls Tryz.prog 15 [.agg (enc_TLog false x0), .int .i64 x1] (.int .i64 r) := by
 refine PCalls.of_r k_laws_szLog rfl ?_
 unfold F_laws_szLog at hF
 refine RW.sreg (rl.run 2 rfl (rl.done (RW.sreg (rl.run 3 rfl ?_))))
 obtain ⟨v1, e1, h1⟩ := bindS hF
 refine rl.call rfl rfl rfl (CallW.val (r' := .int .i64 v1) ok_laws_szDisk (law_laws_szDisk e1) (.cons (DFL.agg (.cons (.lst ekS) (.cons (.lst ek_TWrite) .nil))) (.cons .int .nil)) .refl ?_)
 refine rl.run 1 rfl (rl.done (RW.seq (RW.sreg (rl.run 1 rfl ?_))))
 refine rl.gen rfl rfl fun b hb => ?_
 cases b
 ·have h2 := iteBF h1 hb
  refine rl.done (RW.cond_f rfl (RW.skip (RW.sreg (rl.run 3 rfl ?_))))
  obtain ⟨v2, e2, h3⟩ := bindS h2
  refine rl.call rfl rfl rfl (CallW.val (r' := .int .i64 v2) ok_laws_szSegS (law_laws_szSegS e2) (.cons (.lst ek_TSeg) (.cons .int .nil)) .refl ?_)
  refine rl.run 1 rfl (rl.done ?_)
  refine RW.keep [1] (a' := [(1, .int .i64 v2)]) (H' := [some ⟨[.lst false 1 (fl (encS false) x0.Disk.Sectors) x0.Disk.Sectors.length, .lst false 2 (fl (enc_TWrite false) x0.Disk.Cache) x0.Disk.Cache.length, .int .i64 x0.Segs, .lst false 4 (fl (enc_TSeg false) x0.Used) x0.Used.length, .int .i64 x0.NextGen, .int .i64 x0.NextSeq, .int .i64 x0.Stamp, .int .i64 x0.NextValid], 0⟩]) rfl rfl ?_
  refine RW.seq (RW.sreg (rl.run 1 rfl ?_))
  refine rl.gen rfl rfl fun b hb => ?_
  cases b
  ·have h4 := iteBF h3 hb
   refine rl.done (RW.cond_f rfl (RW.skip (RW.sreg (rl.run 2 rfl (rl.done (RW.ret ?_))))))
   cases h4
   exact RRet.mk rfl .int (by first | decide | simp)
  ·have h5 := iteBT h3 hb
   refine rl.done (RW.cond_t rfl (RW.sreg (rl.run 1 rfl (rl.done (RW.ret ?_)))))
   cases h5
   exact RRet.mk rfl .int (by first | decide | simp)
 ·have h6 := iteBT h1 hb
  refine rl.done (RW.cond_t rfl (RW.sreg (rl.run 1 rfl (rl.done (RW.ret ?_)))))
  cases h6
  exact RRet.mk rfl .int (by first | decide | simp)
theorem law_laws_szIntS {x0 : List Int} {x1 : Int} {r : Int} (hF : F_laws_szIntS x0 x1 = some r) : PCalls Tryz.prog 16 [.lst false 1 (fl (encI false) x0) x0.length, .int .i64 x1] (.int .i64 r) := by
 refine PCalls.of_r k_laws_szIntS rfl ?_
 unfold F_laws_szIntS at hF
 refine RW.sreg (rl.run 1 rfl (rl.done (RW.sreg (rl.run 5 rfl (rl.done (RW.seq (RW.sreg (rl.run 1 rfl ?_))))))))
 refine rl.gen rfl rfl fun b hb => ?_
 cases b
 ·have h1 := iteBF hF hb
  refine rl.done (RW.cond_f rfl (RW.skip (RW.sreg (rl.run 2 rfl (rl.done (RW.ret ?_))))))
  cases h1
  exact RRet.mk rfl .int (by first | decide | simp)
 ·have h2 := iteBT hF hb
  refine rl.done (RW.cond_t rfl (RW.sreg (rl.run 1 rfl (rl.done (RW.ret ?_)))))
  cases h2
  exact RRet.mk rfl .int (by first | decide | simp)
theorem law_laws_szStore {x0 : TStore} {x1 : Int} {r : Int} (hF : F_laws_szStore x0 x1 = some r) : PCalls Tryz.prog 6 [.agg (enc_TStore false x0), .int .i64 x1] (.int .i64 r) := by
 refine PCalls.of_r k_laws_szStore rfl ?_
 unfold F_laws_szStore at hF
 refine RW.sreg (rl.run 2 rfl (rl.done (RW.sreg (rl.run 3 rfl ?_))))
 obtain ⟨v1, e1, h1⟩ := bindS hF
 refine rl.call rfl rfl rfl (CallW.val (r' := .int .i64 v1) ok_laws_szLog (law_laws_szLog e1) (.cons (DFL.agg (.cons (.lst ekS) (.cons (.lst ek_TWrite) (.cons .int (.cons (.lst ek_TSeg) (.cons .int (.cons .int (.cons .int (.cons .int .nil))))))))) (.cons .int .nil)) .refl ?_)
 refine rl.run 1 rfl (rl.done (RW.seq (RW.sreg (rl.run 1 rfl ?_))))
 refine rl.gen rfl rfl fun b hb => ?_
 cases b
 ·have h2 := iteBF h1 hb
  refine rl.done (RW.cond_f rfl (RW.skip (RW.sreg (rl.run 3 rfl ?_))))
  obtain ⟨v2, e2, h3⟩ := bindS h2
  refine rl.call rfl rfl rfl (CallW.val (r' := .int .i64 v2) ok_laws_szIntS (law_laws_szIntS e2) (.cons (.lst ekI) (.cons .int .nil)) .refl ?_)
  refine rl.run 1 rfl (rl.done ?_)
  refine RW.keep [1] (a' := [(1, .int .i64 v2)]) (H' := [some ⟨[.lst false 1 (fl (encS false) x0.Log.Disk.Sectors) x0.Log.Disk.Sectors.length, .lst false 2 (fl (enc_TWrite false) x0.Log.Disk.Cache) x0.Log.Disk.Cache.length, .int .i64 x0.Log.Segs, .lst false 4 (fl (enc_TSeg false) x0.Log.Used) x0.Log.Used.length, .int .i64 x0.Log.NextGen, .int .i64 x0.Log.NextSeq, .int .i64 x0.Log.Stamp, .int .i64 x0.Log.NextValid, .lst false 1 (fl (encI false) x0.Freed) x0.Freed.length], 0⟩]) rfl rfl ?_
  refine RW.seq (RW.sreg (rl.run 1 rfl ?_))
  refine rl.gen rfl rfl fun b hb => ?_
  cases b
  ·have h4 := iteBF h3 hb
   refine rl.done (RW.cond_f rfl (RW.skip (RW.sreg (rl.run 2 rfl (rl.done (RW.ret ?_))))))
   cases h4
   exact RRet.mk rfl .int (by first | decide | simp)
  ·have h5 := iteBT h3 hb
   refine rl.done (RW.cond_t rfl (RW.sreg (rl.run 1 rfl (rl.done (RW.ret ?_)))))
   cases h5
   exact RRet.mk rfl .int (by first | decide | simp)
 ·have h6 := iteBT h1 hb
  refine rl.done (RW.cond_t rfl (RW.sreg (rl.run 1 rfl (rl.done (RW.ret ?_)))))
  cases h6
  exact RRet.mk rfl .int (by first | decide | simp)
theorem law_laws_toStringS {x0 : List (List UInt8)} {r : List (List UInt8)} (hF : F_laws_toStringS x0 = some r) : PCalls Tryz.prog 51 [.lst false 1 (fl (encS false) x0) x0.length] (.lst true 1 (fl (encS true) r) r.length) := by
 refine PCalls.of_r k_laws_toStringS rfl ?_
 unfold F_laws_toStringS at hF
 refine RW.sreg (rl.run 1 rfl (rl.done (RW.sreg (rl.run 2 rfl ?_))))
 obtain ⟨v1, e1, h1⟩ := bindS hF
 refine rl.op (x_ms ekS rfl rfl e1 rfl) ?_
 refine rl.run 1 rfl (rl.done (RW.seq (RW.sreg (rl.run 1 rfl (rl.done ?_)))))
 obtain ⟨y7, ey7, h3⟩ := bindS h1
 refine RW.cutq (σ := (List (List UInt8))) (fun y3 => [(3, .sl 0 0 y3.length)]) (fun y3 => [some ⟨fl (encS true) y3, 1⟩]) (fun y => y7 = y) (fun _ _ _ _ g h => RW.gh g h) ?_ ?_
 ·refine RW.blk ?_
  refine RW.iter (σ := Int × (List (List UInt8))) ey7 (fun s2 => [(0, .lst false 1 (fl (encS false) x0) x0.length), (3, .sl 0 0 s2.2.length), (4, .int .i64 s2.1)]) (fun s2 => [some ⟨fl (encS true) s2.2, 1⟩]) (Gh.ren0 [0] (.same rfl (ekS.fref _ _) .nil) rfl (.cons rfl (.dat (ekS.rlst)) (.cons rfl (.slq rfl rfl) (.cons rfl (.dat .int) .nil)))) (fun s2 B o hS2 hB2 hE2 => ?_)
  unfold S_laws_toStringS_1 at hS2
  refine RW.seq (RW.sreg (rl.run 3 rfl ?_))
  refine rl.gen rfl rfl fun b hb => ?_
  cases b
  ·have h4 := iteBF hS2 hb
   refine rl.done (RW.cond_f rfl (RW.exit (blkA_eq ?_)))
   cases h4
   exact ⟨_, (hE2 _ rfl).symm, (Gh.ren0 [0] (.same rfl (ekS.fref _ _) .nil) rfl (.cons rfl (.slq rfl rfl) .nil))⟩
  ·have h5 := iteBT hS2 hb
   refine rl.done (RW.cond_t rfl (RW.skip (RW.seq (RW.blk (RW.reg (rl.run 4 rfl ?_))))))
   obtain ⟨v4, e4, h6⟩ := bindS h5
   refine rl.op (x_ia_lst (enc := encS) (o := false) rfl rfl rfl e4) ?_
   refine rl.op (x_ld_el (off' := 0) ekS rfl e4 rfl rfl rfl) ?_
   obtain ⟨v5, e5, h7⟩ := bindS h6
   refine rl.op (x_ia_sl rfl rfl rfl rfl e5) ?_
   obtain ⟨v6, e6, h8⟩ := bindS h7
   refine rl.op0 (x_st_sl' (off' := 0) (o := true) (e' := v4) ekS e5 rfl rfl rfl rfl rfl rfl rfl rfl rfl e6) ?_
   refine rl.done (RW.reg (rl.run 3 rfl (rl.done ?_)))
   cases h8
   exact hB2 _ rfl _ _ (Gh.ren0 [0] (.same rfl (ekS.fref _ _) .nil) rfl (.cons rfl (.dat (ekS.rlst)) (.cons rfl (.slq rfl (set'_len e6)) (.cons rfl (.dat .int) .nil))))
 ·intro y3 hC
  subst hC
  refine RW.sreg (rl.run 2 rfl (rl.done (RW.ret ?_)))
  cases h3
  exact RRet.mk rfl (OutR.ownq ekS rfl rfl) (by first | decide | simp)
theorem law_laws_toWrite {x0 : TWrite} {r : TWrite} (hF : F_laws_toWrite x0 = some r) : PCalls Tryz.prog 73 [.agg (enc_TWrite false x0)] (.agg (enc_TWrite true r)) := by
 refine PCalls.of_r k_laws_toWrite rfl ?_
 unfold F_laws_toWrite at hF
 refine RW.sreg (rl.run 2 rfl (rl.done (RW.sreg (rl.run 1 rfl (rl.done (RW.sreg (rl.run 4 rfl (rl.done (RW.sreg (rl.run 4 rfl (rl.done ?_)))))))))))
 refine RW.sreg (rl.run 2 rfl (rl.done (RW.ret ?_)))
 cases hF
 exact RRet.mk rfl (OutL.agg (.cons .int rfl (.cons .str rfl .nil))) (by first | decide | simp)
theorem law_laws_toWriteS {x0 : List TWrite} {r : List TWrite} (hF : F_laws_toWriteS x0 = some r) : PCalls Tryz.prog 52 [.lst false 2 (fl (enc_TWrite false) x0) x0.length] (.lst true 2 (fl (enc_TWrite true) r) r.length) := by
 refine PCalls.of_r k_laws_toWriteS rfl ?_
 unfold F_laws_toWriteS at hF
 refine RW.sreg (rl.run 1 rfl (rl.done (RW.sreg (rl.run 2 rfl ?_))))
 obtain ⟨v1, e1, h1⟩ := bindS hF
 refine rl.op (x_ms ek_TWrite rfl rfl e1 rfl) ?_
 refine rl.run 1 rfl (rl.done (RW.seq (RW.sreg (rl.run 1 rfl (rl.done ?_)))))
 obtain ⟨y8, ey8, h3⟩ := bindS h1
 refine RW.cutq (σ := (List TWrite)) (fun y3 => [(3, .sl 0 0 y3.length)]) (fun y3 => [some ⟨fl (enc_TWrite true) y3, 2⟩]) (fun y => y8 = y) (fun _ _ _ _ g h => RW.gh g h) ?_ ?_
 ·refine RW.blk ?_
  refine RW.iter (σ := Int × (List TWrite)) ey8 (fun s2 => [(0, .lst false 2 (fl (enc_TWrite false) x0) x0.length), (3, .sl 0 0 s2.2.length), (4, .int .i64 s2.1)]) (fun s2 => [some ⟨fl (enc_TWrite true) s2.2, 2⟩]) (Gh.ren0 [0] (.same rfl (ek_TWrite.fref _ _) .nil) rfl (.cons rfl (.dat (ek_TWrite.rlst)) (.cons rfl (.slq rfl rfl) (.cons rfl (.dat .int) .nil)))) (fun s2 B o hS2 hB2 hE2 => ?_)
  unfold S_laws_toWriteS_1 at hS2
  refine RW.seq (RW.sreg (rl.run 3 rfl ?_))
  refine rl.gen rfl rfl fun b hb => ?_
  cases b
  ·have h4 := iteBF hS2 hb
   refine rl.done (RW.cond_f rfl (RW.exit (blkA_eq ?_)))
   cases h4
   exact ⟨_, (hE2 _ rfl).symm, (Gh.ren0 [0] (.same rfl (ek_TWrite.fref _ _) .nil) rfl (.cons rfl (.slq rfl rfl) .nil))⟩
  ·have h5 := iteBT hS2 hb
   refine rl.done (RW.cond_t rfl (RW.skip (RW.seq (RW.blk (RW.reg (rl.run 4 rfl ?_))))))
   obtain ⟨v4, e4, h6⟩ := bindS h5
   refine rl.op (x_ia_lst (enc := enc_TWrite) (o := false) rfl rfl rfl e4) ?_
   refine rl.op (x_ld_ela (off' := 0) (vs := (enc_TWrite false v4)) ek_TWrite rfl e4 rfl rfl rfl) ?_
   obtain ⟨v5, e5, h7⟩ := bindS h6
   refine rl.call rfl rfl rfl (CallW.val (r' := .agg (enc_TWrite false v5)) ok_laws_toWrite (law_laws_toWrite e5) (.cons (.dat (.agg (ek_TWrite.dat false _))) .nil) .refl ?_)
   obtain ⟨v6, e6, h8⟩ := bindS h7
   refine rl.op (x_ia_sl rfl rfl rfl rfl e6) ?_
   obtain ⟨v7, e7, h9⟩ := bindS h8
   refine rl.op0 (x_st_sl' (off' := 0) (o := true) (e' := v5) ek_TWrite e6 rfl rfl rfl rfl rfl rfl rfl rfl rfl e7) ?_
   refine rl.done (RW.reg (rl.run 3 rfl (rl.done ?_)))
   cases h9
   exact hB2 _ rfl _ _ (Gh.ren0 [0] (.same rfl (ek_TWrite.fref _ _) .nil) rfl (.cons rfl (.dat (ek_TWrite.rlst)) (.cons rfl (.slq rfl (set'_len e7)) (.cons rfl (.dat .int) .nil))))
 ·intro y3 hC
  subst hC
  refine RW.sreg (rl.run 2 rfl (rl.done (RW.ret ?_)))
  cases h3
  exact RRet.mk rfl (OutR.ownq ek_TWrite rfl rfl) (by first | decide | simp)
theorem law_laws_toDisk {x0 : TDisk} {r : TDisk} (hF : F_laws_toDisk x0 = some r) : PCalls Tryz.prog 33 [.agg (enc_TDisk false x0)] (.agg (enc_TDisk true r)) := by
 refine PCalls.of_r k_laws_toDisk rfl ?_
 unfold F_laws_toDisk at hF
 refine RW.sreg (rl.run 2 rfl (rl.done (RW.sreg (rl.run 1 rfl (rl.done (RW.sreg (rl.run 2 rfl ?_)))))))
 obtain ⟨v1, e1, h1⟩ := bindS hF
 refine rl.call rfl rfl rfl (CallW.own (r' := .sl 3 0 v1.length) (H' := [some ⟨[.lst false 1 (fl (encS false) x0.Sectors) x0.Sectors.length, .lst false 2 (fl (enc_TWrite false) x0.Cache) x0.Cache.length], 0⟩, some ⟨[.nils, .nils], 0⟩, some ⟨[.nils, .nils], 0⟩, some ⟨fl (encS true) v1, 1⟩]) ok_laws_toStringS (law_laws_toStringS e1) (.cons (.lst ekS) .nil) (.lst (ekS.fown _)) rfl ?_)
 refine rl.run 2 rfl (rl.done (RW.sreg (rl.run 2 rfl ?_)))
 obtain ⟨v2, e2, h2⟩ := bindS h1
 refine rl.call rfl rfl rfl (CallW.own (r' := .sl 4 0 v2.length) (H' := [some ⟨[.lst false 1 (fl (encS false) x0.Sectors) x0.Sectors.length, .lst false 2 (fl (enc_TWrite false) x0.Cache) x0.Cache.length], 0⟩, some ⟨[.nils, .nils], 0⟩, some ⟨[.sl 3 0 v1.length, .nils], 0⟩, some ⟨fl (encS true) v1, 1⟩, some ⟨fl (enc_TWrite true) v2, 2⟩]) ok_laws_toWriteS (law_laws_toWriteS e2) (.cons (.lst ek_TWrite) .nil) (.lst (ek_TWrite.fown _)) rfl ?_)
 refine rl.run 2 rfl (rl.done (RW.sreg (rl.run 2 rfl (rl.done ?_))))
 refine RW.keep [2] (a' := [(2, .ptr 1 0)]) (H' := [some ⟨[.lst false 1 (fl (encS false) x0.Sectors) x0.Sectors.length, .lst false 2 (fl (enc_TWrite false) x0.Cache) x0.Cache.length], 0⟩, some ⟨[.sl 3 0 v1.length, .sl 4 0 v2.length], 0⟩, some ⟨[.sl 3 0 v1.length, .sl 4 0 v2.length], 0⟩, some ⟨fl (encS true) v1, 1⟩, some ⟨fl (enc_TWrite true) v2, 2⟩]) rfl rfl ?_
 refine RW.ret ?_
 cases h2
 exact RRet.mk rfl (OutL.agg (.cons (OutR.ownq ekS rfl rfl) rfl (.cons (OutR.ownq ek_TWrite rfl rfl) rfl .nil))) (by first | decide | simp)
theorem law_laws_toRec {x0 : TRec} {r : TRec} (hF : F_laws_toRec x0 = some r) : PCalls Tryz.prog 104 [.agg (enc_TRec false x0)] (.agg (enc_TRec true r)) := by
 refine PCalls.of_r k_laws_toRec rfl ?_
 unfold F_laws_toRec at hF
 refine RW.sreg (rl.run 2 rfl (rl.done (RW.sreg (rl.run 1 rfl (rl.done (RW.sreg (rl.run 4 rfl (rl.done (RW.sreg (rl.run 4 rfl (rl.done ?_)))))))))))
 refine RW.sreg (rl.run 4 rfl (rl.done (RW.sreg (rl.run 4 rfl (rl.done ?_)))))
 refine RW.keep [1, 2, 3] (a' := [(1, .ptr 0 0), (2, .ptr 1 0), (3, .ptr 2 0)]) (H' := [some ⟨[.int .i64 x0.Kind, .int .i64 x0.Valid, .int .i64 x0.Uid, .int .i64 x0.Next, .int .i64 x0.Flags, .str x0.User, .str x0.Name, .str x0.Text], 0⟩, some ⟨[.int .i64 0, .int .i64 0, .int .i64 0, .int .i64 0, .int .i64 0, .str [], .str [], .str []], 0⟩, some ⟨[.int .i64 x0.Kind, .int .i64 x0.Valid, .int .i64 x0.Uid, .int .i64 x0.Next, .int .i64 0, .str [], .str [], .str []], 0⟩]) rfl rfl ?_
 refine RW.sreg (rl.run 4 rfl (rl.done (RW.sreg (rl.run 4 rfl (rl.done (RW.sreg (rl.run 4 rfl (rl.done (RW.sreg (rl.run 4 rfl (rl.done ?_)))))))))))
 refine RW.keep [2, 3] (a' := [(2, .ptr 1 0), (3, .ptr 2 0)]) (H' := [some ⟨[.int .i64 x0.Kind, .int .i64 x0.Valid, .int .i64 x0.Uid, .int .i64 x0.Next, .int .i64 x0.Flags, .str x0.User, .str x0.Name, .str x0.Text], 0⟩, some ⟨[.int .i64 0, .int .i64 0, .int .i64 0, .int .i64 0, .int .i64 0, .str [], .str [], .str []], 0⟩, some ⟨[.int .i64 x0.Kind, .int .i64 x0.Valid, .int .i64 x0.Uid, .int .i64 x0.Next, .int .i64 x0.Flags, .str x0.User, .str x0.Name, .str x0.Text], 0⟩]) rfl rfl ?_
 refine RW.sreg (rl.run 2 rfl (rl.done (RW.ret ?_)))
 cases hF
 exact RRet.mk rfl (OutL.agg (.cons .int rfl (.cons .int rfl (.cons .int rfl (.cons .int rfl (.cons .int rfl (.cons .str rfl (.cons .str rfl (.cons .str rfl .nil))))))))) (by first | decide | simp)
theorem law_laws_toItem {x0 : TItem} {r : TItem} (hF : F_laws_toItem x0 = some r) : PCalls Tryz.prog 87 [.agg (enc_TItem false x0)] (.agg (enc_TItem true r)) := by
 refine PCalls.of_r k_laws_toItem rfl ?_
 unfold F_laws_toItem at hF
 refine RW.sreg (rl.run 2 rfl (rl.done (RW.sreg (rl.run 1 rfl (rl.done (RW.sreg (rl.run 4 rfl (rl.done (RW.sreg (rl.run 2 rfl ?_))))))))))
 obtain ⟨v1, e1, h1⟩ := bindS hF
 refine rl.call rfl rfl rfl (CallW.val (r' := .agg (enc_TRec false v1)) ok_laws_toRec (law_laws_toRec e1) (.cons (DFL.agg (.cons .int (.cons .int (.cons .int (.cons .int (.cons .int (.cons .str (.cons .str (.cons .str .nil))))))))) .nil) .refl ?_)
 refine rl.run 2 rfl (rl.done (RW.sreg (rl.run 2 rfl (rl.done ?_))))
 refine RW.keep [2] (a' := [(2, .ptr 1 0)]) (H' := [some ⟨[.int .i64 x0.Seq, .int .i64 x0.Rec.Kind, .int .i64 x0.Rec.Valid, .int .i64 x0.Rec.Uid, .int .i64 x0.Rec.Next, .int .i64 x0.Rec.Flags, .str x0.Rec.User, .str x0.Rec.Name, .str x0.Rec.Text], 0⟩, some ⟨[.int .i64 x0.Seq, .int .i64 v1.Kind, .int .i64 v1.Valid, .int .i64 v1.Uid, .int .i64 v1.Next, .int .i64 v1.Flags, .str v1.User, .str v1.Name, .str v1.Text], 0⟩, some ⟨[.int .i64 x0.Seq, .int .i64 v1.Kind, .int .i64 v1.Valid, .int .i64 v1.Uid, .int .i64 v1.Next, .int .i64 v1.Flags, .str v1.User, .str v1.Name, .str v1.Text], 0⟩]) rfl rfl ?_
 refine RW.ret ?_
 cases h1
 exact RRet.mk rfl (OutL.agg (.cons .int rfl (.cons .int rfl (.cons .int rfl (.cons .int rfl (.cons .int rfl (.cons .int rfl (.cons .str rfl (.cons .str rfl (.cons .str rfl .nil)))))))))) (by first | decide | simp)
theorem law_laws_toItemS {x0 : List TItem} {r : List TItem} (hF : F_laws_toItemS x0 = some r) : PCalls Tryz.prog 74 [.lst false 9 (fl (enc_TItem false) x0) x0.length] (.lst true 9 (fl (enc_TItem true) r) r.length) := by
 refine PCalls.of_r k_laws_toItemS rfl ?_
 unfold F_laws_toItemS at hF
 refine RW.sreg (rl.run 1 rfl (rl.done (RW.sreg (rl.run 2 rfl ?_))))
 obtain ⟨v1, e1, h1⟩ := bindS hF
 refine rl.op (x_ms ek_TItem rfl rfl e1 rfl) ?_
 refine rl.run 1 rfl (rl.done (RW.seq (RW.sreg (rl.run 1 rfl (rl.done ?_)))))
 obtain ⟨y8, ey8, h3⟩ := bindS h1
 refine RW.cutq (σ := (List TItem)) (fun y3 => [(3, .sl 0 0 y3.length)]) (fun y3 => [some ⟨fl (enc_TItem true) y3, 9⟩]) (fun y => y8 = y) (fun _ _ _ _ g h => RW.gh g h) ?_ ?_
 ·refine RW.blk ?_
  refine RW.iter (σ := Int × (List TItem)) ey8 (fun s2 => [(0, .lst false 9 (fl (enc_TItem false) x0) x0.length), (3, .sl 0 0 s2.2.length), (4, .int .i64 s2.1)]) (fun s2 => [some ⟨fl (enc_TItem true) s2.2, 9⟩]) (Gh.ren0 [0] (.same rfl (ek_TItem.fref _ _) .nil) rfl (.cons rfl (.dat (ek_TItem.rlst)) (.cons rfl (.slq rfl rfl) (.cons rfl (.dat .int) .nil)))) (fun s2 B o hS2 hB2 hE2 => ?_)
  unfold S_laws_toItemS_1 at hS2
  refine RW.seq (RW.sreg (rl.run 3 rfl ?_))
  refine rl.gen rfl rfl fun b hb => ?_
  cases b
  ·have h4 := iteBF hS2 hb
   refine rl.done (RW.cond_f rfl (RW.exit (blkA_eq ?_)))
   cases h4
   exact ⟨_, (hE2 _ rfl).symm, (Gh.ren0 [0] (.same rfl (ek_TItem.fref _ _) .nil) rfl (.cons rfl (.slq rfl rfl) .nil))⟩
  ·have h5 := iteBT hS2 hb
   refine rl.done (RW.cond_t rfl (RW.skip (RW.seq (RW.blk (RW.reg (rl.run 4 rfl ?_))))))
   obtain ⟨v4, e4, h6⟩ := bindS h5
   refine rl.op (x_ia_lst (enc := enc_TItem) (o := false) rfl rfl rfl e4) ?_
   refine rl.op (x_ld_ela (off' := 0) (vs := (enc_TItem false v4)) ek_TItem rfl e4 rfl rfl rfl) ?_
   obtain ⟨v5, e5, h7⟩ := bindS h6
   refine rl.call rfl rfl rfl (CallW.val (r' := .agg (enc_TItem false v5)) ok_laws_toItem (law_laws_toItem e5) (.cons (.dat (.agg (ek_TItem.dat false _))) .nil) .refl ?_)
   obtain ⟨v6, e6, h8⟩ := bindS h7
   refine rl.op (x_ia_sl rfl rfl rfl rfl e6) ?_
   obtain ⟨v7, e7, h9⟩ := bindS h8
   refine rl.op0 (x_st_sl' (off' := 0) (o := true) (e' := v5) ek_TItem e6 rfl rfl rfl rfl rfl rfl rfl rfl rfl e7) ?_
   refine rl.done (RW.reg (rl.run 3 rfl (rl.done ?_)))
   cases h9
   exact hB2 _ rfl _ _ (Gh.ren0 [0] (.same rfl (ek_TItem.fref _ _) .nil) rfl (.cons rfl (.dat (ek_TItem.rlst)) (.cons rfl (.slq rfl (set'_len e7)) (.cons rfl (.dat .int) .nil))))
 ·intro y3 hC
  subst hC
  refine RW.sreg (rl.run 2 rfl (rl.done (RW.ret ?_)))
  cases h3
  exact RRet.mk rfl (OutR.ownq ek_TItem rfl rfl) (by first | decide | simp)
theorem law_laws_toSeg {x0 : TSeg} {r : TSeg} (hF : F_laws_toSeg x0 = some r) : PCalls Tryz.prog 53 [.agg (enc_TSeg false x0)] (.agg (enc_TSeg true r)) := by
 refine PCalls.of_r k_laws_toSeg rfl ?_
 unfold F_laws_toSeg at hF
 refine RW.sreg (rl.run 2 rfl (rl.done (RW.sreg (rl.run 1 rfl (rl.done (RW.sreg (rl.run 4 rfl (rl.done (RW.sreg (rl.run 4 rfl (rl.done ?_)))))))))))
 refine RW.sreg (rl.run 4 rfl (rl.done (RW.sreg (rl.run 2 rfl ?_))))
 obtain ⟨v1, e1, h1⟩ := bindS hF
 refine rl.call rfl rfl rfl (CallW.own (r' := .sl 3 0 v1.length) (H' := [some ⟨[.int .i64 x0.No, .int .i64 x0.Gen, .int .i64 x0.End, .lst false 9 (fl (enc_TItem false) x0.Items) x0.Items.length], 0⟩, some ⟨[.int .i64 0, .int .i64 0, .int .i64 0, .nils], 0⟩, some ⟨[.int .i64 x0.No, .int .i64 x0.Gen, .int .i64 x0.End, .nils], 0⟩, some ⟨fl (enc_TItem true) v1, 9⟩]) ok_laws_toItemS (law_laws_toItemS e1) (.cons (.lst ek_TItem) .nil) (.lst (ek_TItem.fown _)) rfl ?_)
 refine rl.run 2 rfl (rl.done ?_)
 refine RW.keep [2, 3] (a' := [(2, .ptr 1 0), (3, .ptr 2 0)]) (H' := [some ⟨[.int .i64 x0.No, .int .i64 x0.Gen, .int .i64 x0.End, .lst false 9 (fl (enc_TItem false) x0.Items) x0.Items.length], 0⟩, some ⟨[.int .i64 0, .int .i64 0, .int .i64 0, .nils], 0⟩, some ⟨[.int .i64 x0.No, .int .i64 x0.Gen, .int .i64 x0.End, .sl 3 0 v1.length], 0⟩, some ⟨fl (enc_TItem true) v1, 9⟩]) rfl rfl ?_
 refine RW.sreg (rl.run 2 rfl (rl.done (RW.ret ?_)))
 cases h1
 exact RRet.mk rfl (OutL.agg (.cons .int rfl (.cons .int rfl (.cons .int rfl (.cons (OutR.ownq ek_TItem rfl rfl) rfl .nil))))) (by first | decide | simp)
theorem law_laws_toSegS {x0 : List TSeg} {r : List TSeg} (hF : F_laws_toSegS x0 = some r) : PCalls Tryz.prog 34 [.lst false 4 (fl (enc_TSeg false) x0) x0.length] (.lst true 4 (fl (enc_TSeg true) r) r.length) := by
 refine PCalls.of_r k_laws_toSegS rfl ?_
 unfold F_laws_toSegS at hF
 refine RW.sreg (rl.run 1 rfl (rl.done (RW.sreg (rl.run 2 rfl ?_))))
 obtain ⟨v1, e1, h1⟩ := bindS hF
 refine rl.op (x_ms_raw rfl rfl e1) ?_
 refine rl.run 1 rfl (rl.done ?_)
 refine RW.gh (Gh.own0 (b := 0) rfl (NL.rep (.same (.same (.same (.nils (es := 9) .nil)))) _)) ?_
 refine RW.gh (Gh.blk (b := 0) rfl (raw_ms (enc := enc_TSeg) e1)) ?_
 refine RW.keep [0, 3] (a' := [(0, .lst false 4 (fl (enc_TSeg false) x0) x0.length), (3, .sl 0 0 v1.length)]) (H' := [some ⟨fl (enc_TSeg true) v1, 4⟩]) rfl rfl ?_
 refine RW.seq (RW.sreg (rl.run 1 rfl (rl.done ?_)))
 obtain ⟨y8, ey8, h3⟩ := bindS h1
 refine RW.cutq (σ := (List TSeg)) (fun y3 => [(3, .sl 0 0 y3.length)]) (fun y3 => [some ⟨fl (enc_TSeg true) y3, 4⟩]) (fun y => y8 = y) (fun _ _ _ _ g h => RW.gh g h) ?_ ?_
 ·refine RW.blk ?_
  refine RW.iter (σ := Int × (List TSeg)) ey8 (fun s2 => [(0, .lst false 4 (fl (enc_TSeg false) x0) x0.length), (3, .sl 0 0 s2.2.length), (4, .int .i64 s2.1)]) (fun s2 => [some ⟨fl (enc_TSeg true) s2.2, 4⟩]) (Gh.ren0 [0] (.same rfl (ek_TSeg.fref _ _) .nil) rfl (.cons rfl (.dat (ek_TSeg.rlst)) (.cons rfl (.slq rfl rfl) (.cons rfl (.dat .int) .nil)))) (fun s2 B o hS2 hB2 hE2 => ?_)
  unfold S_laws_toSegS_1 at hS2
  refine RW.seq (RW.sreg (rl.run 3 rfl ?_))
  refine rl.gen rfl rfl fun b hb => ?_
  cases b
  ·have h4 := iteBF hS2 hb
   refine rl.done (RW.cond_f rfl (RW.exit (blkA_eq ?_)))
   cases h4
   exact ⟨_, (hE2 _ rfl).symm, (Gh.ren0 [0] (.same rfl (ek_TSeg.fref _ _) .nil) rfl (.cons rfl (.slq rfl rfl) .nil))⟩
  ·have h5 := iteBT hS2 hb
   refine rl.done (RW.cond_t rfl (RW.skip (RW.seq (RW.blk (RW.reg (rl.run 4 rfl ?_))))))
   obtain ⟨v4, e4, h6⟩ := bindS h5
   refine rl.op (x_ia_lst (enc := enc_TSeg) (o := false) rfl rfl rfl e4) ?_
   refine rl.op (x_ld_ela (off' := 0) (vs := (enc_TSeg false v4)) ek_TSeg rfl e4 rfl rfl rfl) ?_
   obtain ⟨v5, e5, h7⟩ := bindS h6
   refine rl.call rfl rfl rfl (CallW.own (r' := .agg [.int .i64 v5.No, .int .i64 v5.Gen, .int .i64 v5.End, .sl 1 0 v5.Items.length]) (H' := [some ⟨fl (enc_TSeg true) s2.2, 4⟩, some ⟨fl (enc_TItem true) v5.Items, 9⟩]) ok_laws_toSeg (law_laws_toSeg e5) (.cons (.dat (.agg (ek_TSeg.dat false _))) .nil) (ek_TSeg.own _) rfl ?_)
   obtain ⟨v6, e6, h8⟩ := bindS h7
   refine rl.op (x_ia_sl rfl rfl rfl rfl e6) ?_
   obtain ⟨v7, e7, h9⟩ := bindS h8
   refine rl.op0 (x_st_raw (off' := 0) ek_TSeg e6 rfl rfl rfl rfl rfl rfl rfl rfl) ?_
   refine rl.done ?_
   refine RW.gh (Gh.absorb_rawq (b := 0) (j := 3) (m := 1) rfl rfl rfl (by decide) (by decide) rfl (ek_TItem.flen true _) (ek_TItem.fown _)) ?_
   refine RW.gh (Gh.blk (b := 0) rfl (raw_set ek_TSeg e6 e7 rfl)) ?_
   refine RW.reg (rl.run 3 rfl (rl.done ?_))
   cases h9
   exact hB2 _ rfl _ _ (Gh.ren0 [0] (.same rfl (ek_TSeg.fref _ _) .nil) rfl (.cons rfl (.dat (ek_TSeg.rlst)) (.cons rfl (.slq rfl (set'_len e7)) (.cons rfl (.dat .int) .nil))))
 ·intro y3 hC
  subst hC
  refine RW.sreg (rl.run 2 rfl (rl.done (RW.ret ?_)))
  cases h3
  exact RRet.mk rfl (OutR.ownq ek_TSeg rfl rfl) (by first | decide | simp)
theorem law_laws_toLog {x0 : TLog} {r : TLog} (hF : F_laws_toLog x0 = some r) : PCalls Tryz.prog 18 [.agg (enc_TLog false x0)] (.agg (enc_TLog true r)) := by
 refine PCalls.of_r k_laws_toLog rfl ?_
 unfold F_laws_toLog at hF
 refine RW.sreg (rl.run 2 rfl (rl.done (RW.sreg (rl.run 1 rfl (rl.done (RW.sreg (rl.run 2 rfl ?_)))))))
 obtain ⟨v1, e1, h1⟩ := bindS hF
 refine rl.call rfl rfl rfl (CallW.own (r' := .agg [.sl 3 0 v1.Sectors.length, .sl 4 0 v1.Cache.length]) (H' := [some ⟨[.lst false 1 (fl (encS false) x0.Disk.Sectors) x0.Disk.Sectors.length, .lst false 2 (fl (enc_TWrite false) x0.Disk.Cache) x0.Disk.Cache.length, .int .i64 x0.Segs, .lst false 4 (fl (enc_TSeg false) x0.Used) x0.Used.length, .int .i64 x0.NextGen, .int .i64 x0.NextSeq, .int .i64 x0.Stamp, .int .i64 x0.NextValid], 0⟩, some ⟨[.nils, .nils, .int .i64 0, .nils, .int .i64 0, .int .i64 0, .int .i64 0, .int .i64 0], 0⟩, some ⟨[.nils, .nils, .int .i64 0, .nils, .int .i64 0, .int .i64 0, .int .i64 0, .int .i64 0], 0⟩, some ⟨fl (encS true) v1.Sectors, 1⟩, some ⟨fl (enc_TWrite true) v1.Cache, 2⟩]) ok_laws_toDisk (law_laws_toDisk e1) (.cons (DFL.agg (.cons (.lst ekS) (.cons (.lst ek_TWrite) .nil))) .nil) (ek_TDisk.own _) rfl ?_)
 refine rl.run 2 rfl (rl.done (RW.sreg (rl.run 4 rfl (rl.done (RW.sreg (rl.run 2 rfl ?_))))))
 obtain ⟨v2, e2, h2⟩ := bindS h1
 refine rl.call rfl rfl rfl (CallW.own (r' := .sl 5 0 v2.length) (H' := [some ⟨[.lst false 1 (fl (encS false) x0.Disk.Sectors) x0.Disk.Sectors.length, .lst false 2 (fl (enc_TWrite false) x0.Disk.Cache) x0.Disk.Cache.length, .int .i64 x0.Segs, .lst false 4 (fl (enc_TSeg false) x0.Used) x0.Used.length, .int .i64 x0.NextGen, .int .i64 x0.NextSeq, .int .i64 x0.Stamp, .int .i64 x0.NextValid], 0⟩, some ⟨[.nils, .nils, .int .i64 0, .nils, .int .i64 0, .int .i64 0, .int .i64 0, .int .i64 0], 0⟩, some ⟨[.sl 3 0 v1.Sectors.length, .sl 4 0 v1.Cache.length, .int .i64 x0.Segs, .nils, .int .i64 0, .int .i64 0, .int .i64 0, .int .i64 0], 0⟩, some ⟨fl (encS true) v1.Sectors, 1⟩, some ⟨fl (enc_TWrite true) v1.Cache, 2⟩, some ⟨fl (enc_TSeg true) v2, 4⟩]) ok_laws_toSegS (law_laws_toSegS e2) (.cons (.lst ek_TSeg) .nil) (.lst (ek_TSeg.fown _)) rfl ?_)
 refine rl.run 2 rfl (rl.done ?_)
 refine RW.keep [1, 2, 3] (a' := [(1, .ptr 0 0), (2, .ptr 1 0), (3, .ptr 2 0)]) (H' := [some ⟨[.lst false 1 (fl (encS false) x0.Disk.Sectors) x0.Disk.Sectors.length, .lst false 2 (fl (enc_TWrite false) x0.Disk.Cache) x0.Disk.Cache.length, .int .i64 x0.Segs, .lst false 4 (fl (enc_TSeg false) x0.Used) x0.Used.length, .int .i64 x0.NextGen, .int .i64 x0.NextSeq, .int .i64 x0.Stamp, .int .i64 x0.NextValid], 0⟩, some ⟨[.nils, .nils, .int .i64 0, .nils, .int .i64 0, .int .i64 0, .int .i64 0, .int .i64 0], 0⟩, some ⟨[.sl 3 0 v1.Sectors.length, .sl 4 0 v1.Cache.length, .int .i64 x0.Segs, .sl 5 0 v2.length, .int .i64 0, .int .i64 0, .int .i64 0, .int .i64 0], 0⟩, some ⟨fl (encS true) v1.Sectors, 1⟩, some ⟨fl (enc_TWrite true) v1.Cache, 2⟩, some ⟨fl (enc_TSeg true) v2, 4⟩]) rfl rfl ?_
 refine RW.sreg (rl.run 4 rfl (rl.done (RW.sreg (rl.run 4 rfl (rl.done (RW.sreg (rl.run 4 rfl (rl.done (RW.sreg (rl.run 4 rfl (rl.done ?_)))))))))))
 refine RW.keep [2, 3] (a' := [(2, .ptr 1 0), (3, .ptr 2 0)]) (H' := [some ⟨[.lst false 1 (fl (encS false) x0.Disk.Sectors) x0.Disk.Sectors.length, .lst false 2 (fl (enc_TWrite false) x0.Disk.Cache) x0.Disk.Cache.length, .int .i64 x0.Segs, .lst false 4 (fl (enc_TSeg false) x0.Used) x0.Used.length, .int .i64 x0.NextGen, .int .i64 x0.NextSeq, .int .i64 x0.Stamp, .int .i64 x0.NextValid], 0⟩, some ⟨[.nils, .nils, .int .i64 0, .nils, .int .i64 0, .int .i64 0, .int .i64 0, .int .i64 0], 0⟩, some ⟨[.sl 3 0 v1.Sectors.length, .sl 4 0 v1.Cache.length, .int .i64 x0.Segs, .sl 5 0 v2.length, .int .i64 x0.NextGen, .int .i64 x0.NextSeq, .int .i64 x0.Stamp, .int .i64 x0.NextValid], 0⟩, some ⟨fl (encS true) v1.Sectors, 1⟩, some ⟨fl (enc_TWrite true) v1.Cache, 2⟩, some ⟨fl (enc_TSeg true) v2, 4⟩]) rfl rfl ?_
 refine RW.sreg (rl.run 2 rfl (rl.done (RW.ret ?_)))
 cases h2
 exact RRet.mk rfl (OutL.agg (.cons (OutR.ownq ekS rfl rfl) rfl (.cons (OutR.ownq ek_TWrite rfl rfl) rfl (.cons .int rfl (.cons (OutR.ownq ek_TSeg rfl rfl) rfl (.cons .int rfl (.cons .int rfl (.cons .int rfl (.cons .int rfl .nil))))))))) (by first | decide | simp)
theorem law_laws_toIntS {x0 : List Int} {r : List Int} (hF : F_laws_toIntS x0 = some r) : PCalls Tryz.prog 19 [.lst false 1 (fl (encI false) x0) x0.length] (.lst true 1 (fl (encI true) r) r.length) := by
 refine PCalls.of_r k_laws_toIntS rfl ?_
 unfold F_laws_toIntS at hF
 refine RW.sreg (rl.run 1 rfl (rl.done (RW.sreg (rl.run 2 rfl ?_))))
 obtain ⟨v1, e1, h1⟩ := bindS hF
 refine rl.op (x_ms ekI rfl rfl e1 rfl) ?_
 refine rl.run 1 rfl (rl.done (RW.seq (RW.sreg (rl.run 1 rfl (rl.done ?_)))))
 obtain ⟨y7, ey7, h3⟩ := bindS h1
 refine RW.cutq (σ := (List Int)) (fun y3 => [(3, .sl 0 0 y3.length)]) (fun y3 => [some ⟨fl (encI true) y3, 1⟩]) (fun y => y7 = y) (fun _ _ _ _ g h => RW.gh g h) ?_ ?_
 ·refine RW.blk ?_
  refine RW.iter (σ := Int × (List Int)) ey7 (fun s2 => [(0, .lst false 1 (fl (encI false) x0) x0.length), (3, .sl 0 0 s2.2.length), (4, .int .i64 s2.1)]) (fun s2 => [some ⟨fl (encI true) s2.2, 1⟩]) (Gh.ren0 [0] (.same rfl (ekI.fref _ _) .nil) rfl (.cons rfl (.dat (ekI.rlst)) (.cons rfl (.slq rfl rfl) (.cons rfl (.dat .int) .nil)))) (fun s2 B o hS2 hB2 hE2 => ?_)
  unfold S_laws_toIntS_1 at hS2
  refine RW.seq (RW.sreg (rl.run 3 rfl ?_))
  refine rl.gen rfl rfl fun b hb => ?_
  cases b
  ·have h4 := iteBF hS2 hb
   refine rl.done (RW.cond_f rfl (RW.exit (blkA_eq ?_)))
   cases h4
   exact ⟨_, (hE2 _ rfl).symm, (Gh.ren0 [0] (.same rfl (ekI.fref _ _) .nil) rfl (.cons rfl (.slq rfl rfl) .nil))⟩
  ·have h5 := iteBT hS2 hb
   refine rl.done (RW.cond_t rfl (RW.skip (RW.seq (RW.blk (RW.reg (rl.run 4 rfl ?_))))))
   obtain ⟨v4, e4, h6⟩ := bindS h5
   refine rl.op (x_ia_lst (enc := encI) (o := false) rfl rfl rfl e4) ?_
   refine rl.op (x_ld_el (off' := 0) ekI rfl e4 rfl rfl rfl) ?_
   obtain ⟨v5, e5, h7⟩ := bindS h6
   refine rl.op (x_ia_sl rfl rfl rfl rfl e5) ?_
   obtain ⟨v6, e6, h8⟩ := bindS h7
   refine rl.op0 (x_st_sl' (off' := 0) (o := true) (e' := v4) ekI e5 rfl rfl rfl rfl rfl rfl rfl rfl rfl e6) ?_
   refine rl.done (RW.reg (rl.run 3 rfl (rl.done ?_)))
   cases h8
   exact hB2 _ rfl _ _ (Gh.ren0 [0] (.same rfl (ekI.fref _ _) .nil) rfl (.cons rfl (.dat (ekI.rlst)) (.cons rfl (.slq rfl (set'_len e6)) (.cons rfl (.dat .int) .nil))))
 ·intro y3 hC
  subst hC
  refine RW.sreg (rl.run 2 rfl (rl.done (RW.ret ?_)))
  cases h3
  exact RRet.mk rfl (OutR.ownq ekI rfl rfl) (by first | decide | simp)
theorem law_laws_toStore {x0 : TStore} {r : TStore} (hF : F_laws_toStore x0 = some r) : PCalls Tryz.prog 8 [.agg (enc_TStore false x0)] (.agg (enc_TStore true r)) := by
 refine PCalls.of_r k_laws_toStore rfl ?_
 unfold F_laws_toStore at hF
 refine RW.sreg (rl.run 2 rfl (rl.done (RW.sreg (rl.run 1 rfl (rl.done (RW.sreg (rl.run 2 rfl ?_)))))))
 obtain ⟨v1, e1, h1⟩ := bindS hF
 refine rl.call rfl rfl rfl (CallW.own (r' := .agg [.sl 3 0 v1.Disk.Sectors.length, .sl 4 0 v1.Disk.Cache.length, .int .i64 v1.Segs, .sl 5 0 v1.Used.length, .int .i64 v1.NextGen, .int .i64 v1.NextSeq, .int .i64 v1.Stamp, .int .i64 v1.NextValid]) (H' := [some ⟨[.lst false 1 (fl (encS false) x0.Log.Disk.Sectors) x0.Log.Disk.Sectors.length, .lst false 2 (fl (enc_TWrite false) x0.Log.Disk.Cache) x0.Log.Disk.Cache.length, .int .i64 x0.Log.Segs, .lst false 4 (fl (enc_TSeg false) x0.Log.Used) x0.Log.Used.length, .int .i64 x0.Log.NextGen, .int .i64 x0.Log.NextSeq, .int .i64 x0.Log.Stamp, .int .i64 x0.Log.NextValid, .lst false 1 (fl (encI false) x0.Freed) x0.Freed.length], 0⟩, some ⟨[.nils, .nils, .int .i64 0, .nils, .int .i64 0, .int .i64 0, .int .i64 0, .int .i64 0, .nils], 0⟩, some ⟨[.nils, .nils, .int .i64 0, .nils, .int .i64 0, .int .i64 0, .int .i64 0, .int .i64 0, .nils], 0⟩, some ⟨fl (encS true) v1.Disk.Sectors, 1⟩, some ⟨fl (enc_TWrite true) v1.Disk.Cache, 2⟩, some ⟨fl (enc_TSeg true) v1.Used, 4⟩]) ok_laws_toLog (law_laws_toLog e1) (.cons (DFL.agg (.cons (.lst ekS) (.cons (.lst ek_TWrite) (.cons .int (.cons (.lst ek_TSeg) (.cons .int (.cons .int (.cons .int (.cons .int .nil))))))))) .nil) (ek_TLog.own _) rfl ?_)
 refine rl.run 2 rfl (rl.done (RW.sreg (rl.run 2 rfl ?_)))
 obtain ⟨v2, e2, h2⟩ := bindS h1
 refine rl.call rfl rfl rfl (CallW.own (r' := .sl 6 0 v2.length) (H' := [some ⟨[.lst false 1 (fl (encS false) x0.Log.Disk.Sectors) x0.Log.Disk.Sectors.length, .lst false 2 (fl (enc_TWrite false) x0.Log.Disk.Cache) x0.Log.Disk.Cache.length, .int .i64 x0.Log.Segs, .lst false 4 (fl (enc_TSeg false) x0.Log.Used) x0.Log.Used.length, .int .i64 x0.Log.NextGen, .int .i64 x0.Log.NextSeq, .int .i64 x0.Log.Stamp, .int .i64 x0.Log.NextValid, .lst false 1 (fl (encI false) x0.Freed) x0.Freed.length], 0⟩, some ⟨[.nils, .nils, .int .i64 0, .nils, .int .i64 0, .int .i64 0, .int .i64 0, .int .i64 0, .nils], 0⟩, some ⟨[.sl 3 0 v1.Disk.Sectors.length, .sl 4 0 v1.Disk.Cache.length, .int .i64 v1.Segs, .sl 5 0 v1.Used.length, .int .i64 v1.NextGen, .int .i64 v1.NextSeq, .int .i64 v1.Stamp, .int .i64 v1.NextValid, .nils], 0⟩, some ⟨fl (encS true) v1.Disk.Sectors, 1⟩, some ⟨fl (enc_TWrite true) v1.Disk.Cache, 2⟩, some ⟨fl (enc_TSeg true) v1.Used, 4⟩, some ⟨fl (encI true) v2, 1⟩]) ok_laws_toIntS (law_laws_toIntS e2) (.cons (.lst ekI) .nil) (.lst (ekI.fown _)) rfl ?_)
 refine rl.run 2 rfl (rl.done (RW.sreg (rl.run 2 rfl (rl.done ?_))))
 refine RW.keep [2] (a' := [(2, .ptr 1 0)]) (H' := [some ⟨[.lst false 1 (fl (encS false) x0.Log.Disk.Sectors) x0.Log.Disk.Sectors.length, .lst false 2 (fl (enc_TWrite false) x0.Log.Disk.Cache) x0.Log.Disk.Cache.length, .int .i64 x0.Log.Segs, .lst false 4 (fl (enc_TSeg false) x0.Log.Used) x0.Log.Used.length, .int .i64 x0.Log.NextGen, .int .i64 x0.Log.NextSeq, .int .i64 x0.Log.Stamp, .int .i64 x0.Log.NextValid, .lst false 1 (fl (encI false) x0.Freed) x0.Freed.length], 0⟩, some ⟨[.sl 3 0 v1.Disk.Sectors.length, .sl 4 0 v1.Disk.Cache.length, .int .i64 v1.Segs, .sl 5 0 v1.Used.length, .int .i64 v1.NextGen, .int .i64 v1.NextSeq, .int .i64 v1.Stamp, .int .i64 v1.NextValid, .sl 6 0 v2.length], 0⟩, some ⟨[.sl 3 0 v1.Disk.Sectors.length, .sl 4 0 v1.Disk.Cache.length, .int .i64 v1.Segs, .sl 5 0 v1.Used.length, .int .i64 v1.NextGen, .int .i64 v1.NextSeq, .int .i64 v1.Stamp, .int .i64 v1.NextValid, .sl 6 0 v2.length], 0⟩, some ⟨fl (encS true) v1.Disk.Sectors, 1⟩, some ⟨fl (enc_TWrite true) v1.Disk.Cache, 2⟩, some ⟨fl (enc_TSeg true) v1.Used, 4⟩, some ⟨fl (encI true) v2, 1⟩]) rfl rfl ?_
 refine RW.ret ?_
 cases h2
 exact RRet.mk rfl (OutL.agg (.cons (OutR.ownq ekS rfl rfl) rfl (.cons (OutR.ownq ek_TWrite rfl rfl) rfl (.cons .int rfl (.cons (OutR.ownq ek_TSeg rfl rfl) rfl (.cons .int rfl (.cons .int rfl (.cons .int rfl (.cons .int rfl (.cons (OutR.ownq ekI rfl rfl) rfl .nil)))))))))) (by first | decide | simp)
theorem law_laws_FnExactVictimOf {x0 : TStore} {r : Bool} (hF : F_laws_FnExactVictimOf x0 = some r) : PCalls Tryz.prog 5 [.agg (enc_TStore false x0)] (.bool r) := by
 refine PCalls.of_r k_laws_FnExactVictimOf rfl ?_
 unfold F_laws_FnExactVictimOf at hF
 refine RW.sreg (rl.run 2 rfl (rl.done (RW.sreg (rl.run 1 rfl (rl.done (RW.sreg (rl.run 2 rfl ?_)))))))
 obtain ⟨v1, e1, h1⟩ := bindS hF
 refine rl.call rfl rfl rfl (CallW.val (r' := .int .i64 v1) ok_laws_szStore (law_laws_szStore e1) (.cons (DFL.agg (.cons (.lst ekS) (.cons (.lst ek_TWrite) (.cons .int (.cons (.lst ek_TSeg) (.cons .int (.cons .int (.cons .int (.cons .int (.cons (.lst ekI) .nil)))))))))) (.cons .int .nil)) .refl ?_)
 refine rl.run 1 rfl (rl.done (RW.seq (RW.sreg (rl.run 1 rfl ?_))))
 refine rl.gen rfl rfl fun b hb => ?_
 cases b
 ·have h2 := iteBF h1 hb
  refine rl.done (RW.cond_f rfl (RW.skip (RW.sreg (rl.run 1 rfl ?_))))
  obtain ⟨v2, e2, h3⟩ := bindS h2
  refine rl.call rfl rfl rfl (CallW.val (r' := .agg (enc_TStore false v2)) ok_laws_toStore (law_laws_toStore e2) (.cons (DFL.agg (.cons (.lst ekS) (.cons (.lst ek_TWrite) (.cons .int (.cons (.lst ek_TSeg) (.cons .int (.cons .int (.cons .int (.cons .int (.cons (.lst ekI) .nil)))))))))) .nil) (ek_TStore.flag _).agg ?_)
  obtain ⟨v3, e3, h4⟩ := bindS h3
  refine rl.call rfl rfl rfl (CallW.val (r' := .int .i64 v3) ok_spec_VictimOf (law_spec_VictimOf e3) (.cons (.dat (.agg (ek_TStore.dat false _))) .nil) .refl ?_)
  refine rl.run 1 rfl (rl.done ?_)
  refine RW.keep [1, 4] (a' := [(1, .ptr 0 0), (4, .int .i64 v3)]) (H' := [some ⟨[.lst false 1 (fl (encS false) x0.Log.Disk.Sectors) x0.Log.Disk.Sectors.length, .lst false 2 (fl (enc_TWrite false) x0.Log.Disk.Cache) x0.Log.Disk.Cache.length, .int .i64 x0.Log.Segs, .lst false 4 (fl (enc_TSeg false) x0.Log.Used) x0.Log.Used.length, .int .i64 x0.Log.NextGen, .int .i64 x0.Log.NextSeq, .int .i64 x0.Log.Stamp, .int .i64 x0.Log.NextValid, .lst false 1 (fl (encI false) x0.Freed) x0.Freed.length], 0⟩]) rfl rfl ?_
  refine RW.sreg (rl.run 1 rfl ?_)
  obtain ⟨v4, e4, h5⟩ := bindS h4
  refine rl.call rfl rfl rfl (CallW.val (r' := .agg (enc_TStore false v4)) ok_laws_toStore (law_laws_toStore e4) (.cons (DFL.agg (.cons (.lst ekS) (.cons (.lst ek_TWrite) (.cons .int (.cons (.lst ek_TSeg) (.cons .int (.cons .int (.cons .int (.cons .int (.cons (.lst ekI) .nil)))))))))) .nil) (ek_TStore.flag _).agg ?_)
  refine rl.run 2 rfl (rl.done (RW.sreg (rl.run 1 rfl ?_)))
  obtain ⟨v5, e5, h6⟩ := bindS h5
  refine rl.call rfl rfl rfl (CallW.val (r' := .int .i64 v5) ok_impl_VictimOf (law_impl_VictimOf e5) (.cons (DFL.agg (.cons (.lst ekS) (.cons (.lst ek_TWrite) (.cons .int (.cons (.lst ek_TSeg) (.cons .int (.cons .int (.cons .int (.cons .int (.cons (.lst ekI) .nil)))))))))) .nil) .refl ?_)
  refine rl.run 1 rfl (rl.done (RW.seq (RW.sreg (rl.run 2 rfl ?_))))
  refine rl.gen rfl rfl fun b hb => ?_
  cases b
  ·have h7 := iteBF h6 hb
   refine rl.done (RW.cond_f rfl (RW.skip (RW.seq (RW.sdrw (rdraw.op rfl rfl (rdraw.op rfl rfl ?_))))))
   obtain ⟨v6, e6, h8⟩ := bindS h7
   refine rdraw.call rfl rfl rfl (CallW.val (r' := .agg (enc_TStore false v6)) ok_laws_toStore (law_laws_toStore e6) (.cons (DFL.agg (.cons (.lst ekS) (.cons (.lst ek_TWrite) (.cons .int (.cons (.lst ek_TSeg) (.cons .int (.cons .int (.cons .int (.cons .int (.cons (.lst ekI) .nil)))))))))) .nil) (ek_TStore.flag _).agg ⟨rfl, ?_⟩)
   obtain ⟨v7, e7, h9⟩ := bindS h8
   refine rdraw.call rfl rfl rfl (CallW.val (r' := .bool v7) ok_laws_eqStore (law_laws_eqStore e7) (.cons (DFL.agg (.cons (.lst ekS) (.cons (.lst ek_TWrite) (.cons .int (.cons (.lst ek_TSeg) (.cons .int (.cons .int (.cons .int (.cons .int (.cons (.lst ekI) .nil)))))))))) (.cons (.dat (.agg (ek_TStore.dat false _))) .nil)) .refl ⟨rfl, ?_⟩)
   cases hb : v7
   ·have h10 := iteBF h9 hb
    refine rdraw.op rfl rfl (rdraw.done ?_)
    refine RW.keep [26] (a' := [(26, .bool true)]) (H' := [some ⟨[.lst false 1 (fl (encS false) x0.Log.Disk.Sectors) x0.Log.Disk.Sectors.length, .lst false 2 (fl (enc_TWrite false) x0.Log.Disk.Cache) x0.Log.Disk.Cache.length, .int .i64 x0.Log.Segs, .lst false 4 (fl (enc_TSeg false) x0.Log.Used) x0.Log.Used.length, .int .i64 x0.Log.NextGen, .int .i64 x0.Log.NextSeq, .int .i64 x0.Log.Stamp, .int .i64 x0.Log.NextValid, .lst false 1 (fl (encI false) x0.Freed) x0.Freed.length], 0⟩, some ⟨[.lst false 1 (fl (encS false) v4.Log.Disk.Sectors) v4.Log.Disk.Sectors.length, .lst false 2 (fl (enc_TWrite false) v4.Log.Disk.Cache) v4.Log.Disk.Cache.length, .int .i64 v4.Log.Segs, .lst false 4 (fl (enc_TSeg false) v4.Log.Used) v4.Log.Used.length, .int .i64 v4.Log.NextGen, .int .i64 v4.Log.NextSeq, .int .i64 v4.Log.Stamp, .int .i64 v4.Log.NextValid, .lst false 1 (fl (encI false) v4.Freed) v4.Freed.length], 0⟩]) rfl rfl ?_
    refine RW.cond_t rfl (RW.sreg (rl.run 1 rfl (rl.done (RW.ret ?_))))
    cases h10
    exact RRet.mk rfl .bool (by first | decide | simp)
   ·have h11 := iteBT h9 hb
    refine rdraw.op rfl rfl (rdraw.done ?_)
    refine RW.keep [26] (a' := [(26, .bool false)]) (H' := [some ⟨[.lst false 1 (fl (encS false) x0.Log.Disk.Sectors) x0.Log.Disk.Sectors.length, .lst false 2 (fl (enc_TWrite false) x0.Log.Disk.Cache) x0.Log.Disk.Cache.length, .int .i64 x0.Log.Segs, .lst false 4 (fl (enc_TSeg false) x0.Log.Used) x0.Log.Used.length, .int .i64 x0.Log.NextGen, .int .i64 x0.Log.NextSeq, .int .i64 x0.Log.Stamp, .int .i64 x0.Log.NextValid, .lst false 1 (fl (encI false) x0.Freed) x0.Freed.length], 0⟩, some ⟨[.lst false 1 (fl (encS false) v4.Log.Disk.Sectors) v4.Log.Disk.Sectors.length, .lst false 2 (fl (enc_TWrite false) v4.Log.Disk.Cache) v4.Log.Disk.Cache.length, .int .i64 v4.Log.Segs, .lst false 4 (fl (enc_TSeg false) v4.Log.Used) v4.Log.Used.length, .int .i64 v4.Log.NextGen, .int .i64 v4.Log.NextSeq, .int .i64 v4.Log.Stamp, .int .i64 v4.Log.NextValid, .lst false 1 (fl (encI false) v4.Freed) v4.Freed.length], 0⟩]) rfl rfl ?_
    refine RW.cond_f rfl (RW.skip (RW.sreg (rl.run 1 rfl (rl.done (RW.ret ?_)))))
    cases h11
    exact RRet.mk rfl .bool (by first | decide | simp)
  ·have h12 := iteBT h6 hb
   refine rl.done (RW.cond_t rfl (RW.sreg (rl.run 1 rfl (rl.done ?_))))
   refine RW.keep [2] (a' := [(2, .bool false)]) (H' := [some ⟨[.lst false 1 (fl (encS false) x0.Log.Disk.Sectors) x0.Log.Disk.Sectors.length, .lst false 2 (fl (enc_TWrite false) x0.Log.Disk.Cache) x0.Log.Disk.Cache.length, .int .i64 x0.Log.Segs, .lst false 4 (fl (enc_TSeg false) x0.Log.Used) x0.Log.Used.length, .int .i64 x0.Log.NextGen, .int .i64 x0.Log.NextSeq, .int .i64 x0.Log.Stamp, .int .i64 x0.Log.NextValid, .lst false 1 (fl (encI false) x0.Freed) x0.Freed.length], 0⟩, some ⟨[.lst false 1 (fl (encS false) v4.Log.Disk.Sectors) v4.Log.Disk.Sectors.length, .lst false 2 (fl (enc_TWrite false) v4.Log.Disk.Cache) v4.Log.Disk.Cache.length, .int .i64 v4.Log.Segs, .lst false 4 (fl (enc_TSeg false) v4.Log.Used) v4.Log.Used.length, .int .i64 v4.Log.NextGen, .int .i64 v4.Log.NextSeq, .int .i64 v4.Log.Stamp, .int .i64 v4.Log.NextValid, .lst false 1 (fl (encI false) v4.Freed) v4.Freed.length], 0⟩]) rfl rfl ?_
   refine RW.ret ?_
   cases h12
   exact RRet.mk rfl .bool (by first | decide | simp)
 ·have h13 := iteBT h1 hb
  refine rl.done (RW.cond_t rfl (RW.sreg (rl.run 1 rfl (rl.done (RW.ret ?_)))))
  cases h13
  exact RRet.mk rfl .bool (by first | decide | simp)
end Go.Proofs.YtgdcbjoaoagbpaaGreat.V
