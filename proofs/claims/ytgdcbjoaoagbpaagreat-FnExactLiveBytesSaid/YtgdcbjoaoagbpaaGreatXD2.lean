/- What a call comes to. -/
import Derived.Test.YtgdcbjoaoagbpaaGreatXD1
namespace Go.Proofs.YtgdcbjoaoagbpaaGreat.V
open Go Go.Proofs Go.RowKit
set_option maxRecDepth 100000
theorem law_impl_NeededAll {x0 : List TItem} {r : List Bool} (hF : F_impl_NeededAll x0 = some r) : PCalls Tryz.prog 54 [.lst false 9 (fl (enc_TItem false) x0) x0.length] (.lst true 1 (fl (encO true) r) r.length) := by
 refine PCalls.of_r k_impl_NeededAll rfl ?_
 unfold F_impl_NeededAll at hF
 refine RW.sreg (rl.run 1 rfl (rl.done (RW.sreg (rl.run 1 rfl ?_))))
 obtain ⟨v1, e1, h1⟩ := bindS hF
 refine rl.call rfl rfl rfl (CallW.val (r' := .bool v1) ok_impl_ItemsOk (law_impl_ItemsOk e1) (.cons (.lst ek_TItem) .nil) .refl ?_)
 cases hb : v1
 ·have h2 := iteBF h1 hb
  refine rl.run 1 rfl (rl.done (RW.sreg (rl.run 2 rfl (rl.done (RW.seq (RW.sreg (rl.run 3 rfl (rl.done ?_))))))))
  refine RW.gh (Gh.nil_t 4 1 rfl) ?_
  obtain ⟨y5, ey5, h4⟩ := bindS h2
  refine RW.cutq (σ := (List Bool)) (fun y3 => [(4, .sl 0 0 y3.length)]) (fun y3 => [some ⟨fl (encO true) y3, 1⟩]) (fun y => y5 = y) (fun _ _ _ _ g h => RW.gh g h) ?_ ?_
  ·refine RW.blk ?_
   refine RW.iter (σ := Int × (List Bool)) ey5 (fun s2 => [(0, .lst false 9 (fl (enc_TItem false) x0) x0.length), (3, .bool false), (4, .sl 0 0 s2.2.length), (10, .int .i64 (x0.length : Int)), (11, .int .i64 s2.1)]) (fun s2 => [some ⟨fl (encO true) s2.2, 1⟩]) (Gh.ren0 [0] (.same rfl (ekO.fref _ _) .nil) rfl (.cons rfl (.dat (ek_TItem.rlst)) (.cons rfl (.dat .bool) (.cons rfl (.slq rfl rfl) (.cons rfl (.dat .int) (.cons rfl (.dat .int) .nil)))))) (fun s2 B o hS3 hB3 hE3 => ?_)
   unfold S_impl_NeededAll_1 at hS3
   refine RW.sreg ?_
   refine rl.gen rfl rfl fun b hb => ?_
   cases b
   ·have h5 := iteBF hS3 hb
    refine rl.done (RW.seq (RW.cond_f rfl (RW.exit (blkA_eq ?_))))
    cases h5
    exact ⟨_, (hE3 _ rfl).symm, (Gh.ren0 [0] (.same rfl (ekO.fref _ _) .nil) rfl (.cons rfl (.slq rfl rfl) .nil))⟩
   ·have h6 := iteBT hS3 hb
    refine rl.done (RW.seq (RW.cond_t rfl (RW.skip (RW.seq (RW.blk (RW.sreg (rl.run 2 rfl (rl.done (RW.reg (rl.run 8 rfl ?_))))))))))
    obtain ⟨v4, e4, h7⟩ := bindS h6
    refine rl.op (x_app rfl rfl (rapp_sl (l := s2.2) (m := [false]) (o := true) ekO rfl rfl (acont_slq (m := [false]) (o := true) fkO rfl rfl) rfl (fkO.fst _ _) e4)) ?_
    refine rl.run 1 rfl (rl.done (RW.reg (rl.run 2 rfl (rl.done ?_))))
    cases h7
    exact hB3 _ rfl _ _ (Gh.ren0 [2] (.same rfl (ekO.fref _ _) .nil) rfl (.cons rfl (.dat (ek_TItem.rlst)) (.cons rfl (.dat .bool) (.cons rfl (.slq rfl rfl) (.cons rfl (.dat .int) (.cons rfl (.dat .int) .nil))))))
  ·intro y3 hC
   subst hC
   refine RW.sreg (rl.run 2 rfl (rl.done (RW.ret ?_)))
   cases h4
   exact RRet.mk rfl (OutR.ownq ekO rfl rfl) (by first | decide | simp)
 ·have h8 := iteBT h1 hb
  refine rl.run 1 rfl (rl.done (RW.sreg (rl.run 2 rfl (rl.done (RW.seq (RW.sreg (rl.run 3 rfl (rl.done ?_))))))))
  refine RW.gh (Gh.nil_t 4 1 rfl) ?_
  obtain ⟨y10, ey10, h10⟩ := bindS h8
  refine RW.cutq (σ := (List Bool)) (fun y7 => [(4, .sl 0 0 y7.length)]) (fun y7 => [some ⟨fl (encO true) y7, 1⟩]) (fun y => y10 = y) (fun _ _ _ _ g h => RW.gh g h) ?_ ?_
  ·refine RW.blk ?_
   refine RW.iter (σ := Int × (List Bool)) ey10 (fun s6 => [(0, .lst false 9 (fl (enc_TItem false) x0) x0.length), (3, .bool true), (4, .sl 0 0 s6.2.length), (10, .int .i64 (x0.length : Int)), (11, .int .i64 s6.1)]) (fun s6 => [some ⟨fl (encO true) s6.2, 1⟩]) (Gh.ren0 [0] (.same rfl (ekO.fref _ _) .nil) rfl (.cons rfl (.dat (ek_TItem.rlst)) (.cons rfl (.dat .bool) (.cons rfl (.slq rfl rfl) (.cons rfl (.dat .int) (.cons rfl (.dat .int) .nil)))))) (fun s6 B o hS9 hB9 hE9 => ?_)
   unfold S_impl_NeededAll_2 at hS9
   refine RW.sreg ?_
   refine rl.gen rfl rfl fun b hb => ?_
   cases b
   ·have h11 := iteBF hS9 hb
    refine rl.done (RW.seq (RW.cond_f rfl (RW.exit (blkA_eq ?_))))
    cases h11
    exact ⟨_, (hE9 _ rfl).symm, (Gh.ren0 [0] (.same rfl (ekO.fref _ _) .nil) rfl (.cons rfl (.slq rfl rfl) .nil))⟩
   ·have h12 := iteBT hS9 hb
    refine rl.done (RW.seq (RW.cond_t rfl (RW.skip (RW.seq (RW.blk (RW.sreg (rl.run 2 rfl (rl.done (RW.reg (rl.run 5 rfl ?_))))))))))
    obtain ⟨v8, e8, h13⟩ := bindS h12
    refine rl.call rfl rfl rfl (CallW.val (r' := .bool v8) ok_impl_needed (law_impl_needed e8) (.cons (.lst ek_TItem) (.cons .int .nil)) .refl ?_)
    refine rl.run 2 rfl ?_
    obtain ⟨v9, e9, h14⟩ := bindS h13
    refine rl.op (x_app rfl rfl (rapp_sl (l := s6.2) (m := [v8]) (o := true) ekO rfl rfl (acont_slq (m := [v8]) (o := true) fkO rfl rfl) rfl (fkO.fst _ _) e9)) ?_
    refine rl.run 1 rfl (rl.done (RW.reg (rl.run 2 rfl (rl.done ?_))))
    cases h14
    exact hB9 _ rfl _ _ (Gh.ren0 [2] (.same rfl (ekO.fref _ _) .nil) rfl (.cons rfl (.dat (ek_TItem.rlst)) (.cons rfl (.dat .bool) (.cons rfl (.slq rfl rfl) (.cons rfl (.dat .int) (.cons rfl (.dat .int) .nil))))))
  ·intro y7 hC
   subst hC
   refine RW.sreg (rl.run 2 rfl (rl.done (RW.ret ?_)))
   cases h10
   exact RRet.mk rfl (OutR.ownq ekO rfl rfl) (by first | decide | simp)
theorem law_impl_keptItems {x0 : TStore} {r : List TItem} (hF : F_impl_keptItems x0 = some r) : PCalls Tryz.prog 55 [.agg (enc_TStore false x0)] (.lst true 9 (fl (enc_TItem true) r) r.length) := by
 refine PCalls.of_r k_impl_keptItems rfl ?_
 unfold F_impl_keptItems at hF
 refine RW.sreg (rl.run 2 rfl (rl.done (RW.sreg (rl.run 2 rfl (rl.done (RW.seq (RW.sreg (rl.run 5 rfl (rl.done ?_)))))))))
 refine RW.gh (Gh.nil_t 3 9 rfl) ?_
 obtain ⟨y6, ey6, h2⟩ := bindS hF
 refine RW.cutq (σ := (List TItem)) (fun y2 => [(3, .sl 0 0 y2.length)]) (fun y2 => [some ⟨fl (enc_TItem true) y2, 9⟩]) (fun y => y6 = y) (fun _ _ _ _ g h => RW.gh g h) ?_ ?_
 ·refine RW.blk ?_
  refine RW.iter (σ := Int × (List TItem)) ey6 (fun s1 => [(1, .ptr 0 0), (3, .sl 1 0 s1.2.length), (9, .lst false 4 (fl (enc_TSeg false) x0.Log.Used) x0.Log.Used.length), (10, .int .i64 (x0.Log.Used.length : Int)), (11, .int .i64 s1.1)]) (fun s1 => [some ⟨[.lst false 1 (fl (encS false) x0.Log.Disk.Sectors) x0.Log.Disk.Sectors.length, .lst false 2 (fl (enc_TWrite false) x0.Log.Disk.Cache) x0.Log.Disk.Cache.length, .int .i64 x0.Log.Segs, .lst false 4 (fl (enc_TSeg false) x0.Log.Used) x0.Log.Used.length, .int .i64 x0.Log.NextGen, .int .i64 x0.Log.NextSeq, .int .i64 x0.Log.Stamp, .int .i64 x0.Log.NextValid, .lst false 1 (fl (encI false) x0.Freed) x0.Freed.length], 0⟩, some ⟨fl (enc_TItem true) s1.2, 9⟩]) (Gh.ren0 [0, 1] (.cells rfl rfl (.keep (ekS.rlst) (.keep (ek_TWrite.rlst) (.keep .int (.keep (ek_TSeg.rlst) (.keep .int (.keep .int (.keep .int (.keep .int (.keep (ekI.rlst) .nil))))))))) (.same rfl (ek_TItem.fref _ _) .nil)) rfl (.cons rfl (.ptr rfl) (.cons rfl (.slq rfl rfl) (.cons rfl (.dat (ek_TSeg.rlst)) (.cons rfl (.dat .int) (.cons rfl (.dat .int) .nil)))))) (fun s1 B o hS1 hB1 hE1 => ?_)
  unfold S_impl_keptItems_1 at hS1
  refine RW.sreg ?_
  refine rl.gen rfl rfl fun b hb => ?_
  cases b
  ·have h3 := iteBF hS1 hb
   refine rl.done (RW.seq (RW.cond_f rfl (RW.exit (blkA_eq ?_))))
   cases h3
   exact ⟨_, (hE1 _ rfl).symm, (Gh.ren0 [1] (.same rfl (ek_TItem.fref _ _) .nil) rfl (.cons rfl (.slq rfl rfl) .nil))⟩
  ·have h4 := iteBT hS1 hb
   refine rl.done (RW.seq (RW.cond_t rfl (RW.skip (RW.seq (RW.blk (RW.sreg ?_))))))
   obtain ⟨v3, e3, h5⟩ := bindS h4
   refine rl.op (x_ia_lst (enc := enc_TSeg) (o := false) rfl rfl rfl e3) ?_
   refine rl.op (x_ld_ela (off' := 0) (vs := (enc_TSeg false v3)) ek_TSeg rfl e3 rfl rfl rfl) ?_
   refine rl.run 2 rfl (rl.done (RW.sreg (rl.run 3 rfl ?_)))
   obtain ⟨v4, e4, h6⟩ := bindS h5
   refine rl.call rfl rfl rfl (CallW.val (r' := .bool v4) ok_impl_isFreed (law_impl_isFreed e4) (.cons (DFL.agg (.cons (.lst ekS) (.cons (.lst ek_TWrite) (.cons .int (.cons (.lst ek_TSeg) (.cons .int (.cons .int (.cons .int (.cons .int (.cons (.lst ekI) .nil)))))))))) (.cons .int .nil)) .refl ?_)
   cases hb : v4
   ·have h7 := iteBF h6 hb
    refine rl.run 1 rfl (rl.done (RW.cond_t rfl (RW.reg (rl.run 3 rfl ?_))))
    obtain ⟨v5, e5, h8⟩ := bindS h7
    refine rl.op (x_app rfl rfl (rapp_sl (l := s1.2) (m := v3.Items) (o := true) ek_TItem rfl rfl acont_lst rfl (fk_TItem.fst _ _) e5)) ?_
    refine rl.run 1 rfl (rl.done (RW.reg (rl.run 2 rfl (rl.done ?_))))
    cases h8
    exact hB1 _ rfl _ _ (Gh.ren0 [0, 3] (.cells rfl rfl (.keep (ekS.rlst) (.keep (ek_TWrite.rlst) (.keep .int (.keep (ek_TSeg.rlst) (.keep .int (.keep .int (.keep .int (.keep .int (.keep (ekI.rlst) .nil))))))))) (.same rfl (ek_TItem.fref _ _) .nil)) rfl (.cons rfl (.ptr rfl) (.cons rfl (.slq rfl rfl) (.cons rfl (.dat (ek_TSeg.rlst)) (.cons rfl (.dat .int) (.cons rfl (.dat .int) .nil))))))
   ·have h9 := iteBT h6 hb
    refine rl.run 1 rfl (rl.done (RW.cond_f rfl (RW.skip (RW.reg (rl.run 2 rfl (rl.done ?_))))))
    cases h9
    exact hB1 _ rfl _ _ (Gh.ren0 [0, 1] (.cells rfl rfl (.keep (ekS.rlst) (.keep (ek_TWrite.rlst) (.keep .int (.keep (ek_TSeg.rlst) (.keep .int (.keep .int (.keep .int (.keep .int (.keep (ekI.rlst) .nil))))))))) (.same rfl (ek_TItem.fref _ _) .nil)) rfl (.cons rfl (.ptr rfl) (.cons rfl (.slq rfl rfl) (.cons rfl (.dat (ek_TSeg.rlst)) (.cons rfl (.dat .int) (.cons rfl (.dat .int) .nil))))))
 ·intro y2 hC
  subst hC
  refine RW.sreg (rl.run 2 rfl (rl.done (RW.ret ?_)))
  cases h2
  exact RRet.mk rfl (OutR.ownq ek_TItem rfl rfl) (by first | decide | simp)
theorem law_impl_liveOf {x0 : TStore} {x1 : Int} {r : List Int} (hF : F_impl_liveOf x0 x1 = some r) : PCalls Tryz.prog 35 [.agg (enc_TStore false x0), .int .i64 x1] (.lst true 1 (fl (encI true) r) r.length) := by
 refine PCalls.of_r k_impl_liveOf rfl ?_
 unfold F_impl_liveOf at hF
 refine RW.sreg (rl.run 2 rfl (rl.done (RW.sreg (rl.run 1 rfl (rl.done (RW.seq (RW.sreg (rl.run 4 rfl ?_))))))))
 obtain ⟨v1, e1, h1⟩ := bindS hF
 refine rl.op (x_sle ek_TSeg rfl rfl rfl abnd_hi e1) ?_
 refine rl.run 2 rfl (rl.done ?_)
 obtain ⟨y6, ey6, h3⟩ := bindS h1
 refine RW.cutq (σ := Int) (fun y3 => [(1, .int .i64 x1), (2, .ptr 0 0), (5, .int .i64 y3)]) (fun y3 => [some ⟨[.lst false 1 (fl (encS false) x0.Log.Disk.Sectors) x0.Log.Disk.Sectors.length, .lst false 2 (fl (enc_TWrite false) x0.Log.Disk.Cache) x0.Log.Disk.Cache.length, .int .i64 x0.Log.Segs, .lst false 4 (fl (enc_TSeg false) x0.Log.Used) x0.Log.Used.length, .int .i64 x0.Log.NextGen, .int .i64 x0.Log.NextSeq, .int .i64 x0.Log.Stamp, .int .i64 x0.Log.NextValid, .lst false 1 (fl (encI false) x0.Freed) x0.Freed.length], 0⟩]) (fun y => y6 = y) (fun _ _ _ _ g h => RW.gh g h) ?_ ?_
 ·refine RW.blk ?_
  refine RW.iter (σ := Int × Int) ey6 (fun s2 => [(1, .int .i64 x1), (2, .ptr 0 0), (5, .int .i64 s2.1), (15, .lst false 4 (fl (enc_TSeg false) v1) v1.length), (16, .int .i64 (v1.length : Int)), (17, .int .i64 s2.2)]) (fun s2 => [some ⟨[.lst false 1 (fl (encS false) x0.Log.Disk.Sectors) x0.Log.Disk.Sectors.length, .lst false 2 (fl (enc_TWrite false) x0.Log.Disk.Cache) x0.Log.Disk.Cache.length, .int .i64 x0.Log.Segs, .lst false 4 (fl (enc_TSeg false) x0.Log.Used) x0.Log.Used.length, .int .i64 x0.Log.NextGen, .int .i64 x0.Log.NextSeq, .int .i64 x0.Log.Stamp, .int .i64 x0.Log.NextValid, .lst false 1 (fl (encI false) x0.Freed) x0.Freed.length], 0⟩]) (Gh.ren0 [0] (.cells rfl rfl (.keep (ekS.rlst) (.keep (ek_TWrite.rlst) (.keep .int (.keep (ek_TSeg.rlst) (.keep .int (.keep .int (.keep .int (.keep .int (.keep (ekI.rlst) .nil))))))))) .nil) rfl (.cons rfl (.dat .int) (.cons rfl (.ptr rfl) (.cons rfl (.dat .int) (.cons rfl (.dat (ek_TSeg.rlst)) (.cons rfl (.dat .int) (.cons rfl (.dat .int) .nil))))))) (fun s2 B o hS2 hB2 hE2 => ?_)
  unfold S_impl_liveOf_1 at hS2
  refine RW.sreg ?_
  refine rl.gen rfl rfl fun b hb => ?_
  cases b
  ·have h4 := iteBF hS2 hb
   refine rl.done (RW.seq (RW.cond_f rfl (RW.exit (blkA_eq ?_))))
   cases h4
   exact ⟨_, (hE2 _ rfl).symm, (Gh.ren0 [0] (.cells rfl rfl (.keep (ekS.rlst) (.keep (ek_TWrite.rlst) (.keep .int (.keep (ek_TSeg.rlst) (.keep .int (.keep .int (.keep .int (.keep .int (.keep (ekI.rlst) .nil))))))))) .nil) rfl (.cons rfl (.dat .int) (.cons rfl (.ptr rfl) (.cons rfl (.dat .int) .nil))))⟩
  ·have h5 := iteBT hS2 hb
   refine rl.done (RW.seq (RW.cond_t rfl (RW.skip (RW.seq (RW.blk (RW.sreg ?_))))))
   obtain ⟨v4, e4, h6⟩ := bindS h5
   refine rl.op (x_ia_lst (enc := enc_TSeg) (o := false) rfl rfl rfl e4) ?_
   refine rl.op (x_ld_ela (off' := 0) (vs := (enc_TSeg false v4)) ek_TSeg rfl e4 rfl rfl rfl) ?_
   refine rl.run 2 rfl (rl.done (RW.sreg (rl.run 3 rfl ?_)))
   obtain ⟨v5, e5, h7⟩ := bindS h6
   refine rl.call rfl rfl rfl (CallW.val (r' := .bool v5) ok_impl_isFreed (law_impl_isFreed e5) (.cons (DFL.agg (.cons (.lst ekS) (.cons (.lst ek_TWrite) (.cons .int (.cons (.lst ek_TSeg) (.cons .int (.cons .int (.cons .int (.cons .int (.cons (.lst ekI) .nil)))))))))) (.cons .int .nil)) .refl ?_)
   cases hb : v5
   ·have h8 := iteBF h7 hb
    refine rl.run 1 rfl (rl.done (RW.cond_t rfl (RW.reg (rl.run 6 rfl (rl.done (RW.reg (rl.run 2 rfl (rl.done ?_))))))))
    cases h8
    exact hB2 _ rfl _ _ (Gh.ren0 [0] (.cells rfl rfl (.keep (ekS.rlst) (.keep (ek_TWrite.rlst) (.keep .int (.keep (ek_TSeg.rlst) (.keep .int (.keep .int (.keep .int (.keep .int (.keep (ekI.rlst) .nil))))))))) .nil) rfl (.cons rfl (.dat .int) (.cons rfl (.ptr rfl) (.cons rfl (.dat .int) (.cons rfl (.dat (ek_TSeg.rlst)) (.cons rfl (.dat .int) (.cons rfl (.dat .int) .nil)))))))
   ·have h9 := iteBT h7 hb
    refine rl.run 1 rfl (rl.done (RW.cond_f rfl (RW.skip (RW.reg (rl.run 2 rfl (rl.done ?_))))))
    cases h9
    exact hB2 _ rfl _ _ (Gh.ren0 [0] (.cells rfl rfl (.keep (ekS.rlst) (.keep (ek_TWrite.rlst) (.keep .int (.keep (ek_TSeg.rlst) (.keep .int (.keep .int (.keep .int (.keep .int (.keep (ekI.rlst) .nil))))))))) .nil) rfl (.cons rfl (.dat .int) (.cons rfl (.ptr rfl) (.cons rfl (.dat .int) (.cons rfl (.dat (ek_TSeg.rlst)) (.cons rfl (.dat .int) (.cons rfl (.dat .int) .nil)))))))
 ·intro y3 hC
  subst hC
  refine RW.sreg (rl.run 1 rfl ?_)
  obtain ⟨v7, e7, h10⟩ := bindS h3
  refine rl.call rfl rfl rfl (CallW.val (r' := .lst false 9 (fl (enc_TItem false) v7) v7.length) ok_impl_keptItems (law_impl_keptItems e7) (.cons (DFL.agg (.cons (.lst ekS) (.cons (.lst ek_TWrite) (.cons .int (.cons (.lst ek_TSeg) (.cons .int (.cons .int (.cons .int (.cons .int (.cons (.lst ekI) .nil)))))))))) .nil) (ek_TItem.fflag _).lst ?_)
  obtain ⟨v8, e8, h11⟩ := bindS h10
  refine rl.call rfl rfl rfl (CallW.val (r' := .lst false 1 (fl (encO false) v8) v8.length) ok_impl_NeededAll (law_impl_NeededAll e8) (.cons (.lst ek_TItem) .nil) (ekO.fflag _).lst ?_)
  refine rl.run 1 rfl (rl.done (RW.sreg (rl.run 2 rfl (rl.done (RW.seq (RW.sreg (rl.run 4 rfl ?_)))))))
  obtain ⟨v9, e9, h12⟩ := bindS h11
  refine rl.op (x_ia_lst (enc := enc_TSeg) (o := false) rfl rfl rfl e9) ?_
  refine rl.run 1 rfl ?_
  refine rl.op (x_ld_el (off' := 3) ek_TSeg rfl e9 rfl rfl rfl) ?_
  refine rl.run 2 rfl (rl.done ?_)
  refine RW.keep [5, 8, 9, 43, 44] (a' := [(5, .int .i64 y6), (8, .lst false 1 (fl (encO false) v8) v8.length), (9, .nils), (43, .int .i64 (v9.Items.length : Int)), (44, .int .i64 0)]) (H' := [some ⟨[.lst false 1 (fl (encS false) x0.Log.Disk.Sectors) x0.Log.Disk.Sectors.length, .lst false 2 (fl (enc_TWrite false) x0.Log.Disk.Cache) x0.Log.Disk.Cache.length, .int .i64 x0.Log.Segs, .lst false 4 (fl (enc_TSeg false) x0.Log.Used) x0.Log.Used.length, .int .i64 x0.Log.NextGen, .int .i64 x0.Log.NextSeq, .int .i64 x0.Log.Stamp, .int .i64 x0.Log.NextValid, .lst false 1 (fl (encI false) x0.Freed) x0.Freed.length], 0⟩]) rfl rfl ?_
  refine RW.gh (Gh.nil_t 9 1 rfl) ?_
  obtain ⟨y14, ey14, h14⟩ := bindS h12
  refine RW.cutq (σ := (List Int)) (fun y11 => [(9, .sl 0 0 y11.length)]) (fun y11 => [some ⟨fl (encI true) y11, 1⟩]) (fun y => y14 = y) (fun _ _ _ _ g h => RW.gh g h) ?_ ?_
  ·refine RW.blk ?_
   refine RW.iter (σ := Int × (List Int)) ey14 (fun s10 => [(5, .int .i64 y6), (8, .lst false 1 (fl (encO false) v8) v8.length), (9, .sl 0 0 s10.2.length), (43, .int .i64 (v9.Items.length : Int)), (44, .int .i64 s10.1)]) (fun s10 => [some ⟨fl (encI true) s10.2, 1⟩]) (Gh.ren0 [1] (.same rfl (ekI.fref _ _) .nil) rfl (.cons rfl (.dat .int) (.cons rfl (.dat (ekO.rlst)) (.cons rfl (.slq rfl rfl) (.cons rfl (.dat .int) (.cons rfl (.dat .int) .nil)))))) (fun s10 B o hS13 hB13 hE13 => ?_)
   unfold S_impl_liveOf_2 at hS13
   refine RW.sreg ?_
   refine rl.gen rfl rfl fun b hb => ?_
   cases b
   ·have h15 := iteBF hS13 hb
    refine rl.done (RW.seq (RW.cond_f rfl (RW.exit (blkA_eq ?_))))
    cases h15
    exact ⟨_, (hE13 _ rfl).symm, (Gh.ren0 [0] (.same rfl (ekI.fref _ _) .nil) rfl (.cons rfl (.slq rfl rfl) .nil))⟩
   ·have h16 := iteBT hS13 hb
    refine rl.done (RW.seq (RW.cond_t rfl (RW.skip (RW.seq (RW.blk (RW.sreg (rl.run 2 rfl (rl.done (RW.sreg (rl.run 4 rfl ?_))))))))))
    obtain ⟨v12, e12, h17⟩ := bindS h16
    refine rl.op (x_ia_lst (enc := encO) (o := false) rfl rfl rfl e12) ?_
    refine rl.op (x_ld_el (off' := 0) ekO rfl e12 rfl rfl rfl) ?_
    refine rl.done ?_
    cases hb : v12
    ·have h18 := iteBF h17 hb
     refine RW.cond_f rfl (RW.skip (RW.reg (rl.run 2 rfl (rl.done ?_))))
     cases h18
     exact hB13 _ rfl _ _ (Gh.ren0 [0] (.same rfl (ekI.fref _ _) .nil) rfl (.cons rfl (.dat .int) (.cons rfl (.dat (ekO.rlst)) (.cons rfl (.slq rfl rfl) (.cons rfl (.dat .int) (.cons rfl (.dat .int) .nil))))))
    ·have h19 := iteBT h17 hb
     refine RW.cond_t rfl (RW.reg (rl.run 3 rfl ?_))
     obtain ⟨v13, e13, h20⟩ := bindS h19
     refine rl.op (x_app rfl rfl (rapp_sl (l := s10.2) (m := [s10.1]) (o := true) ekI rfl rfl (acont_slq (m := [s10.1]) (o := true) fkI rfl rfl) rfl (fkI.fst _ _) e13)) ?_
     refine rl.run 1 rfl (rl.done (RW.reg (rl.run 2 rfl (rl.done ?_))))
     cases h20
     exact hB13 _ rfl _ _ (Gh.ren0 [2] (.same rfl (ekI.fref _ _) .nil) rfl (.cons rfl (.dat .int) (.cons rfl (.dat (ekO.rlst)) (.cons rfl (.slq rfl rfl) (.cons rfl (.dat .int) (.cons rfl (.dat .int) .nil))))))
  ·intro y11 hC
   subst hC
   refine RW.sreg (rl.run 2 rfl (rl.done (RW.ret ?_)))
   cases h14
   exact RRet.mk rfl (OutR.ownq ekI rfl rfl) (by first | decide | simp)
theorem law_impl_varText {x0 : Int} {r : List UInt8} (hF : F_impl_varText x0 = some r) : PCalls Tryz.prog 78 [.int .i64 x0] (.str r) := by
 refine PCalls.of_r k_impl_varText rfl ?_
 unfold F_impl_varText at hF
 refine RW.sreg (rl.run 1 rfl (rl.done (RW.sreg (rl.run 2 rfl (rl.done (RW.seq ?_))))))
 refine RW.gh (Gh.nil_t 3 1 rfl) ?_
 obtain ⟨y4, ey4, h2⟩ := bindS hF
 refine RW.cutq (σ := Int × (List Int)) (fun y2 => [(0, .int .i64 y2.1), (3, .sl 0 0 y2.2.length)]) (fun y2 => [some ⟨fl (encB true) y2.2, 1⟩]) (fun y => y4 = y) (fun _ _ _ _ g h => RW.gh g h) ?_ ?_
 ·refine RW.blk ?_
  refine RW.iter (σ := Int × (List Int)) ey4 (fun s1 => [(0, .int .i64 s1.1), (3, .sl 0 0 s1.2.length)]) (fun s1 => [some ⟨fl (encB true) s1.2, 1⟩]) (Gh.ren0 [0] (.same rfl (ekB.fref _ _) .nil) rfl (.cons rfl (.dat .int) (.cons rfl (.slq rfl rfl) .nil))) (fun s1 B o hS1 hB1 hE1 => ?_)
  unfold S_impl_varText_1 at hS1
  refine RW.seq (RW.sreg (rl.run 1 rfl ?_))
  refine rl.gen rfl rfl fun b hb => ?_
  cases b
  ·have h3 := iteBF hS1 hb
   refine rl.done (RW.cond_f rfl (RW.exit (blkA_eq ?_)))
   cases h3
   exact ⟨_, (hE1 _ rfl).symm, (Gh.ren0 [0] (.same rfl (ekB.fref _ _) .nil) rfl (.cons rfl (.dat .int) (.cons rfl (.slq rfl rfl) .nil)))⟩
  ·have h4 := iteBT hS1 hb
   refine rl.done (RW.cond_t rfl (RW.skip (RW.blk (RW.sreg (rl.run 6 rfl ?_)))))
   obtain ⟨v3, e3, h5⟩ := bindS h4
   refine rl.op (x_app rfl rfl (rapp_sl (l := s1.2) (m := [IntKind.u8.wrap (orv .i64 (andv .i64 s1.1 127) 128)]) (o := true) ekB rfl rfl (acont_slq (m := [IntKind.u8.wrap (orv .i64 (andv .i64 s1.1 127) 128)]) (o := true) fkB rfl rfl) rfl (fkB.fst _ _) e3)) ?_
   refine rl.run 1 rfl (rl.done (RW.reg (rl.run 3 rfl (rl.done ?_))))
   cases h5
   exact hB1 _ rfl _ _ (Gh.ren0 [2] (.same rfl (ekB.fref _ _) .nil) rfl (.cons rfl (.dat .int) (.cons rfl (.slq rfl rfl) .nil)))
 ·intro y2 hC
  subst hC
  refine RW.sreg (rl.run 4 rfl ?_)
  obtain ⟨v5, e5, h6⟩ := bindS h2
  refine rl.op (x_app rfl rfl (rapp_sl (l := y4.2) (m := [IntKind.u8.wrap y4.1]) (o := true) ekB rfl rfl (acont_slq (m := [IntKind.u8.wrap y4.1]) (o := true) fkB rfl rfl) rfl (fkB.fst _ _) e5)) ?_
  refine rl.op (x_cvb_sl (o := true) (l := v5) rfl rfl) ?_
  refine rl.run 1 rfl (rl.done (RW.ret ?_))
  cases h6
  exact RRet.mk rfl .str (by first | decide | simp)
theorem law_impl_RecText {x0 : TRec} {r : (List UInt8) × Bool} (hF : F_impl_RecText x0 = some r) : PCalls Tryz.prog 56 [.agg (enc_TRec false x0)] (.tup [.str r.1, .bool r.2]) := by
 refine PCalls.of_r k_impl_RecText rfl ?_
 unfold F_impl_RecText at hF
 refine RW.sreg (rl.run 3 rfl (rl.done (RW.seq (RW.sreg (rl.run 1 rfl ?_)))))
 obtain ⟨v1, e1, h1⟩ := bindS hF
 refine rl.call rfl rfl rfl (CallW.val (r' := .bool v1) ok_impl_RecOk (law_impl_RecOk e1) (.cons (DFL.agg (.cons .int (.cons .int (.cons .int (.cons .int (.cons .int (.cons .str (.cons .str (.cons .str .nil))))))))) .nil) .refl ?_)
 cases hb : v1
 ·have h2 := iteBF h1 hb
  refine rl.run 1 rfl (rl.done (RW.cond_t rfl (RW.sreg (rl.run 2 rfl (rl.done (RW.ret ?_))))))
  cases h2
  exact RRet.mk rfl (OutT.tup (.cons .str (.cons .bool .nil))) (by first | decide | simp)
 ·have h3 := iteBT h1 hb
  refine rl.run 1 rfl (rl.done (RW.cond_f rfl (RW.skip (RW.sreg (rl.run 4 rfl ?_)))))
  refine rl.op (x_cvb_sl (o := true) (l := [IntKind.u8.wrap x0.Kind]) rfl rfl) ?_
  refine rl.run 1 rfl (rl.done ?_)
  refine RW.keep [1, 4] (a' := [(1, .ptr 0 0), (4, .str ([IntKind.u8.wrap x0.Kind].map ofI))]) (H' := [some ⟨[.int .i64 x0.Kind, .int .i64 x0.Valid, .int .i64 x0.Uid, .int .i64 x0.Next, .int .i64 x0.Flags, .str x0.User, .str x0.Name, .str x0.Text], 0⟩, some ⟨fl (encB true) [IntKind.u8.wrap x0.Kind], 1⟩]) rfl rfl ?_
  refine RW.seq (RW.sreg (rl.run 11 rfl (rl.done ?_)))
  obtain ⟨y7, ey7, h5⟩ := bindS h3
  refine RW.cutq (σ := (List UInt8)) (fun y3 => [(1, .ptr 0 0), (4, .str y3)]) (fun y3 => [some ⟨[.int .i64 x0.Kind, .int .i64 x0.Valid, .int .i64 x0.Uid, .int .i64 x0.Next, .int .i64 x0.Flags, .str x0.User, .str x0.Name, .str x0.Text], 0⟩]) (fun y => y7 = y) (fun _ _ _ _ g h => RW.gh g h) ?_ ?_
  ·refine RW.blk ?_
   refine RW.iter (σ := (List UInt8) × Int) ey7 (fun s2 => [(1, .ptr 0 0), (4, .str s2.1), (25, .sl 1 0 [x0.Valid, x0.Uid, x0.Next, x0.Flags].length), (26, .int .i64 ([x0.Valid, x0.Uid, x0.Next, x0.Flags].length : Int)), (27, .int .i64 s2.2)]) (fun s2 => [some ⟨[.int .i64 x0.Kind, .int .i64 x0.Valid, .int .i64 x0.Uid, .int .i64 x0.Next, .int .i64 x0.Flags, .str x0.User, .str x0.Name, .str x0.Text], 0⟩, some ⟨fl (encI true) [x0.Valid, x0.Uid, x0.Next, x0.Flags], 1⟩]) (Gh.ren0 [0, 2] (.cells rfl rfl (.keep .int (.keep .int (.keep .int (.keep .int (.keep .int (.keep .str (.keep .str (.keep .str .nil)))))))) (.same rfl (ekI.fref _ _) .nil)) rfl (.cons rfl (.ptr rfl) (.cons rfl (.dat .str) (.cons rfl (.slq rfl rfl) (.cons rfl (.dat .int) (.cons rfl (.dat .int) .nil)))))) (fun s2 B o hS4 hB4 hE4 => ?_)
   unfold S_impl_RecText_1 at hS4
   refine RW.sreg ?_
   refine rl.gen rfl rfl fun b hb => ?_
   cases b
   ·have h6 := iteBF hS4 hb
    refine rl.done (RW.seq (RW.cond_f rfl (RW.exit (blkA_eq ?_))))
    cases h6
    exact ⟨_, (hE4 _ rfl).symm, (Gh.ren0 [0] (.cells rfl rfl (.keep .int (.keep .int (.keep .int (.keep .int (.keep .int (.keep .str (.keep .str (.keep .str .nil)))))))) .nil) rfl (.cons rfl (.ptr rfl) (.cons rfl (.dat .str) .nil)))⟩
   ·have h7 := iteBT hS4 hb
    refine rl.done (RW.seq (RW.cond_t rfl (RW.skip (RW.seq (RW.blk (RW.sreg ?_))))))
    obtain ⟨v4, e4, h8⟩ := bindS h7
    refine rl.op (x_ia_sl rfl rfl rfl rfl e4) ?_
    refine rl.op (x_ld_sl (off' := 0) ekI rfl rfl e4 rfl rfl rfl) ?_
    refine rl.run 1 rfl (rl.done (RW.reg (rl.run 2 rfl ?_)))
    obtain ⟨v5, e5, h9⟩ := bindS h8
    refine rl.call rfl rfl rfl (CallW.val (r' := .str v5) ok_impl_varText (law_impl_varText e5) (.cons .int .nil) .refl ?_)
    obtain ⟨v6, e6, h10⟩ := bindS h9
    refine rl.op (x_cat rfl rfl e6) ?_
    refine rl.run 1 rfl (rl.done (RW.reg (rl.run 2 rfl (rl.done ?_))))
    cases h10
    exact hB4 _ rfl _ _ (Gh.ren0 [0, 1] (.cells rfl rfl (.keep .int (.keep .int (.keep .int (.keep .int (.keep .int (.keep .str (.keep .str (.keep .str .nil)))))))) (.same rfl (ekI.fref _ _) .nil)) rfl (.cons rfl (.ptr rfl) (.cons rfl (.dat .str) (.cons rfl (.slq rfl rfl) (.cons rfl (.dat .int) (.cons rfl (.dat .int) .nil))))))
  ·intro y3 hC
   subst hC
   refine RW.seq (RW.sreg (rl.run 9 rfl (rl.done ?_)))
   obtain ⟨y14, ey14, h12⟩ := bindS h5
   refine RW.cutq (σ := (List UInt8)) (fun y9 => [(4, .str y9)]) (fun y9 => []) (fun y => y14 = y) (fun _ _ _ _ g h => RW.gh g h) ?_ ?_
   ·refine RW.blk ?_
    refine RW.iter (σ := (List UInt8) × Int) ey14 (fun s8 => [(4, .str s8.1), (42, .sl 0 0 [x0.User, x0.Name, x0.Text].length), (43, .int .i64 ([x0.User, x0.Name, x0.Text].length : Int)), (44, .int .i64 s8.2)]) (fun s8 => [some ⟨fl (encS true) [x0.User, x0.Name, x0.Text], 1⟩]) (Gh.ren0 [1] (.same rfl (ekS.fref _ _) .nil) rfl (.cons rfl (.dat .str) (.cons rfl (.slq rfl rfl) (.cons rfl (.dat .int) (.cons rfl (.dat .int) .nil))))) (fun s8 B o hS11 hB11 hE11 => ?_)
    unfold S_impl_RecText_2 at hS11
    refine RW.sreg ?_
    refine rl.gen rfl rfl fun b hb => ?_
    cases b
    ·have h13 := iteBF hS11 hb
     refine rl.done (RW.seq (RW.cond_f rfl (RW.exit (blkA_eq ?_))))
     cases h13
     exact ⟨_, (hE11 _ rfl).symm, (Gh.ren0 [] .nil rfl (.cons rfl (.dat .str) .nil))⟩
    ·have h14 := iteBT hS11 hb
     refine rl.done (RW.seq (RW.cond_t rfl (RW.skip (RW.seq (RW.blk (RW.sreg ?_))))))
     obtain ⟨v10, e10, h15⟩ := bindS h14
     refine rl.op (x_ia_sl rfl rfl rfl rfl e10) ?_
     refine rl.op (x_ld_sl (off' := 0) ekS rfl rfl e10 rfl rfl rfl) ?_
     refine rl.run 1 rfl (rl.done (RW.reg (rl.run 3 rfl ?_)))
     obtain ⟨v11, e11, h16⟩ := bindS h15
     refine rl.call rfl rfl rfl (CallW.val (r' := .str v11) ok_impl_varText (law_impl_varText e11) (.cons .int .nil) .refl ?_)
     refine rl.run 1 rfl ?_
     obtain ⟨v12, e12, h17⟩ := bindS h16
     refine rl.op (x_cat rfl rfl e12) ?_
     obtain ⟨v13, e13, h18⟩ := bindS h17
     refine rl.op (x_cat rfl rfl e13) ?_
     refine rl.run 1 rfl (rl.done (RW.reg (rl.run 2 rfl (rl.done ?_))))
     cases h18
     exact hB11 _ rfl _ _ (Gh.ren0 [0] (.same rfl (ekS.fref _ _) .nil) rfl (.cons rfl (.dat .str) (.cons rfl (.slq rfl rfl) (.cons rfl (.dat .int) (.cons rfl (.dat .int) .nil)))))
   ·intro y9 hC
    subst hC
    refine RW.sreg (rl.run 3 rfl (rl.done (RW.ret ?_)))
    cases h12
    exact RRet.mk rfl (OutT.tup (.cons .str (.cons .bool .nil))) (by first | decide | simp)
theorem law_impl_FrameOk {x0 : TFrame} {r : Bool} (hF : F_impl_FrameOk x0 = some r) : PCalls Tryz.prog 57 [.agg (enc_TFrame false x0)] (.bool r) := by
 refine PCalls.of_r k_impl_FrameOk rfl ?_
 unfold F_impl_FrameOk at hF
 refine RW.sreg (rl.run 2 rfl (rl.done (RW.seq ?_)))
 obtain ⟨y1, ey1, h1⟩ := bindS hF
 refine RW.cutq (σ := Bool) (fun y1 => [(2, .bool y1)]) (fun y1 => []) (fun y => y1 = y) (fun _ _ _ _ g h => RW.gh g h) ?_ ?_
 ·refine RW.reg ?_
  refine rl.run 2 rfl ?_
  obtain ⟨v2, e2, h2⟩ := bindS ey1
  refine rl.call rfl rfl rfl (CallW.val (r' := .bool v2) ok_impl_in (law_impl_in e2) (.cons .int (.cons .int (.cons .int .nil))) .refl ?_)
  cases hb : v2
  ·have h3 := iteBF h2 hb
   refine rl.run 12 rfl (rl.done ?_)
   cases h3
   exact ⟨_, rfl, (Gh.ren0 [] .nil rfl (.cons rfl (.dat .bool) .nil))⟩
  ·have h4 := iteBT h2 hb
   refine rl.run 3 rfl ?_
   obtain ⟨v3, e3, h5⟩ := bindS h4
   refine rl.call rfl rfl rfl (CallW.val (r' := .bool v3) ok_impl_in (law_impl_in e3) (.cons .int (.cons .int (.cons .int .nil))) .refl ?_)
   cases hb : v3
   ·have h6 := iteBF h5 hb
    refine rl.run 8 rfl (rl.done ?_)
    cases h6
    exact ⟨_, rfl, (Gh.ren0 [] .nil rfl (.cons rfl (.dat .bool) .nil))⟩
   ·have h7 := iteBT h5 hb
    refine rl.run 5 rfl ?_
    obtain ⟨v4, e4, h8⟩ := bindS h7
    refine rl.call rfl rfl rfl (CallW.val (r' := .bool v4) ok_impl_in (law_impl_in e4) (.cons .int (.cons .int (.cons .int .nil))) .refl ?_)
    refine rl.run 2 rfl (rl.done ?_)
    cases h8
    exact ⟨_, rfl, (Gh.ren0 [] .nil rfl (.cons rfl (.dat .bool) .nil))⟩
 ·intro y hC
  subst hC
  refine RW.ret ?_
  cases h1
  exact RRet.mk rfl .bool (by first | decide | simp)
theorem law_impl_ItemFrame {x0 : TItem} {x1 : Int} {r : TFrame × Bool} (hF : F_impl_ItemFrame x0 x1 = some r) : PCalls Tryz.prog 36 [.agg (enc_TItem false x0), .int .i64 x1] (.tup [.agg (enc_TFrame true r.1), .bool r.2]) := by
 refine PCalls.of_r k_impl_ItemFrame rfl ?_
 unfold F_impl_ItemFrame at hF
 refine RW.sreg (rl.run 3 rfl (rl.done (RW.sreg (rl.run 2 rfl ?_))))
 obtain ⟨v1, e1, h1⟩ := bindS hF
 refine rl.call rfl rfl rfl (CallW.val (r' := .tup [.str v1.1, .bool v1.2]) ok_impl_RecText (law_impl_RecText e1) (.cons (DFL.agg (.cons .int (.cons .int (.cons .int (.cons .int (.cons .int (.cons .str (.cons .str (.cons .str .nil))))))))) .nil) (FlL.tup (.cons .refl (.cons .refl .nil))) ?_)
 refine rl.run 5 rfl (rl.done (RW.sreg (rl.run 7 rfl (rl.done ?_))))
 refine RW.keep [4, 7, 8] (a' := [(4, .ptr 1 0), (7, .bool v1.2), (8, .ptr 2 0)]) (H' := [some ⟨[.int .i64 x0.Seq, .int .i64 x0.Rec.Kind, .int .i64 x0.Rec.Valid, .int .i64 x0.Rec.Uid, .int .i64 x0.Rec.Next, .int .i64 x0.Rec.Flags, .str x0.Rec.User, .str x0.Rec.Name, .str x0.Rec.Text], 0⟩, some ⟨[.int .i64 0, .int .i64 0, .str []], 0⟩, some ⟨[.int .i64 x1, .int .i64 x0.Seq, .str v1.1], 0⟩]) rfl rfl ?_
 refine RW.seq (RW.seq ?_)
 obtain ⟨y2, ey2, h2⟩ := bindS h1
 refine RW.cutq (σ := Bool) (fun y2 => [(4, .ptr 0 0), (8, .ptr 1 0), (26, .bool y2)]) (fun y2 => [some ⟨[.int .i64 0, .int .i64 0, .str []], 0⟩, some ⟨[.int .i64 x1, .int .i64 x0.Seq, .str v1.1], 0⟩]) (fun y => y2 = y) (fun _ _ _ _ g h => RW.gh g h) ?_ ?_
 ·refine RW.reg ?_
  refine rl.run 3 rfl ?_
  cases hb : (!v1.2)
  ·have h3 := iteBF ey2 hb
   refine rl.run 1 rfl ?_
   obtain ⟨v3, e3, h4⟩ := bindS h3
   refine rl.call rfl rfl rfl (CallW.val (r' := .bool v3) ok_impl_FrameOk (law_impl_FrameOk e3) (.cons (DFL.agg (.cons .int (.cons .int (.cons .str .nil)))) .nil) .refl ?_)
   cases hb : v3
   ·have h5 := iteBF h4 hb
    refine rl.run 2 rfl (rl.done ?_)
    cases h5
    exact ⟨_, rfl, (Gh.ren0 [1, 2] (.cells rfl rfl (.keep .int (.keep .int (.keep .str .nil))) (.cells rfl rfl (.keep .int (.keep .int (.keep .str .nil))) .nil)) rfl (.cons rfl (.ptr rfl) (.cons rfl (.ptr rfl) (.cons rfl (.dat .bool) .nil))))⟩
   ·have h6 := iteBT h4 hb
    refine rl.run 2 rfl (rl.done ?_)
    cases h6
    exact ⟨_, rfl, (Gh.ren0 [1, 2] (.cells rfl rfl (.keep .int (.keep .int (.keep .str .nil))) (.cells rfl rfl (.keep .int (.keep .int (.keep .str .nil))) .nil)) rfl (.cons rfl (.ptr rfl) (.cons rfl (.ptr rfl) (.cons rfl (.dat .bool) .nil))))⟩
  ·have h7 := iteBT ey2 hb
   refine rl.run 4 rfl (rl.done ?_)
   cases h7
   exact ⟨_, rfl, (Gh.ren0 [1, 2] (.cells rfl rfl (.keep .int (.keep .int (.keep .str .nil))) (.cells rfl rfl (.keep .int (.keep .int (.keep .str .nil))) .nil)) rfl (.cons rfl (.ptr rfl) (.cons rfl (.ptr rfl) (.cons rfl (.dat .bool) .nil))))⟩
 ·intro y hC
  subst hC
  cases hb : y2
  ·have h8 := iteBF h2 hb
   refine RW.cond_f rfl (RW.skip (RW.sreg (rl.run 3 rfl (rl.done (RW.ret ?_)))))
   cases h8
   exact RRet.mk rfl (OutT.tup (.cons (OutL.agg (.cons .int rfl (.cons .int rfl (.cons .str rfl .nil)))) (.cons .bool .nil))) (by first | decide | simp)
  ·have h9 := iteBT h2 hb
   refine RW.cond_t rfl (RW.sreg (rl.run 3 rfl (rl.done (RW.ret ?_))))
   cases h9
   exact RRet.mk rfl (OutT.tup (.cons (OutL.agg (.cons .int rfl (.cons .int rfl (.cons .str rfl .nil)))) (.cons .bool .nil))) (by first | decide | simp)
theorem law_impl_SumMore {x0 : Int} {x1 : List UInt8} {r : Int} (hF : F_impl_SumMore x0 x1 = some r) : PCalls Tryz.prog 112 [.int .u32 x0, .str x1] (.int .u32 r) := by
 refine PCalls.of_r k_impl_SumMore rfl ?_
 unfold F_impl_SumMore at hF
 refine RW.sreg (rl.run 1 rfl (rl.done (RW.seq (RW.sreg (rl.run 3 rfl (rl.done ?_))))))
 obtain ⟨y7, ey7, h2⟩ := bindS hF
 refine RW.cutq (σ := Int) (fun y2 => [(0, .int .u32 y2)]) (fun y2 => []) (fun y => y7 = y) (fun _ _ _ _ g h => RW.gh g h) ?_ ?_
 ·refine RW.blk ?_
  refine RW.iter (σ := Int × Int) ey7 (fun s1 => [(0, .int .u32 s1.1), (1, .str x1), (8, .int .i64 (x1.length : Int)), (9, .int .i64 s1.2)]) (fun s1 => []) (Gh.ren0 [] .nil rfl (.cons rfl (.dat .int) (.cons rfl (.dat .str) (.cons rfl (.dat .int) (.cons rfl (.dat .int) .nil))))) (fun s1 B o hS1 hB1 hE1 => ?_)
  unfold S_impl_SumMore_1 at hS1
  refine RW.sreg ?_
  refine rl.gen rfl rfl fun b hb => ?_
  cases b
  ·have h3 := iteBF hS1 hb
   refine rl.done (RW.seq (RW.cond_f rfl (RW.exit (blkA_eq ?_))))
   cases h3
   exact ⟨_, (hE1 _ rfl).symm, (Gh.ren0 [] .nil rfl (.cons rfl (.dat .int) .nil))⟩
  ·have h4 := iteBT hS1 hb
   refine rl.done (RW.seq (RW.cond_t rfl (RW.skip (RW.seq (RW.blk (RW.sreg (rl.run 2 rfl (rl.done (RW.sreg (rl.run 3 rfl ?_))))))))))
   obtain ⟨v3, e3, h5⟩ := bindS h4
   refine rl.op (x_idx rfl rfl e3) ?_
   refine rl.run 3 rfl (rl.done (RW.sreg (rl.run 1 rfl (rl.done ?_))))
   obtain ⟨y6, ey6, h7⟩ := bindS h5
   refine RW.cutq (σ := Int) (fun y5 => [(0, .int .u32 y5), (1, .str x1), (8, .int .i64 (x1.length : Int)), (9, .int .i64 s1.2)]) (fun y5 => []) (fun y => y6 = y) (fun _ _ _ _ g h => RW.gh g h) ?_ ?_
   ·refine RW.blk ?_
    refine RW.iter (σ := Int × Int) ey6 (fun s4 => [(0, .int .u32 s4.1), (1, .str x1), (8, .int .i64 (x1.length : Int)), (9, .int .i64 s1.2), (18, .int .i64 s4.2)]) (fun s4 => []) (Gh.ren0 [] .nil rfl (.cons rfl (.dat .int) (.cons rfl (.dat .str) (.cons rfl (.dat .int) (.cons rfl (.dat .int) (.cons rfl (.dat .int) .nil)))))) (fun s4 B o hS6 hB6 hE6 => ?_)
    unfold S_impl_SumMore_2 at hS6
    refine RW.sreg ?_
    refine rl.gen rfl rfl fun b hb => ?_
    cases b
    ·have h8 := iteBF hS6 hb
     refine rl.done (RW.seq (RW.cond_f rfl (RW.exit (blkA_eq ?_))))
     cases h8
     exact ⟨_, (hE6 _ rfl).symm, (Gh.ren0 [] .nil rfl (.cons rfl (.dat .int) (.cons rfl (.dat .str) (.cons rfl (.dat .int) (.cons rfl (.dat .int) .nil)))))⟩
    ·have h9 := iteBT hS6 hb
     refine rl.done (RW.seq (RW.cond_t rfl (RW.skip (RW.seq (RW.blk (RW.sreg (rl.run 2 rfl ?_)))))))
     refine rl.gen rfl rfl fun b hb => ?_
     cases b
     ·have h10 := iteBF h9 hb
      refine rl.run 1 rfl (rl.done (RW.sreg (rl.run 3 rfl (rl.done (RW.sreg (rl.run 1 rfl (rl.done (RW.cond_f rfl (RW.skip (RW.reg (rl.run 2 rfl ?_)))))))))))
      refine rl.done ?_
      cases h10
      exact hB6 _ rfl _ _ (Gh.ren0 [] .nil rfl (.cons rfl (.dat .int) (.cons rfl (.dat .str) (.cons rfl (.dat .int) (.cons rfl (.dat .int) (.cons rfl (.dat .int) .nil))))))
     ·have h11 := iteBT h9 hb
      refine rl.run 1 rfl (rl.done (RW.sreg (rl.run 3 rfl (rl.done (RW.sreg (rl.run 1 rfl (rl.done (RW.cond_t rfl (RW.reg (rl.run 3 rfl (rl.done ?_)))))))))))
      refine RW.reg (rl.run 2 rfl (rl.done ?_))
      cases h11
      exact hB6 _ rfl _ _ (Gh.ren0 [] .nil rfl (.cons rfl (.dat .int) (.cons rfl (.dat .str) (.cons rfl (.dat .int) (.cons rfl (.dat .int) (.cons rfl (.dat .int) .nil))))))
   ·intro y5 hC
    subst hC
    refine RW.reg (rl.run 2 rfl (rl.done ?_))
    cases h7
    exact hB1 _ rfl _ _ (Gh.ren0 [] .nil rfl (.cons rfl (.dat .int) (.cons rfl (.dat .str) (.cons rfl (.dat .int) (.cons rfl (.dat .int) .nil)))))
 ·intro y2 hC
  subst hC
  refine RW.sreg (rl.run 2 rfl (rl.done (RW.ret ?_)))
  cases h2
  exact RRet.mk rfl .int (by first | decide | simp)
theorem law_impl_SumOf {x0 : List UInt8} {r : Int} (hF : F_impl_SumOf x0 = some r) : PCalls Tryz.prog 110 [.str x0] (.int .u32 r) := by
 refine PCalls.of_r k_impl_SumOf rfl ?_
 unfold F_impl_SumOf at hF
 refine RW.sreg (rl.run 1 rfl (rl.done (RW.sreg (rl.run 1 rfl ?_))))
 obtain ⟨v1, e1, h1⟩ := bindS hF
 refine rl.call rfl rfl rfl (CallW.val (r' := .int .u32 v1) ok_impl_SumMore (law_impl_SumMore e1) (.cons .int (.cons .str .nil)) .refl ?_)
 refine rl.run 1 rfl (rl.done (RW.ret ?_))
 cases h1
 exact RRet.mk rfl .int (by first | decide | simp)
theorem law_impl_seal {x0 : List UInt8} {r : List UInt8} (hF : F_impl_seal x0 = some r) : PCalls Tryz.prog 100 [.str x0] (.str r) := by
 refine PCalls.of_r k_impl_seal rfl ?_
 unfold F_impl_seal at hF
 refine RW.sreg (rl.run 1 rfl (rl.done (RW.sreg (rl.run 1 rfl ?_))))
 obtain ⟨v1, e1, h1⟩ := bindS hF
 refine rl.call rfl rfl rfl (CallW.val (r' := .int .u32 v1) ok_impl_SumOf (law_impl_SumOf e1) (.cons .str .nil) .refl ?_)
 refine rl.run 1 rfl (rl.done (RW.sreg (rl.run 12 rfl ?_)))
 refine rl.op (x_cvb_sl (o := true) (l := [IntKind.u8.wrap (shrv .u32 v1 24), IntKind.u8.wrap (shrv .u32 v1 16), IntKind.u8.wrap (shrv .u32 v1 8), IntKind.u8.wrap v1]) rfl rfl) ?_
 refine rl.run 1 rfl (rl.done ?_)
 refine RW.keep [2] (a' := [(2, .str ([IntKind.u8.wrap (shrv .u32 v1 24), IntKind.u8.wrap (shrv .u32 v1 16), IntKind.u8.wrap (shrv .u32 v1 8), IntKind.u8.wrap v1].map ofI))]) (H' := [some ⟨fl (encB true) [IntKind.u8.wrap (shrv .u32 v1 24), IntKind.u8.wrap (shrv .u32 v1 16), IntKind.u8.wrap (shrv .u32 v1 8), IntKind.u8.wrap v1], 1⟩]) rfl rfl ?_
 refine RW.ret ?_
 cases h1
 exact RRet.mk rfl .str (by first | decide | simp)
theorem law_impl_Sealed {x0 : List UInt8} {r : (List UInt8) × Bool} (hF : F_impl_Sealed x0 = some r) : PCalls Tryz.prog 79 [.str x0] (.tup [.str r.1, .bool r.2]) := by
 refine PCalls.of_r k_impl_Sealed rfl ?_
 unfold F_impl_Sealed at hF
 refine RW.sreg (rl.run 2 rfl (rl.done (RW.seq (RW.sreg (rl.run 2 rfl ?_)))))
 refine rl.gen rfl rfl fun b hb => ?_
 cases b
 ·have h1 := iteBF hF hb
  refine rl.done (RW.cond_f rfl (RW.skip (RW.sreg (rl.run 2 rfl ?_))))
  obtain ⟨v1, e1, h2⟩ := bindS h1
  refine rl.call rfl rfl rfl (CallW.val (r' := .str v1) ok_impl_seal (law_impl_seal e1) (.cons .str .nil) .refl ?_)
  obtain ⟨v2, e2, h3⟩ := bindS h2
  refine rl.op (x_cat rfl rfl e2) ?_
  refine rl.run 2 rfl (rl.done (RW.ret ?_))
  cases h3
  exact RRet.mk rfl (OutT.tup (.cons .str (.cons .bool .nil))) (by first | decide | simp)
 ·have h4 := iteBT hF hb
  refine rl.done (RW.cond_t rfl (RW.sreg (rl.run 2 rfl (rl.done (RW.ret ?_)))))
  cases h4
  exact RRet.mk rfl (OutT.tup (.cons .str (.cons .bool .nil))) (by first | decide | simp)
theorem law_impl_FrameText {x0 : TFrame} {r : (List UInt8) × Bool} (hF : F_impl_FrameText x0 = some r) : PCalls Tryz.prog 58 [.agg (enc_TFrame false x0)] (.tup [.str r.1, .bool r.2]) := by
 refine PCalls.of_r k_impl_FrameText rfl ?_
 unfold F_impl_FrameText at hF
 refine RW.sreg (rl.run 3 rfl (rl.done (RW.seq (RW.sreg (rl.run 1 rfl ?_)))))
 obtain ⟨v1, e1, h1⟩ := bindS hF
 refine rl.call rfl rfl rfl (CallW.val (r' := .bool v1) ok_impl_FrameOk (law_impl_FrameOk e1) (.cons (DFL.agg (.cons .int (.cons .int (.cons .str .nil)))) .nil) .refl ?_)
 cases hb : v1
 ·have h2 := iteBF h1 hb
  refine rl.run 1 rfl (rl.done (RW.cond_t rfl (RW.sreg (rl.run 2 rfl (rl.done (RW.ret ?_))))))
  cases h2
  exact RRet.mk rfl (OutT.tup (.cons .str (.cons .bool .nil))) (by first | decide | simp)
 ·have h3 := iteBT h1 hb
  refine rl.run 1 rfl (rl.done (RW.cond_f rfl (RW.skip (RW.sdrw (rdraw.op rfl rfl (rdraw.op rfl rfl ?_))))))
  obtain ⟨v2, e2, h4⟩ := bindS h3
  refine rdraw.call rfl rfl rfl (CallW.val (r' := .str v2) ok_impl_varText (law_impl_varText e2) (.cons .int .nil) .refl ⟨rfl, ?_⟩)
  refine rdraw.op rfl rfl (rdraw.op rfl rfl ?_)
  obtain ⟨v3, e3, h5⟩ := bindS h4
  refine rdraw.call rfl rfl rfl (CallW.val (r' := .str v3) ok_impl_varText (law_impl_varText e3) (.cons .int .nil) .refl ⟨rfl, ?_⟩)
  obtain ⟨v4, e4, h6⟩ := bindS h5
  refine rdraw.op rfl (x_cat rfl rfl e4) ?_
  refine rdraw.op rfl rfl (rdraw.op rfl rfl (rdraw.op rfl rfl ?_))
  obtain ⟨v5, e5, h7⟩ := bindS h6
  refine rdraw.call rfl rfl rfl (CallW.val (r' := .str v5) ok_impl_varText (law_impl_varText e5) (.cons .int .nil) .refl ⟨rfl, ?_⟩)
  obtain ⟨v6, e6, h8⟩ := bindS h7
  refine rdraw.op rfl (x_cat rfl rfl e6) ?_
  refine rdraw.op rfl rfl (rdraw.op rfl rfl ?_)
  obtain ⟨v7, e7, h9⟩ := bindS h8
  refine rdraw.op rfl (x_cat rfl rfl e7) ?_
  obtain ⟨v8, e8, h10⟩ := bindS h9
  refine rdraw.call rfl rfl rfl (CallW.val (r' := .tup [.str v8.1, .bool v8.2]) ok_impl_Sealed (law_impl_Sealed e8) (.cons .str .nil) (FlL.tup (.cons .refl (.cons .refl .nil))) ⟨rfl, ?_⟩)
  refine rdraw.op rfl rfl (rdraw.op rfl rfl (rdraw.op rfl rfl (rdraw.op rfl rfl (rdraw.done ?_))))
  refine RW.keep [2, 3] (a' := [(2, .str v8.1), (3, .bool v8.2)]) (H' := [some ⟨[.int .i64 x0.Gen, .int .i64 x0.Seq, .str x0.Body], 0⟩]) rfl rfl ?_
  refine RW.ret ?_
  cases h10
  exact RRet.mk rfl (OutT.tup (.cons .str (.cons .bool .nil))) (by first | decide | simp)
theorem law_impl_FrameSize {x0 : TFrame} {r : Int} (hF : F_impl_FrameSize x0 = some r) : PCalls Tryz.prog 37 [.agg (enc_TFrame false x0)] (.int .i64 r) := by
 refine PCalls.of_r k_impl_FrameSize rfl ?_
 unfold F_impl_FrameSize at hF
 refine RW.sreg (rl.run 2 rfl (rl.done (RW.sreg (rl.run 1 rfl ?_))))
 obtain ⟨v1, e1, h1⟩ := bindS hF
 refine rl.call rfl rfl rfl (CallW.val (r' := .tup [.str v1.1, .bool v1.2]) ok_impl_FrameText (law_impl_FrameText e1) (.cons (DFL.agg (.cons .int (.cons .int (.cons .str .nil)))) .nil) (FlL.tup (.cons .refl (.cons .refl .nil))) ?_)
 refine rl.run 5 rfl (rl.done (RW.sreg (rl.run 3 rfl (rl.done ?_))))
 refine RW.keep [2] (a' := [(2, .int .i64 (v1.1.length : Int))]) (H' := [some ⟨[.int .i64 x0.Gen, .int .i64 x0.Seq, .str x0.Body], 0⟩]) rfl rfl ?_
 refine RW.ret ?_
 cases h1
 exact RRet.mk rfl .int (by first | decide | simp)
theorem law_impl_LiveOf {x0 : TStore} {x1 : Int} {r : Int} (hF : F_impl_LiveOf x0 x1 = some r) : PCalls Tryz.prog 20 [.agg (enc_TStore false x0), .int .i64 x1] (.int .i64 r) := by
 refine PCalls.of_r k_impl_LiveOf rfl ?_
 unfold F_impl_LiveOf at hF
 refine RW.sreg (rl.run 2 rfl (rl.done (RW.seq (RW.sreg (rl.run 2 rfl ?_)))))
 obtain ⟨v1, e1, h1⟩ := bindS hF
 refine rl.call rfl rfl rfl (CallW.val (r' := .bool v1) ok_impl_segAt (law_impl_segAt e1) (.cons (DFL.agg (.cons (.lst ekS) (.cons (.lst ek_TWrite) (.cons .int (.cons (.lst ek_TSeg) (.cons .int (.cons .int (.cons .int (.cons .int (.cons (.lst ekI) .nil)))))))))) (.cons .int .nil)) .refl ?_)
 cases hb : v1
 ·have h2 := iteBF h1 hb
  refine rl.run 1 rfl (rl.done (RW.cond_t rfl (RW.sreg (rl.run 1 rfl (rl.done (RW.ret ?_))))))
  cases h2
  exact RRet.mk rfl .int (by first | decide | simp)
 ·have h3 := iteBT h1 hb
  refine rl.run 1 rfl (rl.done (RW.cond_f rfl (RW.skip (RW.sreg (rl.run 4 rfl ?_)))))
  obtain ⟨v2, e2, h4⟩ := bindS h3
  refine rl.op (x_ia_lst (enc := enc_TSeg) (o := false) rfl rfl rfl e2) ?_
  refine rl.op (x_ld_ela (off' := 0) (vs := (enc_TSeg false v2)) ek_TSeg rfl e2 rfl rfl rfl) ?_
  refine rl.run 2 rfl (rl.done ?_)
  refine RW.keep [1, 2, 5] (a' := [(1, .int .i64 x1), (2, .ptr 0 0), (5, .ptr 1 0)]) (H' := [some ⟨[.lst false 1 (fl (encS false) x0.Log.Disk.Sectors) x0.Log.Disk.Sectors.length, .lst false 2 (fl (enc_TWrite false) x0.Log.Disk.Cache) x0.Log.Disk.Cache.length, .int .i64 x0.Log.Segs, .lst false 4 (fl (enc_TSeg false) x0.Log.Used) x0.Log.Used.length, .int .i64 x0.Log.NextGen, .int .i64 x0.Log.NextSeq, .int .i64 x0.Log.Stamp, .int .i64 x0.Log.NextValid, .lst false 1 (fl (encI false) x0.Freed) x0.Freed.length], 0⟩, some ⟨[.int .i64 v2.No, .int .i64 v2.Gen, .int .i64 v2.End, .lst false 9 (fl (enc_TItem false) v2.Items) v2.Items.length], 0⟩]) rfl rfl ?_
  refine RW.sreg (rl.run 1 rfl (rl.done (RW.seq (RW.sreg (rl.run 2 rfl ?_)))))
  obtain ⟨v3, e3, h5⟩ := bindS h4
  refine rl.call rfl rfl rfl (CallW.val (r' := .lst false 1 (fl (encI false) v3) v3.length) ok_impl_liveOf (law_impl_liveOf e3) (.cons (DFL.agg (.cons (.lst ekS) (.cons (.lst ek_TWrite) (.cons .int (.cons (.lst ek_TSeg) (.cons .int (.cons .int (.cons .int (.cons .int (.cons (.lst ekI) .nil)))))))))) (.cons .int .nil)) (ekI.fflag _).lst ?_)
  refine rl.run 2 rfl (rl.done ?_)
  obtain ⟨y10, ey10, h7⟩ := bindS h5
  refine RW.cutq (σ := Int) (fun y5 => [(6, .int .i64 y5)]) (fun y5 => []) (fun y => y10 = y) (fun _ _ _ _ g h => RW.gh g h) ?_ ?_
  ·refine RW.blk ?_
   refine RW.iter (σ := Int × Int) ey10 (fun s4 => [(5, .ptr 0 0), (6, .int .i64 s4.1), (23, .lst false 1 (fl (encI false) v3) v3.length), (24, .int .i64 (v3.length : Int)), (25, .int .i64 s4.2)]) (fun s4 => [some ⟨[.int .i64 v2.No, .int .i64 v2.Gen, .int .i64 v2.End, .lst false 9 (fl (enc_TItem false) v2.Items) v2.Items.length], 0⟩]) (Gh.ren0 [1] (.cells rfl rfl (.keep .int (.keep .int (.keep .int (.keep (ek_TItem.rlst) .nil)))) .nil) rfl (.cons rfl (.ptr rfl) (.cons rfl (.dat .int) (.cons rfl (.dat (ekI.rlst)) (.cons rfl (.dat .int) (.cons rfl (.dat .int) .nil)))))) (fun s4 B o hS6 hB6 hE6 => ?_)
   unfold S_impl_LiveOf_1 at hS6
   refine RW.sreg ?_
   refine rl.gen rfl rfl fun b hb => ?_
   cases b
   ·have h8 := iteBF hS6 hb
    refine rl.done (RW.seq (RW.cond_f rfl (RW.exit (blkA_eq ?_))))
    cases h8
    exact ⟨_, (hE6 _ rfl).symm, (Gh.ren0 [] .nil rfl (.cons rfl (.dat .int) .nil))⟩
   ·have h9 := iteBT hS6 hb
    refine rl.done (RW.seq (RW.cond_t rfl (RW.skip (RW.seq (RW.blk (RW.sreg ?_))))))
    obtain ⟨v6, e6, h10⟩ := bindS h9
    refine rl.op (x_ia_lst (enc := encI) (o := false) rfl rfl rfl e6) ?_
    refine rl.op (x_ld_el (off' := 0) ekI rfl e6 rfl rfl rfl) ?_
    refine rl.run 1 rfl (rl.done (RW.sdrw (rdraw.op rfl rfl (rdraw.op rfl rfl (rdraw.op rfl rfl ?_)))))
    obtain ⟨v7, e7, h11⟩ := bindS h10
    refine rdraw.op rfl (x_ia_lst (enc := enc_TItem) (o := false) rfl rfl rfl e7) ?_
    refine rdraw.op rfl (x_ld_ela (off' := 0) (vs := (enc_TItem false v7)) ek_TItem rfl e7 rfl rfl rfl) ?_
    refine rdraw.op rfl rfl (rdraw.op rfl rfl ?_)
    obtain ⟨v8, e8, h12⟩ := bindS h11
    refine rdraw.call rfl rfl rfl (CallW.val (r' := .tup [.agg (enc_TFrame false v8.1), .bool v8.2]) ok_impl_ItemFrame (law_impl_ItemFrame e8) (.cons (.dat (.agg (ek_TItem.dat false _))) (.cons .int .nil)) (FlL.tup (.cons .refl (.cons .refl .nil))) ⟨rfl, ?_⟩)
    refine rdraw.op rfl rfl (rdraw.op rfl rfl (rdraw.op rfl rfl ?_))
    refine rdraw.chnB rfl rfl (.here (.rx rfl) (.here (.rx rfl) (.here (.rx rfl) (.here (.cl rfl rfl (CallW.val (r' := .tup [.agg (enc_TFrame false v8.1), .bool v8.2]) ok_impl_ItemFrame (law_impl_ItemFrame e8) (.cons (.dat (.agg (ek_TItem.dat false _))) (.cons .int .nil)) (FlL.tup (.cons .refl (.cons .refl .nil))) ⟨rfl, rfl⟩)) (.here (.rx rfl) (.here (.rx rfl) (.here (.rx (x_ld_ela (off' := 0) (vs := (enc_TItem false v7)) ek_TItem rfl e7 rfl rfl rfl)) (.here (.rx (x_ia_lst (enc := enc_TItem) (o := false) rfl rfl rfl e7)) (.here (.rx rfl) (.here (.rx rfl) (.here (.rx rfl) .nil))))))))))) ?_
    refine rdraw.chnB rfl rfl (.here (.rx rfl) (.skip rfl (.skip rfl (.skip rfl (.skip rfl (.skip rfl (.skip rfl (.skip rfl (.skip rfl (.skip rfl (.skip rfl .nil))))))))))) ?_
    refine rdraw.op rfl rfl (rdraw.done ?_)
    refine RW.keep [5, 6, 9, 23, 24, 25] (a' := [(5, .ptr 0 0), (6, .int .i64 s4.1), (9, .ptr 1 0), (23, .lst false 1 (fl (encI false) v3) v3.length), (24, .int .i64 (v3.length : Int)), (25, .int .i64 s4.2)]) (H' := [some ⟨[.int .i64 v2.No, .int .i64 v2.Gen, .int .i64 v2.End, .lst false 9 (fl (enc_TItem false) v2.Items) v2.Items.length], 0⟩, some ⟨[.int .i64 v8.1.Gen, .int .i64 v8.1.Seq, .str v8.1.Body], 0⟩]) rfl rfl ?_
    refine RW.reg (rl.run 2 rfl ?_)
    obtain ⟨v9, e9, h13⟩ := bindS h12
    refine rl.call rfl rfl rfl (CallW.val (r' := .int .i64 v9) ok_impl_FrameSize (law_impl_FrameSize e9) (.cons (DFL.agg (.cons .int (.cons .int (.cons .str .nil)))) .nil) .refl ?_)
    refine rl.run 2 rfl (rl.done (RW.reg (rl.run 2 rfl (rl.done ?_))))
    cases h13
    exact hB6 _ rfl _ _ (Gh.ren0 [0] (.cells rfl rfl (.keep .int (.keep .int (.keep .int (.keep (ek_TItem.rlst) .nil)))) .nil) rfl (.cons rfl (.ptr rfl) (.cons rfl (.dat .int) (.cons rfl (.dat (ekI.rlst)) (.cons rfl (.dat .int) (.cons rfl (.dat .int) .nil))))))
  ·intro y5 hC
   subst hC
   refine RW.sreg (rl.run 2 rfl (rl.done (RW.ret ?_)))
   cases h7
   exact RRet.mk rfl .int (by first | decide | simp)
theorem law_impl_LiveBytes {x0 : TStore} {r : Int} (hF : F_impl_LiveBytes x0 = some r) : PCalls Tryz.prog 9 [.agg (enc_TStore false x0)] (.int .i64 r) := by
 refine PCalls.of_r k_impl_LiveBytes rfl ?_
 unfold F_impl_LiveBytes at hF
 refine RW.sreg (rl.run 2 rfl (rl.done (RW.sreg (rl.run 1 rfl (rl.done (RW.seq (RW.sreg (rl.run 5 rfl (rl.done ?_)))))))))
 obtain ⟨y4, ey4, h2⟩ := bindS hF
 refine RW.cutq (σ := Int) (fun y2 => [(3, .int .i64 y2)]) (fun y2 => []) (fun y => y4 = y) (fun _ _ _ _ g h => RW.gh g h) ?_ ?_
 ·refine RW.blk ?_
  refine RW.iter (σ := Int × Int) ey4 (fun s1 => [(1, .ptr 0 0), (3, .int .i64 s1.1), (8, .int .i64 (x0.Log.Used.length : Int)), (9, .int .i64 s1.2)]) (fun s1 => [some ⟨[.lst false 1 (fl (encS false) x0.Log.Disk.Sectors) x0.Log.Disk.Sectors.length, .lst false 2 (fl (enc_TWrite false) x0.Log.Disk.Cache) x0.Log.Disk.Cache.length, .int .i64 x0.Log.Segs, .lst false 4 (fl (enc_TSeg false) x0.Log.Used) x0.Log.Used.length, .int .i64 x0.Log.NextGen, .int .i64 x0.Log.NextSeq, .int .i64 x0.Log.Stamp, .int .i64 x0.Log.NextValid, .lst false 1 (fl (encI false) x0.Freed) x0.Freed.length], 0⟩]) (Gh.ren0 [0] (.cells rfl rfl (.keep (ekS.rlst) (.keep (ek_TWrite.rlst) (.keep .int (.keep (ek_TSeg.rlst) (.keep .int (.keep .int (.keep .int (.keep .int (.keep (ekI.rlst) .nil))))))))) .nil) rfl (.cons rfl (.ptr rfl) (.cons rfl (.dat .int) (.cons rfl (.dat .int) (.cons rfl (.dat .int) .nil))))) (fun s1 B o hS1 hB1 hE1 => ?_)
  unfold S_impl_LiveBytes_1 at hS1
  refine RW.sreg ?_
  refine rl.gen rfl rfl fun b hb => ?_
  cases b
  ·have h3 := iteBF hS1 hb
   refine rl.done (RW.seq (RW.cond_f rfl (RW.exit (blkA_eq ?_))))
   cases h3
   exact ⟨_, (hE1 _ rfl).symm, (Gh.ren0 [] .nil rfl (.cons rfl (.dat .int) .nil))⟩
  ·have h4 := iteBT hS1 hb
   refine rl.done (RW.seq (RW.cond_t rfl (RW.skip (RW.seq (RW.blk (RW.sreg (rl.run 2 rfl (rl.done (RW.reg (rl.run 3 rfl ?_))))))))))
   obtain ⟨v3, e3, h5⟩ := bindS h4
   refine rl.call rfl rfl rfl (CallW.val (r' := .int .i64 v3) ok_impl_LiveOf (law_impl_LiveOf e3) (.cons (DFL.agg (.cons (.lst ekS) (.cons (.lst ek_TWrite) (.cons .int (.cons (.lst ek_TSeg) (.cons .int (.cons .int (.cons .int (.cons .int (.cons (.lst ekI) .nil)))))))))) (.cons .int .nil)) .refl ?_)
   refine rl.run 2 rfl (rl.done (RW.reg (rl.run 2 rfl (rl.done ?_))))
   cases h5
   exact hB1 _ rfl _ _ (Gh.ren0 [0] (.cells rfl rfl (.keep (ekS.rlst) (.keep (ek_TWrite.rlst) (.keep .int (.keep (ek_TSeg.rlst) (.keep .int (.keep .int (.keep .int (.keep .int (.keep (ekI.rlst) .nil))))))))) .nil) rfl (.cons rfl (.ptr rfl) (.cons rfl (.dat .int) (.cons rfl (.dat .int) (.cons rfl (.dat .int) .nil)))))
 ·intro y2 hC
  subst hC
  refine RW.sreg (rl.run 2 rfl (rl.done (RW.ret ?_)))
  cases h2
  exact RRet.mk rfl .int (by first | decide | simp)
theorem law_laws_FnExactLiveBytes {x0 : TStore} {r : Bool} (hF : F_laws_FnExactLiveBytes x0 = some r) : PCalls Tryz.prog 3 [.agg (enc_TStore false x0)] (.bool r) := by
 refine PCalls.of_r k_laws_FnExactLiveBytes rfl ?_
 unfold F_laws_FnExactLiveBytes at hF
 refine RW.sreg (rl.run 2 rfl (rl.done (RW.sreg (rl.run 1 rfl (rl.done (RW.sreg (rl.run 2 rfl ?_)))))))
 obtain ⟨v1, e1, h1⟩ := bindS hF
 refine rl.call rfl rfl rfl (CallW.val (r' := .int .i64 v1) ok_laws_szStore (law_laws_szStore e1) (.cons (DFL.agg (.cons (.lst ekS) (.cons (.lst ek_TWrite) (.cons .int (.cons (.lst ek_TSeg) (.cons .int (.cons .int (.cons .int (.cons .int (.cons (.lst ekI) .nil)))))))))) (.cons .int .nil)) .refl ?_)
 refine rl.run 1 rfl (rl.done (RW.seq (RW.sreg (rl.run 1 rfl ?_))))
 refine rl.gen rfl rfl fun b hb => ?_
 cases b
 ·have h2 := iteBF h1 hb
  refine rl.done (RW.cond_f rfl (RW.skip (RW.sreg (rl.run 1 rfl ?_))))
  obtain ⟨v2, e2, h3⟩ := bindS h2
  refine rl.call rfl rfl rfl (CallW.val (r' := .agg (enc_TStore false v2)) ok_laws_toStore (law_laws_toStore e2) (.cons (DFL.agg (.cons (.lst ekS) (.cons (.lst ek_TWrite) (.cons .int (.cons (.lst ek_TSeg) (.cons .int (.cons .int (.cons .int (.cons .int (.cons (.lst ekI) .nil)))))))))) .nil) (ek_TStore.flag _).agg ?_)
  obtain ⟨v3, e3, h4⟩ := bindS h3
  refine rl.call rfl rfl rfl (CallW.val (r' := .int .i64 v3) ok_spec_LiveBytes (law_spec_LiveBytes e3) (.cons (.dat (.agg (ek_TStore.dat false _))) .nil) .refl ?_)
  refine rl.run 1 rfl (rl.done ?_)
  refine RW.keep [1, 4] (a' := [(1, .ptr 0 0), (4, .int .i64 v3)]) (H' := [some ⟨[.lst false 1 (fl (encS false) x0.Log.Disk.Sectors) x0.Log.Disk.Sectors.length, .lst false 2 (fl (enc_TWrite false) x0.Log.Disk.Cache) x0.Log.Disk.Cache.length, .int .i64 x0.Log.Segs, .lst false 4 (fl (enc_TSeg false) x0.Log.Used) x0.Log.Used.length, .int .i64 x0.Log.NextGen, .int .i64 x0.Log.NextSeq, .int .i64 x0.Log.Stamp, .int .i64 x0.Log.NextValid, .lst false 1 (fl (encI false) x0.Freed) x0.Freed.length], 0⟩]) rfl rfl ?_
  refine RW.sreg (rl.run 1 rfl ?_)
  obtain ⟨v4, e4, h5⟩ := bindS h4
  refine rl.call rfl rfl rfl (CallW.val (r' := .agg (enc_TStore false v4)) ok_laws_toStore (law_laws_toStore e4) (.cons (DFL.agg (.cons (.lst ekS) (.cons (.lst ek_TWrite) (.cons .int (.cons (.lst ek_TSeg) (.cons .int (.cons .int (.cons .int (.cons .int (.cons (.lst ekI) .nil)))))))))) .nil) (ek_TStore.flag _).agg ?_)
  refine rl.run 2 rfl (rl.done (RW.sreg (rl.run 1 rfl ?_)))
  obtain ⟨v5, e5, h6⟩ := bindS h5
  refine rl.call rfl rfl rfl (CallW.val (r' := .int .i64 v5) ok_impl_LiveBytes (law_impl_LiveBytes e5) (.cons (DFL.agg (.cons (.lst ekS) (.cons (.lst ek_TWrite) (.cons .int (.cons (.lst ek_TSeg) (.cons .int (.cons .int (.cons .int (.cons .int (.cons (.lst ekI) .nil)))))))))) .nil) .refl ?_)
  refine rl.run 1 rfl (rl.done (RW.seq (RW.sreg (rl.run 2 rfl ?_))))
  refine rl.gen rfl rfl fun b hb => ?_
  cases b
  ·have h7 := iteBF h6 hb
   refine rl.done (RW.cond_f rfl (RW.skip (RW.seq (RW.sdrw (rdraw.op rfl rfl (rdraw.op rfl rfl ?_))))))
   obtain ⟨v6, e6, h8⟩ := bindS h7
   refine rdraw.call rfl rfl rfl (CallW.val (r' := .agg (enc_TStore false v6)) ok_laws_toStore (law_laws_toStore e6) (.cons (DFL.agg (.cons (.lst ekS) (.cons (.lst ek_TWrite) (.cons .int (.cons (.lst ek_TSeg) (.cons .int (.cons .int (.cons .int (.cons .int (.cons (.lst ekI) .nil)))))))))) .nil) (ek_TStore.flag _).agg ⟨rfl, ?_⟩)
   obtain ⟨v7, e7, h9⟩ := bindS h8
   refine rdraw.call rfl rfl rfl (CallW.val (r' := .bool v7) ok_laws_eqStore (law_laws_eqStore e7) (.cons (DFL.agg (.cons (.lst ekS) (.cons (.lst ek_TWrite) (.cons .int (.cons (.lst ek_TSeg) (.cons .int (.cons .int (.cons .int (.cons .int (.cons (.lst ekI) .nil)))))))))) (.cons (.dat (.agg (ek_TStore.dat false _))) .nil)) .refl ⟨rfl, ?_⟩)
   cases hb : v7
   ·have h10 := iteBF h9 hb
    refine rdraw.op rfl rfl (rdraw.done ?_)
    refine RW.keep [26] (a' := [(26, .bool true)]) (H' := [some ⟨[.lst false 1 (fl (encS false) x0.Log.Disk.Sectors) x0.Log.Disk.Sectors.length, .lst false 2 (fl (enc_TWrite false) x0.Log.Disk.Cache) x0.Log.Disk.Cache.length, .int .i64 x0.Log.Segs, .lst false 4 (fl (enc_TSeg false) x0.Log.Used) x0.Log.Used.length, .int .i64 x0.Log.NextGen, .int .i64 x0.Log.NextSeq, .int .i64 x0.Log.Stamp, .int .i64 x0.Log.NextValid, .lst false 1 (fl (encI false) x0.Freed) x0.Freed.length], 0⟩, some ⟨[.lst false 1 (fl (encS false) v4.Log.Disk.Sectors) v4.Log.Disk.Sectors.length, .lst false 2 (fl (enc_TWrite false) v4.Log.Disk.Cache) v4.Log.Disk.Cache.length, .int .i64 v4.Log.Segs, .lst false 4 (fl (enc_TSeg false) v4.Log.Used) v4.Log.Used.length, .int .i64 v4.Log.NextGen, .int .i64 v4.Log.NextSeq, .int .i64 v4.Log.Stamp, .int .i64 v4.Log.NextValid, .lst false 1 (fl (encI false) v4.Freed) v4.Freed.length], 0⟩]) rfl rfl ?_
    refine RW.cond_t rfl (RW.sreg (rl.run 1 rfl (rl.done (RW.ret ?_))))
    cases h10
    exact RRet.mk rfl .bool (by first | decide | simp)
   ·have h11 := iteBT h9 hb
    refine rdraw.op rfl rfl (rdraw.done ?_)
    refine RW.keep [26] (a' := [(26, .bool false)]) (H' := [some ⟨[.lst false 1 (fl (encS false) x0.Log.Disk.Sectors) x0.Log.Disk.Sectors.length, .lst false 2 (fl (enc_TWrite false) x0.Log.Disk.Cache) x0.Log.Disk.Cache.length, .int .i64 x0.Log.Segs, .lst false 4 (fl (enc_TSeg false) x0.Log.Used) x0.Log.Used.length, .int .i64 x0.Log.NextGen, .int .i64 x0.Log.NextSeq, .int .i64 x0.Log.Stamp, .int .i64 x0.Log.NextValid, .lst false 1 (fl (encI false) x0.Freed) x0.Freed.length], 0⟩, some ⟨[.lst false 1 (fl (encS false) v4.Log.Disk.Sectors) v4.Log.Disk.Sectors.length, .lst false 2 (fl (enc_TWrite false) v4.Log.Disk.Cache) v4.Log.Disk.Cache.length, .int .i64 v4.Log.Segs, .lst false 4 (fl (enc_TSeg false) v4.Log.Used) v4.Log.Used.length, .int .i64 v4.Log.NextGen, .int .i64 v4.Log.NextSeq, .int .i64 v4.Log.Stamp, .int .i64 v4.Log.NextValid, .lst false 1 (fl (encI false) v4.Freed) v4.Freed.length], 0⟩]) rfl rfl ?_
    refine RW.cond_f rfl (RW.skip (RW.sreg (rl.run 1 rfl (rl.done (RW.ret ?_)))))
    cases h11
    exact RRet.mk rfl .bool (by first | decide | simp)
  ·have h12 := iteBT h6 hb
   refine rl.done (RW.cond_t rfl (RW.sreg (rl.run 1 rfl (rl.done ?_))))
   refine RW.keep [2] (a' := [(2, .bool false)]) (H' := [some ⟨[.lst false 1 (fl (encS false) x0.Log.Disk.Sectors) x0.Log.Disk.Sectors.length, .lst false 2 (fl (enc_TWrite false) x0.Log.Disk.Cache) x0.Log.Disk.Cache.length, .int .i64 x0.Log.Segs, .lst false 4 (fl (enc_TSeg false) x0.Log.Used) x0.Log.Used.length, .int .i64 x0.Log.NextGen, .int .i64 x0.Log.NextSeq, .int .i64 x0.Log.Stamp, .int .i64 x0.Log.NextValid, .lst false 1 (fl (encI false) x0.Freed) x0.Freed.length], 0⟩, some ⟨[.lst false 1 (fl (encS false) v4.Log.Disk.Sectors) v4.Log.Disk.Sectors.length, .lst false 2 (fl (enc_TWrite false) v4.Log.Disk.Cache) v4.Log.Disk.Cache.length, .int .i64 v4.Log.Segs, .lst false 4 (fl (enc_TSeg false) v4.Log.Used) v4.Log.Used.length, .int .i64 v4.Log.NextGen, .int .i64 v4.Log.NextSeq, .int .i64 v4.Log.Stamp, .int .i64 v4.Log.NextValid, .lst false 1 (fl (encI false) v4.Freed) v4.Freed.length], 0⟩]) rfl rfl ?_
   refine RW.ret ?_
   cases h12
   exact RRet.mk rfl .bool (by first | decide | simp)
 ·have h13 := iteBT h1 hb
  refine rl.done (RW.cond_t rfl (RW.sreg (rl.run 1 rfl (rl.done (RW.ret ?_)))))
  cases h13
  exact RRet.mk rfl .bool (by first | decide | simp)
end Go.Proofs.YtgdcbjoaoagbpaaGreat.V
