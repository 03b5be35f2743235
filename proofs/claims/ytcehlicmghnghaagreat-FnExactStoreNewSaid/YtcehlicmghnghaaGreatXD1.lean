/- What a call comes to. -/
import Derived.Test.YtcehlicmghnghaaGreatXD0
namespace Go.Proofs.YtcehlicmghnghaaGreat.V
open Go Go.Proofs Go.RowKit
set_option maxRecDepth 100000
theorem law_slices_ContainsFunc_Write_DiskOk_2 {x0 : List TWrite} {x1 : TDisk} {r : Bool} (hF : F_slices_ContainsFunc_Write_DiskOk_2 x0 x1 = some r) : ACalls Tryz.prog 1 142 [.lst false 2 (fl (enc_TWrite false) x0) x0.length, .fn 143 [.ptr 0 0]] [some ⟨[.lst false 1 (fl (encS false) x1.Sectors) x1.Sectors.length, .lst false 2 (fl (enc_TWrite false) x1.Cache) x1.Cache.length], 0⟩] (.bool r) [some ⟨[.lst false 1 (fl (encS false) x1.Sectors) x1.Sectors.length, .lst false 2 (fl (enc_TWrite false) x1.Cache) x1.Cache.length], 0⟩] := by
 refine ACalls.of_s k_slices_ContainsFunc_Write rfl ?_
 unfold F_slices_ContainsFunc_Write_DiskOk_2 at hF
 refine RW.sreg (rl.run 1 rfl (rl.done (RW.sreg (rl.run 2 rfl ?_))))
 obtain ⟨v1, e1, h1⟩ := bindS hF
 refine rl.call rfl rfl rfl (CallW.embR [0] ok_slices_IndexFunc_Write (law_slices_IndexFunc_Write_DiskOk_2 e1) (.cells rfl rfl (.keep (ekS.rlst) (.keep (ek_TWrite.rlst) .nil)) .nil) rfl rfl (.cons (.dat (ek_TWrite.rlst)) (.cons (RnL.fn (.cons (.ptr rfl) .nil)) .nil)) .int ?_)
 refine rl.run 2 rfl (rl.done (RW.ret ?_))
 cases h1
 exact RRetS.mk rfl .bool (Gh.renN [0] (.cells rfl rfl (.keep (ekS.rlst) (.keep (ek_TWrite.rlst) .nil)) .nil) rfl rfl rfl .nil)
theorem law_impl_DiskOk {x0 : TDisk} {r : Bool} (hF : F_impl_DiskOk x0 = some r) : PCalls Tryz.prog 78 [.agg (enc_TDisk false x0)] (.bool r) := by
 refine PCalls.of_r k_impl_DiskOk rfl ?_
 unfold F_impl_DiskOk at hF
 refine RW.sreg (rl.run 2 rfl (rl.done (RW.seq (RW.seq ?_))))
 obtain ⟨y1, ey1, h1⟩ := bindS hF
 refine RW.cutq (σ := Bool) (fun y1 => [(1, .ptr 0 0), (13, .bool y1)]) (fun y1 => [some ⟨[.lst false 1 (fl (encS false) x0.Sectors) x0.Sectors.length, .lst false 2 (fl (enc_TWrite false) x0.Cache) x0.Cache.length], 0⟩]) (fun y => y1 = y) (fun _ _ _ _ g h => RW.gh g h) ?_ ?_
 ·refine RW.reg ?_
  refine rl.run 3 rfl ?_
  obtain ⟨v2, e2, h2⟩ := bindS ey1
  refine rl.call rfl rfl rfl (CallW.val (r' := .bool v2) ok_impl_in (law_impl_in e2) (.cons .int (.cons .int (.cons .int .nil))) .refl ?_)
  cases hb : v2
  ·have h3 := iteBF h2 hb
   refine rl.run 7 rfl (rl.done ?_)
   cases h3
   exact ⟨_, rfl, (Gh.ren0 [0] (.cells rfl rfl (.keep (ekS.rlst) (.keep (ek_TWrite.rlst) .nil)) .nil) rfl (.cons rfl (.ptr rfl) (.cons rfl (.dat .bool) .nil)))⟩
  ·have h4 := iteBT h2 hb
   refine rl.run 5 rfl ?_
   refine rl.gen rfl rfl fun b hb => ?_
   cases b
   ·have h5 := iteBF h4 hb
    refine rl.run 1 rfl (rl.done ?_)
    cases h5
    exact ⟨_, rfl, (Gh.ren0 [0] (.cells rfl rfl (.keep (ekS.rlst) (.keep (ek_TWrite.rlst) .nil)) .nil) rfl (.cons rfl (.ptr rfl) (.cons rfl (.dat .bool) .nil)))⟩
   ·have h6 := iteBT h4 hb
    refine rl.run 1 rfl (rl.done ?_)
    cases h6
    exact ⟨_, rfl, (Gh.ren0 [0] (.cells rfl rfl (.keep (ekS.rlst) (.keep (ek_TWrite.rlst) .nil)) .nil) rfl (.cons rfl (.ptr rfl) (.cons rfl (.dat .bool) .nil)))⟩
 ·intro y hC
  subst hC
  cases hb : y1
  ·have h7 := iteBF h1 hb
   refine RW.cond_f rfl (RW.skip (RW.seq (RW.sreg (rl.run 2 rfl ?_))))
   obtain ⟨v3, e3, h8⟩ := bindS h7
   refine rl.call rfl rfl rfl (CallW.val (r' := .bool v3) ok_slices_ContainsFunc_string (law_slices_ContainsFunc_string_DiskOk_1 e3) (.cons (.lst ekS) (.cons .fn .nil)) .refl ?_)
   cases hb : v3
   ·have h9 := iteBF h8 hb
    refine rl.done (RW.cond_f rfl (RW.skip (RW.sreg (rl.run 3 rfl ?_))))
    obtain ⟨v4, e4, h10⟩ := bindS h9
    refine rl.call rfl rfl rfl (CallW.embR [0] ok_slices_ContainsFunc_Write (law_slices_ContainsFunc_Write_DiskOk_2 e4) (.cells rfl rfl (.keep (ekS.rlst) (.keep (ek_TWrite.rlst) .nil)) .nil) rfl rfl (.cons (.dat (ek_TWrite.rlst)) (.cons (RnL.fn (.cons (.ptr rfl) .nil)) .nil)) .bool ?_)
    refine rl.run 2 rfl (rl.done (RW.ret ?_))
    cases h10
    exact RRet.mk rfl .bool (by first | decide | simp)
   ·have h11 := iteBT h8 hb
    refine rl.done (RW.cond_t rfl (RW.sreg (rl.run 1 rfl (rl.done (RW.ret ?_)))))
    cases h11
    exact RRet.mk rfl .bool (by first | decide | simp)
  ·have h12 := iteBT h1 hb
   refine RW.cond_t rfl (RW.sreg (rl.run 1 rfl (rl.done (RW.ret ?_))))
   cases h12
   exact RRet.mk rfl .bool (by first | decide | simp)
theorem law_impl_WriteSector {x0 : TDisk} {x1 : Int} {x2 : List UInt8} {r : TDisk × Bool} (hF : F_impl_WriteSector x0 x1 x2 = some r) : PCalls Tryz.prog 147 [.agg (enc_TDisk false x0), .int .i64 x1, .str x2] (.tup [.agg (enc_TDisk true r.1), .bool r.2]) := by
 refine PCalls.of_r k_impl_WriteSector rfl ?_
 unfold F_impl_WriteSector at hF
 refine RW.sreg (rl.run 3 rfl (rl.done (RW.sreg (rl.run 1 rfl ?_))))
 obtain ⟨v1, e1, h1⟩ := bindS hF
 refine rl.call rfl rfl rfl (CallW.own (r' := .agg [.sl 2 0 v1.Sectors.length, .sl 3 0 v1.Cache.length]) (H' := [some ⟨[.lst false 1 (fl (encS false) x0.Sectors) x0.Sectors.length, .lst false 2 (fl (enc_TWrite false) x0.Cache) x0.Cache.length], 0⟩, some ⟨[.nils, .nils], 0⟩, some ⟨fl (encS true) v1.Sectors, 1⟩, some ⟨fl (enc_TWrite true) v1.Cache, 2⟩]) ok_impl_cloneDisk (law_impl_cloneDisk e1) (.cons (DFL.agg (.cons (.lst ekS) (.cons (.lst ek_TWrite) .nil))) .nil) (ek_TDisk.own _) rfl ?_)
 refine rl.run 2 rfl (rl.done (RW.sreg (rl.run 6 rfl ?_)))
 obtain ⟨v2, e2, h2⟩ := bindS h1
 refine rl.op (x_app rfl rfl (rapp_sl (l := v1.Cache) (m := [({ At := x1, Text := x2 } : TWrite)]) (o := true) ek_TWrite rfl rfl (acont_slq (m := [({ At := x1, Text := x2 } : TWrite)]) (o := true) fk_TWrite rfl rfl) rfl (fk_TWrite.fst _ _) e2)) ?_
 refine rl.run 2 rfl (rl.done ?_)
 refine RW.keep [3, 6, 8] (a' := [(3, .ptr 0 0), (6, .ptr 1 0), (8, .ptr 4 0)]) (H' := [some ⟨[.lst false 1 (fl (encS false) x0.Sectors) x0.Sectors.length, .lst false 2 (fl (enc_TWrite false) x0.Cache) x0.Cache.length], 0⟩, some ⟨[.nils, .nils], 0⟩, some ⟨fl (encS true) v1.Sectors, 1⟩, none, some ⟨[.sl 2 0 v1.Sectors.length, .sl 6 0 v2.length], 0⟩, some ⟨fl (enc_TWrite true) [({ At := x1, Text := x2 } : TWrite)], 2⟩, some ⟨fl (enc_TWrite true) v2, 2⟩]) rfl rfl ?_
 refine RW.seq (RW.seq ?_)
 obtain ⟨y3, ey3, h3⟩ := bindS h2
 refine RW.cutq (σ := Bool) (fun y3 => [(3, .ptr 0 0), (6, .ptr 1 0), (8, .ptr 2 0), (26, .bool y3)]) (fun y3 => [some ⟨[.lst false 1 (fl (encS false) x0.Sectors) x0.Sectors.length, .lst false 2 (fl (enc_TWrite false) x0.Cache) x0.Cache.length], 0⟩, some ⟨[.nils, .nils], 0⟩, some ⟨[.sl 3 0 v1.Sectors.length, .sl 4 0 v2.length], 0⟩, some ⟨fl (encS true) v1.Sectors, 1⟩, some ⟨fl (enc_TWrite true) v2, 2⟩]) (fun y => y3 = y) (fun _ _ _ _ g h => RW.gh g h) ?_ ?_
 ·refine RW.reg ?_
  refine rl.run 1 rfl ?_
  obtain ⟨v4, e4, h4⟩ := bindS ey3
  refine rl.call rfl rfl rfl (CallW.val (r' := .bool v4) ok_impl_DiskOk (law_impl_DiskOk e4) (.cons (DFL.agg (.cons (.lst ekS) (.cons (.lst ek_TWrite) .nil))) .nil) .refl ?_)
  cases hb : v4
  ·have h5 := iteBF h4 hb
   refine rl.run 6 rfl (rl.done ?_)
   cases h5
   exact ⟨_, rfl, (Gh.ren0 [0, 1, 4, 2, 6] (.cells rfl rfl (.keep (ekS.rlst) (.keep (ek_TWrite.rlst) .nil)) (.cells rfl rfl (.keep .nils (.keep .nils .nil)) (.cells rfl rfl (.slq rfl rfl (.slq rfl rfl .nil)) (.same rfl (ekS.fref _ _) (.same rfl (ek_TWrite.fref _ _) .nil))))) rfl (.cons rfl (.ptr rfl) (.cons rfl (.ptr rfl) (.cons rfl (.ptr rfl) (.cons rfl (.dat .bool) .nil)))))⟩
  ·have h6 := iteBT h4 hb
   refine rl.run 3 rfl ?_
   obtain ⟨v5, e5, h7⟩ := bindS h6
   refine rl.call rfl rfl rfl (CallW.val (r' := .bool v5) ok_impl_DiskOk (law_impl_DiskOk e5) (.cons (DFL.agg (.cons (.slq ekS rfl rfl) (.cons (.slq ek_TWrite rfl rfl) .nil))) .nil) .refl ?_)
   cases hb : v5
   ·have h8 := iteBF h7 hb
    refine rl.run 2 rfl (rl.done ?_)
    cases h8
    exact ⟨_, rfl, (Gh.ren0 [0, 1, 4, 2, 6] (.cells rfl rfl (.keep (ekS.rlst) (.keep (ek_TWrite.rlst) .nil)) (.cells rfl rfl (.keep .nils (.keep .nils .nil)) (.cells rfl rfl (.slq rfl rfl (.slq rfl rfl .nil)) (.same rfl (ekS.fref _ _) (.same rfl (ek_TWrite.fref _ _) .nil))))) rfl (.cons rfl (.ptr rfl) (.cons rfl (.ptr rfl) (.cons rfl (.ptr rfl) (.cons rfl (.dat .bool) .nil)))))⟩
   ·have h9 := iteBT h7 hb
    refine rl.run 2 rfl (rl.done ?_)
    cases h9
    exact ⟨_, rfl, (Gh.ren0 [0, 1, 4, 2, 6] (.cells rfl rfl (.keep (ekS.rlst) (.keep (ek_TWrite.rlst) .nil)) (.cells rfl rfl (.keep .nils (.keep .nils .nil)) (.cells rfl rfl (.slq rfl rfl (.slq rfl rfl .nil)) (.same rfl (ekS.fref _ _) (.same rfl (ek_TWrite.fref _ _) .nil))))) rfl (.cons rfl (.ptr rfl) (.cons rfl (.ptr rfl) (.cons rfl (.ptr rfl) (.cons rfl (.dat .bool) .nil)))))⟩
 ·intro y hC
  subst hC
  cases hb : y3
  ·have h10 := iteBF h3 hb
   refine RW.cond_f rfl (RW.skip (RW.sreg (rl.run 3 rfl (rl.done (RW.ret ?_)))))
   cases h10
   exact RRet.mk rfl (OutT.tup (.cons (OutL.agg (.cons (OutR.ownq ekS rfl rfl) rfl (.cons (OutR.ownq ek_TWrite rfl rfl) rfl .nil))) (.cons .bool .nil))) (by first | decide | simp)
  ·have h11 := iteBT h3 hb
   refine RW.cond_t rfl (RW.sreg (rl.run 1 rfl ?_))
   obtain ⟨v6, e6, h12⟩ := bindS h11
   refine rl.call rfl rfl rfl (CallW.own (r' := .agg [.sl 5 0 v6.Sectors.length, .sl 6 0 v6.Cache.length]) (H' := [some ⟨[.lst false 1 (fl (encS false) x0.Sectors) x0.Sectors.length, .lst false 2 (fl (enc_TWrite false) x0.Cache) x0.Cache.length], 0⟩, some ⟨[.nils, .nils], 0⟩, some ⟨[.sl 3 0 v1.Sectors.length, .sl 4 0 v2.length], 0⟩, some ⟨fl (encS true) v1.Sectors, 1⟩, some ⟨fl (enc_TWrite true) v2, 2⟩, some ⟨fl (encS true) v6.Sectors, 1⟩, some ⟨fl (enc_TWrite true) v6.Cache, 2⟩]) ok_impl_cloneDisk (law_impl_cloneDisk e6) (.cons (DFL.agg (.cons (.lst ekS) (.cons (.lst ek_TWrite) .nil))) .nil) (ek_TDisk.own _) rfl ?_)
   refine rl.run 2 rfl (rl.done (RW.ret ?_))
   cases h12
   exact RRet.mk rfl (OutT.tup (.cons (OutL.agg (.cons (OutR.ownq ekS rfl rfl) rfl (.cons (OutR.ownq ek_TWrite rfl rfl) rfl .nil))) (.cons .bool .nil))) (by first | decide | simp)
set_option maxHeartbeats 2000000 in
theorem law_impl_WriteBytes {x0 : TDisk} {x1 : Int} {x2 : Int} {x3 : List UInt8} {r : TDisk × Bool} (hF : F_impl_WriteBytes x0 x1 x2 x3 = some r) : PCalls Tryz.prog 80 [.agg (enc_TDisk false x0), .int .i64 x1, .int .i64 x2, .str x3] (.tup [.agg (enc_TDisk true r.1), .bool r.2]) := by
 refine PCalls.of_r k_impl_WriteBytes rfl ?_
 unfold F_impl_WriteBytes at hF
 refine RW.sreg (rl.run 3 rfl (rl.done (RW.sreg (rl.run 1 rfl ?_))))
 obtain ⟨v1, e1, h1⟩ := bindS hF
 refine rl.call rfl rfl rfl (CallW.own (r' := .agg [.sl 2 0 v1.Sectors.length, .sl 3 0 v1.Cache.length]) (H' := [some ⟨[.lst false 1 (fl (encS false) x0.Sectors) x0.Sectors.length, .lst false 2 (fl (enc_TWrite false) x0.Cache) x0.Cache.length], 0⟩, some ⟨[.nils, .nils], 0⟩, some ⟨fl (encS true) v1.Sectors, 1⟩, some ⟨fl (enc_TWrite true) v1.Cache, 2⟩]) ok_impl_cloneDisk (law_impl_cloneDisk e1) (.cons (DFL.agg (.cons (.lst ekS) (.cons (.lst ek_TWrite) .nil))) .nil) (ek_TDisk.own _) rfl ?_)
 refine rl.run 2 rfl (rl.done (RW.seq (RW.seq ?_)))
 obtain ⟨y2, ey2, h2⟩ := bindS h1
 refine RW.cutq (σ := Bool) (fun y2 => [(1, .int .i64 x1), (2, .int .i64 x2), (3, .str x3), (4, .ptr 0 0), (8, .ptr 1 0), (10, .ptr 2 0), (30, .bool y2)]) (fun y2 => [some ⟨[.lst false 1 (fl (encS false) x0.Sectors) x0.Sectors.length, .lst false 2 (fl (enc_TWrite false) x0.Cache) x0.Cache.length], 0⟩, some ⟨[.nils, .nils], 0⟩, some ⟨[.sl 3 0 v1.Sectors.length, .sl 4 0 v1.Cache.length], 0⟩, some ⟨fl (encS true) v1.Sectors, 1⟩, some ⟨fl (enc_TWrite true) v1.Cache, 2⟩]) (fun y => y2 = y) (fun _ _ _ _ g h => RW.gh g h) ?_ ?_
 ·refine RW.reg ?_
  refine rl.run 1 rfl ?_
  obtain ⟨v3, e3, h3⟩ := bindS ey2
  refine rl.call rfl rfl rfl (CallW.val (r' := .bool v3) ok_impl_in (law_impl_in e3) (.cons .int (.cons .int (.cons .int .nil))) .refl ?_)
  cases hb : v3
  ·have h4 := iteBF h3 hb
   refine rl.run 10 rfl (rl.done ?_)
   cases h4
   exact ⟨_, rfl, (Gh.ren0 [0, 1, 4, 2, 3] (.cells rfl rfl (.keep (ekS.rlst) (.keep (ek_TWrite.rlst) .nil)) (.cells rfl rfl (.keep .nils (.keep .nils .nil)) (.cells rfl rfl (.slq rfl rfl (.slq rfl rfl .nil)) (.same rfl (ekS.fref _ _) (.same rfl (ek_TWrite.fref _ _) .nil))))) rfl (.cons rfl (.dat .int) (.cons rfl (.dat .int) (.cons rfl (.dat .str) (.cons rfl (.ptr rfl) (.cons rfl (.ptr rfl) (.cons rfl (.ptr rfl) (.cons rfl (.dat .bool) .nil))))))))⟩
  ·have h5 := iteBT h3 hb
   refine rl.run 7 rfl ?_
   obtain ⟨v4, e4, h6⟩ := bindS h5
   refine rl.call rfl rfl rfl (CallW.val (r' := .bool v4) ok_impl_in (law_impl_in e4) (.cons .int (.cons .int (.cons .int .nil))) .refl ?_)
   cases hb : v4
   ·have h7 := iteBF h6 hb
    refine rl.run 2 rfl (rl.done ?_)
    cases h7
    exact ⟨_, rfl, (Gh.ren0 [0, 1, 4, 2, 3] (.cells rfl rfl (.keep (ekS.rlst) (.keep (ek_TWrite.rlst) .nil)) (.cells rfl rfl (.keep .nils (.keep .nils .nil)) (.cells rfl rfl (.slq rfl rfl (.slq rfl rfl .nil)) (.same rfl (ekS.fref _ _) (.same rfl (ek_TWrite.fref _ _) .nil))))) rfl (.cons rfl (.dat .int) (.cons rfl (.dat .int) (.cons rfl (.dat .str) (.cons rfl (.ptr rfl) (.cons rfl (.ptr rfl) (.cons rfl (.ptr rfl) (.cons rfl (.dat .bool) .nil))))))))⟩
   ·have h8 := iteBT h6 hb
    refine rl.run 2 rfl (rl.done ?_)
    cases h8
    exact ⟨_, rfl, (Gh.ren0 [0, 1, 4, 2, 3] (.cells rfl rfl (.keep (ekS.rlst) (.keep (ek_TWrite.rlst) .nil)) (.cells rfl rfl (.keep .nils (.keep .nils .nil)) (.cells rfl rfl (.slq rfl rfl (.slq rfl rfl .nil)) (.same rfl (ekS.fref _ _) (.same rfl (ek_TWrite.fref _ _) .nil))))) rfl (.cons rfl (.dat .int) (.cons rfl (.dat .int) (.cons rfl (.dat .str) (.cons rfl (.ptr rfl) (.cons rfl (.ptr rfl) (.cons rfl (.ptr rfl) (.cons rfl (.dat .bool) .nil))))))))⟩
 ·intro y hC
  subst hC
  cases hb : y2
  ·have h9 := iteBF h2 hb
   refine RW.cond_f rfl (RW.skip (RW.sreg (rl.run 1 rfl ?_)))
   obtain ⟨v5, e5, h10⟩ := bindS h9
   refine rl.call rfl rfl rfl (CallW.own (r' := .agg [.sl 5 0 v5.Sectors.length, .sl 6 0 v5.Cache.length]) (H' := [some ⟨[.lst false 1 (fl (encS false) x0.Sectors) x0.Sectors.length, .lst false 2 (fl (enc_TWrite false) x0.Cache) x0.Cache.length], 0⟩, some ⟨[.nils, .nils], 0⟩, some ⟨[.sl 3 0 v1.Sectors.length, .sl 4 0 v1.Cache.length], 0⟩, some ⟨fl (encS true) v1.Sectors, 1⟩, some ⟨fl (enc_TWrite true) v1.Cache, 2⟩, some ⟨fl (encS true) v5.Sectors, 1⟩, some ⟨fl (enc_TWrite true) v5.Cache, 2⟩]) ok_impl_cloneDisk (law_impl_cloneDisk e5) (.cons (DFL.agg (.cons (.lst ekS) (.cons (.lst ek_TWrite) .nil))) .nil) (ek_TDisk.own _) rfl ?_)
   refine rl.run 2 rfl (rl.done (RW.seq ?_))
   obtain ⟨y17, ey17, h12⟩ := bindS h10
   refine RW.cutq (σ := (List (List UInt8)) × (List TWrite)) (fun y7 => [(8, .ptr 0 0), (11, .ptr 1 0)]) (fun y7 => [some ⟨[.nils, .nils], 0⟩, some ⟨[.sl 2 0 y7.1.length, .sl 3 0 y7.2.length], 0⟩, some ⟨fl (encS true) y7.1, 1⟩, some ⟨fl (enc_TWrite true) y7.2, 2⟩]) (fun y => y17 = .inr y) (fun _ _ _ _ g h => RW.gh g h) ?_ ?_
   ·refine RW.blk ?_
    refine RW.iter (σ := Int × (List UInt8) × (List (List UInt8)) × (List TWrite)) ey17 (fun s6 => [(1, .int .i64 x1), (2, .int .i64 s6.1), (3, .str s6.2.1), (8, .ptr 0 0), (10, .ptr 1 0), (11, .ptr 2 0)]) (fun s6 => [some ⟨[.nils, .nils], 0⟩, some ⟨[.sl 3 0 v1.Sectors.length, .sl 4 0 v1.Cache.length], 0⟩, some ⟨[.sl 5 0 s6.2.2.1.length, .sl 6 0 s6.2.2.2.length], 0⟩, some ⟨fl (encS true) v1.Sectors, 1⟩, some ⟨fl (enc_TWrite true) v1.Cache, 2⟩, some ⟨fl (encS true) s6.2.2.1, 1⟩, some ⟨fl (enc_TWrite true) s6.2.2.2, 2⟩]) (Gh.ren0 [1, 2, 7, 3, 4, 5, 6] (.cells rfl rfl (.keep .nils (.keep .nils .nil)) (.cells rfl rfl (.slq rfl rfl (.slq rfl rfl .nil)) (.cells rfl rfl (.slq rfl rfl (.slq rfl rfl .nil)) (.same rfl (ekS.fref _ _) (.same rfl (ek_TWrite.fref _ _) (.same rfl (ekS.fref _ _) (.same rfl (ek_TWrite.fref _ _) .nil))))))) rfl (.cons rfl (.dat .int) (.cons rfl (.dat .int) (.cons rfl (.dat .str) (.cons rfl (.ptr rfl) (.cons rfl (.ptr rfl) (.cons rfl (.ptr rfl) .nil))))))) (fun s6 B o hS11 hB11 hE11 => ?_)
    unfold S_impl_WriteBytes_1 at hS11
    refine RW.seq (RW.sreg (rl.run 1 rfl ?_))
    refine rl.gen rfl rfl fun b hb => ?_
    cases b
    ·have h13 := iteBF hS11 hb
     refine rl.done (RW.cond_f rfl (RW.exit (blkA_eq ?_)))
     cases h13
     exact ⟨_, (hE11 _ rfl).symm, (Gh.ren0 [0, 2, 5, 6] (.cells rfl rfl (.keep .nils (.keep .nils .nil)) (.cells rfl rfl (.slq rfl rfl (.slq rfl rfl .nil)) (.same rfl (ekS.fref _ _) (.same rfl (ek_TWrite.fref _ _) .nil)))) rfl (.cons rfl (.ptr rfl) (.cons rfl (.ptr rfl) .nil)))⟩
    ·have h14 := iteBT hS11 hb
     refine rl.done (RW.cond_t rfl (RW.skip (RW.blk (RW.sreg (rl.run 5 rfl (rl.done (RW.sreg (rl.run 3 rfl (rl.done (RW.sreg (rl.run 2 rfl ?_)))))))))))
     obtain ⟨v8, e8, h15⟩ := bindS h14
     refine rl.call rfl rfl rfl (CallW.val (r' := .tup [.str v8.1, .bool v8.2]) ok_impl_ReadSector (law_impl_ReadSector e8) (.cons (DFL.agg (.cons (.slq ekS rfl rfl) (.cons (.slq ek_TWrite rfl rfl) .nil))) (.cons .int .nil)) (FlL.tup (.cons .refl (.cons .refl .nil))) ?_)
     refine rl.run 5 rfl (rl.done ?_)
     refine RW.keep [1, 2, 3, 8, 10, 11, 12, 13, 14, 15] (a' := [(1, .int .i64 x1), (2, .int .i64 s6.1), (3, .str s6.2.1), (8, .ptr 0 0), (10, .ptr 1 0), (11, .ptr 2 0), (12, .int .i64 (w64 (x1 + (w64 (Int.tdiv s6.1 32))))), (13, .int .i64 (Int.tmod s6.1 32)), (14, .str v8.1), (15, .bool v8.2)]) (H' := [some ⟨[.nils, .nils], 0⟩, some ⟨[.sl 3 0 v1.Sectors.length, .sl 4 0 v1.Cache.length], 0⟩, some ⟨[.sl 5 0 s6.2.2.1.length, .sl 6 0 s6.2.2.2.length], 0⟩, some ⟨fl (encS true) v1.Sectors, 1⟩, some ⟨fl (enc_TWrite true) v1.Cache, 2⟩, some ⟨fl (encS true) s6.2.2.1, 1⟩, some ⟨fl (enc_TWrite true) s6.2.2.2, 2⟩]) rfl rfl ?_
     refine RW.seq (RW.seq ?_)
     obtain ⟨y9, ey9, h16⟩ := bindS h15
     refine RW.cutq (σ := Bool) (fun y9 => [(1, .int .i64 x1), (2, .int .i64 s6.1), (3, .str s6.2.1), (8, .ptr 0 0), (10, .ptr 1 0), (11, .ptr 2 0), (12, .int .i64 (w64 (x1 + (w64 (Int.tdiv s6.1 32))))), (13, .int .i64 (Int.tmod s6.1 32)), (14, .str v8.1), (54, .bool y9)]) (fun y9 => [some ⟨[.nils, .nils], 0⟩, some ⟨[.sl 3 0 v1.Sectors.length, .sl 4 0 v1.Cache.length], 0⟩, some ⟨[.sl 5 0 s6.2.2.1.length, .sl 6 0 s6.2.2.2.length], 0⟩, some ⟨fl (encS true) v1.Sectors, 1⟩, some ⟨fl (enc_TWrite true) v1.Cache, 2⟩, some ⟨fl (encS true) s6.2.2.1, 1⟩, some ⟨fl (enc_TWrite true) s6.2.2.2, 2⟩]) (fun y => y9 = y) (fun _ _ _ _ g h => RW.gh g h) ?_ ?_
     ·refine RW.reg ?_
      refine rl.run 3 rfl ?_
      cases hb : (!v8.2)
      ·have h17 := iteBF ey9 hb
       refine rl.run 2 rfl ?_
       refine rl.gen rfl rfl fun b hb => ?_
       cases b
       ·have h18 := iteBF h17 hb
        refine rl.run 1 rfl (rl.done ?_)
        cases h18
        exact ⟨_, rfl, (Gh.ren0 [0, 1, 2, 3, 4, 5, 6] (.cells rfl rfl (.keep .nils (.keep .nils .nil)) (.cells rfl rfl (.slq rfl rfl (.slq rfl rfl .nil)) (.cells rfl rfl (.slq rfl rfl (.slq rfl rfl .nil)) (.same rfl (ekS.fref _ _) (.same rfl (ek_TWrite.fref _ _) (.same rfl (ekS.fref _ _) (.same rfl (ek_TWrite.fref _ _) .nil))))))) rfl (.cons rfl (.dat .int) (.cons rfl (.dat .int) (.cons rfl (.dat .str) (.cons rfl (.ptr rfl) (.cons rfl (.ptr rfl) (.cons rfl (.ptr rfl) (.cons rfl (.dat .int) (.cons rfl (.dat .int) (.cons rfl (.dat .str) (.cons rfl (.dat .bool) .nil)))))))))))⟩
       ·have h19 := iteBT h17 hb
        refine rl.run 1 rfl (rl.done ?_)
        cases h19
        exact ⟨_, rfl, (Gh.ren0 [0, 1, 2, 3, 4, 5, 6] (.cells rfl rfl (.keep .nils (.keep .nils .nil)) (.cells rfl rfl (.slq rfl rfl (.slq rfl rfl .nil)) (.cells rfl rfl (.slq rfl rfl (.slq rfl rfl .nil)) (.same rfl (ekS.fref _ _) (.same rfl (ek_TWrite.fref _ _) (.same rfl (ekS.fref _ _) (.same rfl (ek_TWrite.fref _ _) .nil))))))) rfl (.cons rfl (.dat .int) (.cons rfl (.dat .int) (.cons rfl (.dat .str) (.cons rfl (.ptr rfl) (.cons rfl (.ptr rfl) (.cons rfl (.ptr rfl) (.cons rfl (.dat .int) (.cons rfl (.dat .int) (.cons rfl (.dat .str) (.cons rfl (.dat .bool) .nil)))))))))))⟩
      ·have h20 := iteBT ey9 hb
       refine rl.run 4 rfl (rl.done ?_)
       cases h20
       exact ⟨_, rfl, (Gh.ren0 [0, 1, 2, 3, 4, 5, 6] (.cells rfl rfl (.keep .nils (.keep .nils .nil)) (.cells rfl rfl (.slq rfl rfl (.slq rfl rfl .nil)) (.cells rfl rfl (.slq rfl rfl (.slq rfl rfl .nil)) (.same rfl (ekS.fref _ _) (.same rfl (ek_TWrite.fref _ _) (.same rfl (ekS.fref _ _) (.same rfl (ek_TWrite.fref _ _) .nil))))))) rfl (.cons rfl (.dat .int) (.cons rfl (.dat .int) (.cons rfl (.dat .str) (.cons rfl (.ptr rfl) (.cons rfl (.ptr rfl) (.cons rfl (.ptr rfl) (.cons rfl (.dat .int) (.cons rfl (.dat .int) (.cons rfl (.dat .str) (.cons rfl (.dat .bool) .nil)))))))))))⟩
     ·intro y hC
      subst hC
      cases hb : y9
      ·have h21 := iteBF h16 hb
       refine RW.cond_f rfl (RW.skip (RW.sreg (rl.run 6 rfl (rl.done (RW.sdrw (rdraw.op rfl rfl (rdraw.op rfl rfl (rdraw.op rfl rfl (rdraw.op rfl rfl ?_)))))))))
       obtain ⟨v10, e10, h22⟩ := bindS h21
       refine rdraw.op rfl (x_sls rfl rfl rfl abnd_hi e10) ?_
       refine rdraw.op rfl rfl (rdraw.op rfl rfl ?_)
       obtain ⟨v11, e11, h23⟩ := bindS h22
       refine rdraw.op rfl (x_sls rfl rfl rfl abnd_hi e11) ?_
       obtain ⟨v12, e12, h24⟩ := bindS h23
       refine rdraw.op rfl (x_cat rfl rfl e12) ?_
       refine rdraw.op rfl rfl (rdraw.op rfl rfl (rdraw.op rfl rfl (rdraw.op rfl rfl ?_)))
       obtain ⟨v13, e13, h25⟩ := bindS h24
       refine rdraw.op rfl (x_sls rfl rfl rfl abnd_lo e13) ?_
       obtain ⟨v14, e14, h26⟩ := bindS h25
       refine rdraw.op rfl (x_cat rfl rfl e14) ?_
       obtain ⟨v15, e15, h27⟩ := bindS h26
       refine rdraw.ccall rfl rfl rfl (CallW.own (r' := .tup [.agg [.sl 7 0 v15.1.Sectors.length, .sl 8 0 v15.1.Cache.length], .bool v15.2]) (H' := [some ⟨[.nils, .nils], 0⟩, some ⟨[.sl 3 0 v1.Sectors.length, .sl 4 0 v1.Cache.length], 0⟩, some ⟨[.sl 5 0 s6.2.2.1.length, .sl 6 0 s6.2.2.2.length], 0⟩, some ⟨fl (encS true) v1.Sectors, 1⟩, some ⟨fl (enc_TWrite true) v1.Cache, 2⟩, some ⟨fl (encS true) s6.2.2.1, 1⟩, some ⟨fl (enc_TWrite true) s6.2.2.2, 2⟩, some ⟨fl (encS true) v15.1.Sectors, 1⟩, some ⟨fl (enc_TWrite true) v15.1.Cache, 2⟩]) ok_impl_WriteSector (law_impl_WriteSector e15) (.cons (DFL.agg (.cons (.slq ekS rfl rfl) (.cons (.slq ek_TWrite rfl rfl) .nil))) (.cons .int (.cons .str .nil))) (fac (ek_TDisk.own _) (fac .bool fan)) rfl ?_)
       refine rdraw.op rfl rfl (rdraw.op rfl rfl (rdraw.op rfl rfl ?_))
       refine rdraw.chnB rfl rfl (.here (.rx rfl) (.skip rfl (.skip rfl (.skip rfl (.skip rfl (.skip rfl (.skip rfl (.skip rfl (.skip rfl (.skip rfl (.skip rfl (.skip rfl (.skip rfl (.skip rfl (.skip rfl (.skip rfl (.skip rfl (.skip rfl .nil)))))))))))))))))) ?_
       refine rdraw.op rfl rfl (rdraw.done ?_)
       refine RW.keep [1, 2, 3, 8, 10, 11, 15, 16] (a' := [(1, .int .i64 x1), (2, .int .i64 s6.1), (3, .str s6.2.1), (8, .ptr 0 0), (10, .ptr 1 0), (11, .ptr 2 0), (15, .bool v15.2), (16, .int .i64 (if w64 (32 - (Int.tmod s6.1 32)) < (s6.2.1.length : Int) then w64 (32 - (Int.tmod s6.1 32)) else (s6.2.1.length : Int)))]) (H' := [some ⟨[.nils, .nils], 0⟩, some ⟨[.sl 3 0 v1.Sectors.length, .sl 4 0 v1.Cache.length], 0⟩, some ⟨[.sl 7 0 v15.1.Sectors.length, .sl 8 0 v15.1.Cache.length], 0⟩, some ⟨fl (encS true) v1.Sectors, 1⟩, some ⟨fl (enc_TWrite true) v1.Cache, 2⟩, some ⟨fl (encS true) s6.2.2.1, 1⟩, some ⟨fl (enc_TWrite true) s6.2.2.2, 2⟩, some ⟨fl (encS true) v15.1.Sectors, 1⟩, some ⟨fl (enc_TWrite true) v15.1.Cache, 2⟩]) rfl rfl ?_
       refine RW.seq (RW.sreg (rl.run 2 rfl (rl.done ?_)))
       cases hb : (!v15.2)
       ·have h28 := iteBF h27 hb
        refine RW.cond_f rfl (RW.skip (RW.sreg (rl.run 2 rfl ?_)))
        obtain ⟨v16, e16, h29⟩ := bindS h28
        refine rl.op (x_sls rfl rfl rfl abnd_lo e16) ?_
        refine rl.run 1 rfl (rl.done (RW.reg (rl.run 4 rfl (rl.done ?_))))
        cases h29
        exact hB11 _ rfl _ _ (Gh.ren0 [0, 1, 2, 3, 4, 7, 8] (.cells rfl rfl (.keep .nils (.keep .nils .nil)) (.cells rfl rfl (.slq rfl rfl (.slq rfl rfl .nil)) (.cells rfl rfl (.slq rfl rfl (.slq rfl rfl .nil)) (.same rfl (ekS.fref _ _) (.same rfl (ek_TWrite.fref _ _) (.same rfl (ekS.fref _ _) (.same rfl (ek_TWrite.fref _ _) .nil))))))) rfl (.cons rfl (.dat .int) (.cons rfl (.dat .int) (.cons rfl (.dat .str) (.cons rfl (.ptr rfl) (.cons rfl (.ptr rfl) (.cons rfl (.ptr rfl) .nil)))))))
       ·have h30 := iteBT h27 hb
        refine RW.cond_t rfl (RW.sreg (rl.run 3 rfl (rl.done (RW.ret ?_))))
        cases h30
        have h31 := elimL h12 (hE11 _ rfl)
        cases h31
        exact RRet.mk rfl (OutT.tup (.cons (OutL.agg (.cons (OutR.ownq ekS rfl rfl) rfl (.cons (OutR.ownq ek_TWrite rfl rfl) rfl .nil))) (.cons .bool .nil))) (by first | decide | simp)
      ·have h32 := iteBT h16 hb
       refine RW.cond_t rfl (RW.sreg (rl.run 3 rfl (rl.done (RW.ret ?_))))
       cases h32
       have h33 := elimL h12 (hE11 _ rfl)
       cases h33
       exact RRet.mk rfl (OutT.tup (.cons (OutL.agg (.cons (OutR.ownq ekS rfl rfl) rfl (.cons (OutR.ownq ek_TWrite rfl rfl) rfl .nil))) (.cons .bool .nil))) (by first | decide | simp)
   ·intro y7 hC
    have h12 := elimR h12 hC
    refine RW.sreg (rl.run 3 rfl (rl.done (RW.ret ?_)))
    cases h12
    exact RRet.mk rfl (OutT.tup (.cons (OutL.agg (.cons (OutR.ownq ekS rfl rfl) rfl (.cons (OutR.ownq ek_TWrite rfl rfl) rfl .nil))) (.cons .bool .nil))) (by first | decide | simp)
  ·have h34 := iteBT h2 hb
   refine RW.cond_t rfl (RW.sreg (rl.run 3 rfl (rl.done (RW.ret ?_))))
   cases h34
   exact RRet.mk rfl (OutT.tup (.cons (OutL.agg (.cons (OutR.ownq ekS rfl rfl) rfl (.cons (OutR.ownq ek_TWrite rfl rfl) rfl .nil))) (.cons .bool .nil))) (by first | decide | simp)
theorem law_impl_SegWrite {x0 : TDisk} {x1 : Int} {x2 : Int} {x3 : List UInt8} {r : TDisk × Bool} (hF : F_impl_SegWrite x0 x1 x2 x3 = some r) : PCalls Tryz.prog 74 [.agg (enc_TDisk false x0), .int .i64 x1, .int .i64 x2, .str x3] (.tup [.agg (enc_TDisk true r.1), .bool r.2]) := by
 refine PCalls.of_r k_impl_SegWrite rfl ?_
 unfold F_impl_SegWrite at hF
 refine RW.sreg (rl.run 3 rfl (rl.done (RW.seq (RW.seq ?_))))
 obtain ⟨y1, ey1, h1⟩ := bindS hF
 refine RW.cutq (σ := Bool) (fun y1 => [(1, .int .i64 x1), (2, .int .i64 x2), (3, .str x3), (4, .ptr 0 0), (8, .ptr 1 0), (24, .bool y1)]) (fun y1 => [some ⟨[.lst false 1 (fl (encS false) x0.Sectors) x0.Sectors.length, .lst false 2 (fl (enc_TWrite false) x0.Cache) x0.Cache.length], 0⟩, some ⟨[.nils, .nils], 0⟩]) (fun y => y1 = y) (fun _ _ _ _ g h => RW.gh g h) ?_ ?_
 ·refine RW.reg ?_
  refine rl.run 1 rfl ?_
  obtain ⟨v2, e2, h2⟩ := bindS ey1
  refine rl.call rfl rfl rfl (CallW.val (r' := .bool v2) ok_impl_in (law_impl_in e2) (.cons .int (.cons .int (.cons .int .nil))) .refl ?_)
  cases hb : v2
  ·have h3 := iteBF h2 hb
   refine rl.run 13 rfl (rl.done ?_)
   cases h3
   exact ⟨_, rfl, (Gh.ren0 [0, 1] (.cells rfl rfl (.keep (ekS.rlst) (.keep (ek_TWrite.rlst) .nil)) (.cells rfl rfl (.keep .nils (.keep .nils .nil)) .nil)) rfl (.cons rfl (.dat .int) (.cons rfl (.dat .int) (.cons rfl (.dat .str) (.cons rfl (.ptr rfl) (.cons rfl (.ptr rfl) (.cons rfl (.dat .bool) .nil)))))))⟩
  ·have h4 := iteBT h2 hb
   refine rl.run 3 rfl ?_
   obtain ⟨v3, e3, h5⟩ := bindS h4
   refine rl.call rfl rfl rfl (CallW.val (r' := .bool v3) ok_impl_in (law_impl_in e3) (.cons .int (.cons .int (.cons .int .nil))) .refl ?_)
   cases hb : v3
   ·have h6 := iteBF h5 hb
    refine rl.run 9 rfl (rl.done ?_)
    cases h6
    exact ⟨_, rfl, (Gh.ren0 [0, 1] (.cells rfl rfl (.keep (ekS.rlst) (.keep (ek_TWrite.rlst) .nil)) (.cells rfl rfl (.keep .nils (.keep .nils .nil)) .nil)) rfl (.cons rfl (.dat .int) (.cons rfl (.dat .int) (.cons rfl (.dat .str) (.cons rfl (.ptr rfl) (.cons rfl (.ptr rfl) (.cons rfl (.dat .bool) .nil)))))))⟩
   ·have h7 := iteBT h5 hb
    refine rl.run 7 rfl ?_
    refine rl.gen rfl rfl fun b hb => ?_
    cases b
    ·have h8 := iteBF h7 hb
     refine rl.run 1 rfl (rl.done ?_)
     cases h8
     exact ⟨_, rfl, (Gh.ren0 [0, 1] (.cells rfl rfl (.keep (ekS.rlst) (.keep (ek_TWrite.rlst) .nil)) (.cells rfl rfl (.keep .nils (.keep .nils .nil)) .nil)) rfl (.cons rfl (.dat .int) (.cons rfl (.dat .int) (.cons rfl (.dat .str) (.cons rfl (.ptr rfl) (.cons rfl (.ptr rfl) (.cons rfl (.dat .bool) .nil)))))))⟩
    ·have h9 := iteBT h7 hb
     refine rl.run 1 rfl (rl.done ?_)
     cases h9
     exact ⟨_, rfl, (Gh.ren0 [0, 1] (.cells rfl rfl (.keep (ekS.rlst) (.keep (ek_TWrite.rlst) .nil)) (.cells rfl rfl (.keep .nils (.keep .nils .nil)) .nil)) rfl (.cons rfl (.dat .int) (.cons rfl (.dat .int) (.cons rfl (.dat .str) (.cons rfl (.ptr rfl) (.cons rfl (.ptr rfl) (.cons rfl (.dat .bool) .nil)))))))⟩
 ·intro y hC
  subst hC
  cases hb : y1
  ·have h10 := iteBF h1 hb
   refine RW.cond_f rfl (RW.skip (RW.sdrw (rdraw.op rfl rfl (rdraw.op rfl rfl ?_))))
   obtain ⟨v4, e4, h11⟩ := bindS h10
   refine rdraw.call rfl rfl rfl (CallW.val (r' := .int .i64 v4) ok_impl_SegFirst (law_impl_SegFirst e4) (.cons .int .nil) .refl ⟨rfl, ?_⟩)
   refine rdraw.op rfl rfl (rdraw.op rfl rfl ?_)
   obtain ⟨v5, e5, h12⟩ := bindS h11
   refine rdraw.ccall rfl rfl rfl (CallW.own (r' := .tup [.agg [.sl 2 0 v5.1.Sectors.length, .sl 3 0 v5.1.Cache.length], .bool v5.2]) (H' := [some ⟨[.lst false 1 (fl (encS false) x0.Sectors) x0.Sectors.length, .lst false 2 (fl (enc_TWrite false) x0.Cache) x0.Cache.length], 0⟩, some ⟨[.nils, .nils], 0⟩, some ⟨fl (encS true) v5.1.Sectors, 1⟩, some ⟨fl (enc_TWrite true) v5.1.Cache, 2⟩]) ok_impl_WriteBytes (law_impl_WriteBytes e5) (.cons (DFL.agg (.cons (.lst ekS) (.cons (.lst ek_TWrite) .nil))) (.cons .int (.cons .int (.cons .str .nil)))) (fac (ek_TDisk.own _) (fac .bool fan)) rfl ?_)
   refine rdraw.op rfl rfl (rdraw.op rfl rfl ?_)
   refine rdraw.chn rfl rfl ?_
   refine rdraw.op rfl rfl (rdraw.done ?_)
   refine RW.keep [8, 9] (a' := [(8, .ptr 1 0), (9, .bool v5.2)]) (H' := [some ⟨[.lst false 1 (fl (encS false) x0.Sectors) x0.Sectors.length, .lst false 2 (fl (enc_TWrite false) x0.Cache) x0.Cache.length], 0⟩, some ⟨[.sl 2 0 v5.1.Sectors.length, .sl 3 0 v5.1.Cache.length], 0⟩, some ⟨fl (encS true) v5.1.Sectors, 1⟩, some ⟨fl (enc_TWrite true) v5.1.Cache, 2⟩]) rfl rfl ?_
   refine RW.ret ?_
   cases h12
   exact RRet.mk rfl (OutT.tup (.cons (OutL.agg (.cons (OutR.ownq ekS rfl rfl) rfl (.cons (OutR.ownq ek_TWrite rfl rfl) rfl .nil))) (.cons .bool .nil))) (by first | decide | simp)
  ·have h13 := iteBT h1 hb
   refine RW.cond_t rfl (RW.sreg (rl.run 1 rfl ?_))
   obtain ⟨v6, e6, h14⟩ := bindS h13
   refine rl.call rfl rfl rfl (CallW.own (r' := .agg [.sl 2 0 v6.Sectors.length, .sl 3 0 v6.Cache.length]) (H' := [some ⟨[.lst false 1 (fl (encS false) x0.Sectors) x0.Sectors.length, .lst false 2 (fl (enc_TWrite false) x0.Cache) x0.Cache.length], 0⟩, some ⟨[.nils, .nils], 0⟩, some ⟨fl (encS true) v6.Sectors, 1⟩, some ⟨fl (enc_TWrite true) v6.Cache, 2⟩]) ok_impl_cloneDisk (law_impl_cloneDisk e6) (.cons (DFL.agg (.cons (.lst ekS) (.cons (.lst ek_TWrite) .nil))) .nil) (ek_TDisk.own _) rfl ?_)
   refine rl.run 2 rfl (rl.done (RW.ret ?_))
   cases h14
   exact RRet.mk rfl (OutT.tup (.cons (OutL.agg (.cons (OutR.ownq ekS rfl rfl) rfl (.cons (OutR.ownq ek_TWrite rfl rfl) rfl .nil))) (.cons .bool .nil))) (by first | decide | simp)
theorem law_slices_Clone_Item {x0 : List TItem} {r : List TItem} (hF : F_slices_Clone_Item x0 = some r) : PCalls Tryz.prog 137 [.lst false 9 (fl (enc_TItem false) x0) x0.length] (.lst true 9 (fl (enc_TItem true) r) r.length) := clone_law fk_TItem k_slices_Clone_Item rfl hF
theorem law_impl_cloneLog {x0 : TLog} {r : TLog} (hF : F_impl_cloneLog x0 = some r) : PCalls Tryz.prog 75 [.agg (enc_TLog false x0)] (.agg (enc_TLog true r)) := by
 refine PCalls.of_r k_impl_cloneLog rfl ?_
 unfold F_impl_cloneLog at hF
 refine RW.sreg (rl.run 2 rfl (rl.done (RW.sreg (rl.run 3 rfl (rl.done (RW.sreg (rl.run 2 rfl ?_)))))))
 obtain ⟨v1, e1, h1⟩ := bindS hF
 refine rl.call rfl rfl rfl (CallW.own (r' := .agg [.sl 3 0 v1.Sectors.length, .sl 4 0 v1.Cache.length]) (H' := [some ⟨[.lst false 1 (fl (encS false) x0.Disk.Sectors) x0.Disk.Sectors.length, .lst false 2 (fl (enc_TWrite false) x0.Disk.Cache) x0.Disk.Cache.length, .int .i64 x0.Segs, .lst false 4 (fl (enc_TSeg false) x0.Used) x0.Used.length, .int .i64 x0.NextGen, .int .i64 x0.NextSeq, .int .i64 x0.Stamp, .int .i64 x0.NextValid], 0⟩, some ⟨[.nils, .nils, .int .i64 0, .nils, .int .i64 0, .int .i64 0, .int .i64 0, .int .i64 0], 0⟩, some ⟨[.lst false 1 (fl (encS false) x0.Disk.Sectors) x0.Disk.Sectors.length, .lst false 2 (fl (enc_TWrite false) x0.Disk.Cache) x0.Disk.Cache.length, .int .i64 x0.Segs, .lst false 4 (fl (enc_TSeg false) x0.Used) x0.Used.length, .int .i64 x0.NextGen, .int .i64 x0.NextSeq, .int .i64 x0.Stamp, .int .i64 x0.NextValid], 0⟩, some ⟨fl (encS true) v1.Sectors, 1⟩, some ⟨fl (enc_TWrite true) v1.Cache, 2⟩]) ok_impl_cloneDisk (law_impl_cloneDisk e1) (.cons (DFL.agg (.cons (.lst ekS) (.cons (.lst ek_TWrite) .nil))) .nil) (ek_TDisk.own _) rfl ?_)
 refine rl.run 2 rfl (rl.done (RW.sreg (rl.run 2 rfl (rl.done (RW.seq (RW.sreg (rl.run 4 rfl (rl.done ?_))))))))
 refine RW.gh (Gh.nil_c 2 3 4 rfl rfl) ?_
 obtain ⟨y7, ey7, h3⟩ := bindS h1
 refine RW.cutq (σ := (List TSeg)) (fun y3 => [(2, .ptr 0 0), (3, .ptr 1 0)]) (fun y3 => [some ⟨[.nils, .nils, .int .i64 0, .nils, .int .i64 0, .int .i64 0, .int .i64 0, .int .i64 0], 0⟩, some ⟨[.sl 2 0 v1.Sectors.length, .sl 3 0 v1.Cache.length, .int .i64 x0.Segs, .sl 4 0 y3.length, .int .i64 x0.NextGen, .int .i64 x0.NextSeq, .int .i64 x0.Stamp, .int .i64 x0.NextValid], 0⟩, some ⟨fl (encS true) v1.Sectors, 1⟩, some ⟨fl (enc_TWrite true) v1.Cache, 2⟩, some ⟨fl (enc_TSeg true) y3, 4⟩]) (fun y => y7 = y) (fun _ _ _ _ g h => RW.gh g h) ?_ ?_
 ·refine RW.blk ?_
  refine RW.iter (σ := Int × (List TSeg)) ey7 (fun s2 => [(2, .ptr 0 0), (3, .ptr 1 0), (13, .lst false 4 (fl (enc_TSeg false) x0.Used) x0.Used.length), (14, .int .i64 (x0.Used.length : Int)), (15, .int .i64 s2.1)]) (fun s2 => [some ⟨[.nils, .nils, .int .i64 0, .nils, .int .i64 0, .int .i64 0, .int .i64 0, .int .i64 0], 0⟩, some ⟨[.sl 2 0 v1.Sectors.length, .sl 3 0 v1.Cache.length, .int .i64 x0.Segs, .sl 4 0 s2.2.length, .int .i64 x0.NextGen, .int .i64 x0.NextSeq, .int .i64 x0.Stamp, .int .i64 x0.NextValid], 0⟩, some ⟨fl (encS true) v1.Sectors, 1⟩, some ⟨fl (enc_TWrite true) v1.Cache, 2⟩, some ⟨fl (enc_TSeg true) s2.2, 4⟩]) (Gh.ren0 [1, 2, 3, 4, 5] (.cells rfl rfl (.keep .nils (.keep .nils (.keep .int (.keep .nils (.keep .int (.keep .int (.keep .int (.keep .int .nil)))))))) (.cells rfl rfl (.slq rfl rfl (.slq rfl rfl (.keep .int (.slq rfl rfl (.keep .int (.keep .int (.keep .int (.keep .int .nil)))))))) (.same rfl (ekS.fref _ _) (.same rfl (ek_TWrite.fref _ _) (.same rfl (ek_TSeg.fref _ _) .nil))))) rfl (.cons rfl (.ptr rfl) (.cons rfl (.ptr rfl) (.cons rfl (.dat (ek_TSeg.rlst)) (.cons rfl (.dat .int) (.cons rfl (.dat .int) .nil)))))) (fun s2 B o hS2 hB2 hE2 => ?_)
  unfold S_impl_cloneLog_1 at hS2
  refine RW.sreg ?_
  refine rl.gen rfl rfl fun b hb => ?_
  cases b
  ·have h4 := iteBF hS2 hb
   refine rl.done (RW.seq (RW.cond_f rfl (RW.exit (blkA_eq ?_))))
   cases h4
   exact ⟨_, (hE2 _ rfl).symm, (Gh.ren0 [0, 1, 2, 3, 4] (.cells rfl rfl (.keep .nils (.keep .nils (.keep .int (.keep .nils (.keep .int (.keep .int (.keep .int (.keep .int .nil)))))))) (.cells rfl rfl (.slq rfl rfl (.slq rfl rfl (.keep .int (.slq rfl rfl (.keep .int (.keep .int (.keep .int (.keep .int .nil)))))))) (.same rfl (ekS.fref _ _) (.same rfl (ek_TWrite.fref _ _) (.same rfl (ek_TSeg.fref _ _) .nil))))) rfl (.cons rfl (.ptr rfl) (.cons rfl (.ptr rfl) .nil)))⟩
  ·have h5 := iteBT hS2 hb
   refine rl.done (RW.seq (RW.cond_t rfl (RW.skip (RW.seq (RW.blk (RW.sreg ?_))))))
   obtain ⟨v4, e4, h6⟩ := bindS h5
   refine rl.op (x_ia_lst (enc := enc_TSeg) (o := false) rfl rfl rfl e4) ?_
   refine rl.op (x_ld_ela (off' := 0) (vs := (enc_TSeg false v4)) ek_TSeg rfl e4 rfl rfl rfl) ?_
   refine rl.run 2 rfl (rl.done (RW.sreg (rl.run 2 rfl ?_)))
   obtain ⟨v5, e5, h7⟩ := bindS h6
   refine rl.call rfl rfl rfl (CallW.own (r' := .sl 6 0 v5.length) (H' := [some ⟨[.nils, .nils, .int .i64 0, .nils, .int .i64 0, .int .i64 0, .int .i64 0, .int .i64 0], 0⟩, some ⟨[.sl 2 0 v1.Sectors.length, .sl 3 0 v1.Cache.length, .int .i64 x0.Segs, .sl 4 0 s2.2.length, .int .i64 x0.NextGen, .int .i64 x0.NextSeq, .int .i64 x0.Stamp, .int .i64 x0.NextValid], 0⟩, some ⟨fl (encS true) v1.Sectors, 1⟩, some ⟨fl (enc_TWrite true) v1.Cache, 2⟩, some ⟨fl (enc_TSeg true) s2.2, 4⟩, some ⟨[.int .i64 v4.No, .int .i64 v4.Gen, .int .i64 v4.End, .lst false 9 (fl (enc_TItem false) v4.Items) v4.Items.length], 0⟩, some ⟨fl (enc_TItem true) v5, 9⟩]) ok_slices_Clone_Item (law_slices_Clone_Item e5) (.cons (.lst ek_TItem) .nil) (.lst (ek_TItem.fown _)) rfl ?_)
   refine rl.run 2 rfl (rl.done (RW.reg (rl.run 4 rfl ?_)))
   obtain ⟨v6, e6, h8⟩ := bindS h7
   refine rl.op (x_app rfl rfl (rapp_raw ek_TSeg rfl rfl (acont_one rfl rfl rfl) e6)) ?_
   refine rl.run 2 rfl (rl.done ?_)
   refine RW.gh (Gh.absorb_rawq (b := 8) (j := 3) (m := 6) rfl rfl rfl (by decide) (by decide) rfl (ek_TItem.flen true _) (ek_TItem.fown _)) ?_
   refine RW.gh (Gh.blk (b := 8) rfl (raw_app (enc := enc_TSeg) e6 rfl)) ?_
   refine RW.reg (rl.run 2 rfl (rl.done ?_))
   cases h8
   exact hB2 _ rfl _ _ (Gh.ren0 [0, 1, 2, 3, 8] (.cells rfl rfl (.keep .nils (.keep .nils (.keep .int (.keep .nils (.keep .int (.keep .int (.keep .int (.keep .int .nil)))))))) (.cells rfl rfl (.slq rfl rfl (.slq rfl rfl (.keep .int (.slq rfl rfl (.keep .int (.keep .int (.keep .int (.keep .int .nil)))))))) (.same rfl (ekS.fref _ _) (.same rfl (ek_TWrite.fref _ _) (.same rfl (ek_TSeg.fref _ _) .nil))))) rfl (.cons rfl (.ptr rfl) (.cons rfl (.ptr rfl) (.cons rfl (.dat (ek_TSeg.rlst)) (.cons rfl (.dat .int) (.cons rfl (.dat .int) .nil))))))
 ·intro y3 hC
  subst hC
  refine RW.sreg (rl.run 2 rfl (rl.done (RW.ret ?_)))
  cases h3
  exact RRet.mk rfl (OutL.agg (.cons (OutR.ownq ekS rfl rfl) rfl (.cons (OutR.ownq ek_TWrite rfl rfl) rfl (.cons .int rfl (.cons (OutR.ownq ek_TSeg rfl rfl) rfl (.cons .int rfl (.cons .int rfl (.cons .int rfl (.cons .int rfl .nil))))))))) (by first | decide | simp)
theorem law_impl_FlushDisk {x0 : TDisk} {r : TDisk} (hF : F_impl_FlushDisk x0 = some r) : PCalls Tryz.prog 76 [.agg (enc_TDisk false x0)] (.agg (enc_TDisk true r)) := by
 refine PCalls.of_r k_impl_FlushDisk rfl ?_
 unfold F_impl_FlushDisk at hF
 refine RW.sreg (rl.run 2 rfl (rl.done (RW.sreg (rl.run 1 rfl ?_))))
 obtain ⟨v1, e1, h1⟩ := bindS hF
 refine rl.call rfl rfl rfl (CallW.own (r' := .agg [.sl 2 0 v1.Sectors.length, .sl 3 0 v1.Cache.length]) (H' := [some ⟨[.lst false 1 (fl (encS false) x0.Sectors) x0.Sectors.length, .lst false 2 (fl (enc_TWrite false) x0.Cache) x0.Cache.length], 0⟩, some ⟨[.nils, .nils], 0⟩, some ⟨fl (encS true) v1.Sectors, 1⟩, some ⟨fl (enc_TWrite true) v1.Cache, 2⟩]) ok_impl_cloneDisk (law_impl_cloneDisk e1) (.cons (DFL.agg (.cons (.lst ekS) (.cons (.lst ek_TWrite) .nil))) .nil) (ek_TDisk.own _) rfl ?_)
 refine rl.run 2 rfl (rl.done (RW.seq (RW.sreg (rl.run 1 rfl ?_))))
 obtain ⟨v2, e2, h2⟩ := bindS h1
 refine rl.call rfl rfl rfl (CallW.val (r' := .bool v2) ok_impl_DiskOk (law_impl_DiskOk e2) (.cons (DFL.agg (.cons (.lst ekS) (.cons (.lst ek_TWrite) .nil))) .nil) .refl ?_)
 cases hb : v2
 ·have h3 := iteBF h2 hb
  refine rl.run 1 rfl (rl.done (RW.cond_t rfl (RW.sreg (rl.run 2 rfl (rl.done (RW.ret ?_))))))
  cases h3
  exact RRet.mk rfl (OutL.agg (.cons (OutR.ownq ekS rfl rfl) rfl (.cons (OutR.ownq ek_TWrite rfl rfl) rfl .nil))) (by first | decide | simp)
 ·have h4 := iteBT h2 hb
  refine rl.run 1 rfl (rl.done (RW.cond_f rfl (RW.skip (RW.seq (RW.sreg (rl.run 4 rfl (rl.done ?_)))))))
  obtain ⟨y8, ey8, h6⟩ := bindS h4
  refine RW.cutq (σ := (List (List UInt8))) (fun y4 => [(2, .ptr 0 0), (3, .ptr 1 0)]) (fun y4 => [some ⟨[.nils, .nils], 0⟩, some ⟨[.sl 2 0 y4.length, .sl 3 0 v1.Cache.length], 0⟩, some ⟨fl (encS true) y4, 1⟩, some ⟨fl (enc_TWrite true) v1.Cache, 2⟩]) (fun y => y8 = y) (fun _ _ _ _ g h => RW.gh g h) ?_ ?_
  ·refine RW.blk ?_
   refine RW.iter (σ := Int × (List (List UInt8))) ey8 (fun s3 => [(2, .ptr 0 0), (3, .ptr 1 0), (13, .lst false 2 (fl (enc_TWrite false) x0.Cache) x0.Cache.length), (14, .int .i64 (x0.Cache.length : Int)), (15, .int .i64 s3.1)]) (fun s3 => [some ⟨[.nils, .nils], 0⟩, some ⟨[.sl 2 0 s3.2.length, .sl 3 0 v1.Cache.length], 0⟩, some ⟨fl (encS true) s3.2, 1⟩, some ⟨fl (enc_TWrite true) v1.Cache, 2⟩]) (Gh.ren0 [1, 4, 2, 3] (.cells rfl rfl (.keep .nils (.keep .nils .nil)) (.cells rfl rfl (.slq rfl rfl (.slq rfl rfl .nil)) (.same rfl (ekS.fref _ _) (.same rfl (ek_TWrite.fref _ _) .nil)))) rfl (.cons rfl (.ptr rfl) (.cons rfl (.ptr rfl) (.cons rfl (.dat (ek_TWrite.rlst)) (.cons rfl (.dat .int) (.cons rfl (.dat .int) .nil)))))) (fun s3 B o hS5 hB5 hE5 => ?_)
   unfold S_impl_FlushDisk_1 at hS5
   refine RW.sreg ?_
   refine rl.gen rfl rfl fun b hb => ?_
   cases b
   ·have h7 := iteBF hS5 hb
    refine rl.done (RW.seq (RW.cond_f rfl (RW.exit (blkA_eq ?_))))
    cases h7
    exact ⟨_, (hE5 _ rfl).symm, (Gh.ren0 [0, 1, 2, 3] (.cells rfl rfl (.keep .nils (.keep .nils .nil)) (.cells rfl rfl (.slq rfl rfl (.slq rfl rfl .nil)) (.same rfl (ekS.fref _ _) (.same rfl (ek_TWrite.fref _ _) .nil)))) rfl (.cons rfl (.ptr rfl) (.cons rfl (.ptr rfl) .nil)))⟩
   ·have h8 := iteBT hS5 hb
    refine rl.done (RW.seq (RW.cond_t rfl (RW.skip (RW.seq (RW.blk (RW.sreg ?_))))))
    obtain ⟨v5, e5, h9⟩ := bindS h8
    refine rl.op (x_ia_lst (enc := enc_TWrite) (o := false) rfl rfl rfl e5) ?_
    refine rl.op (x_ld_ela (off' := 0) (vs := (enc_TWrite false v5)) ek_TWrite rfl e5 rfl rfl rfl) ?_
    refine rl.run 2 rfl (rl.done (RW.reg (rl.run 6 rfl ?_)))
    obtain ⟨v6, e6, h10⟩ := bindS h9
    refine rl.op (x_ia_sl rfl rfl rfl rfl e6) ?_
    obtain ⟨v7, e7, h11⟩ := bindS h10
    refine rl.op0 (x_st_sl' (off' := 0) (o := true) (e' := v5.Text) ekS e6 rfl rfl rfl rfl rfl rfl rfl rfl rfl e7) ?_
    refine rl.done (RW.reg (rl.run 2 rfl (rl.done ?_)))
    cases h11
    exact hB5 _ rfl _ _ (Gh.ren0 [0, 1, 2, 3] (.cells rfl rfl (.keep .nils (.keep .nils .nil)) (.cells rfl rfl (.slq rfl (set'_len e7) (.slq rfl rfl .nil)) (.same rfl (ekS.fref _ _) (.same rfl (ek_TWrite.fref _ _) .nil)))) rfl (.cons rfl (.ptr rfl) (.cons rfl (.ptr rfl) (.cons rfl (.dat (ek_TWrite.rlst)) (.cons rfl (.dat .int) (.cons rfl (.dat .int) .nil))))))
  ·intro y4 hC
   subst hC
   refine RW.sreg (rl.run 2 rfl (rl.done (RW.sreg (rl.run 2 rfl (rl.done (RW.ret ?_))))))
   cases h6
   exact RRet.mk rfl (OutL.agg (.cons (OutR.ownq ekS rfl rfl) rfl (.cons (OutR.nil (enc := enc_TWrite)) rfl .nil))) (by first | decide | simp)
set_option maxHeartbeats 2000000 in
theorem law_impl_openSeg {x0 : TLog} {x1 : Int} {r : TLog × Bool} (hF : F_impl_openSeg x0 x1 = some r) : PCalls Tryz.prog 35 [.agg (enc_TLog false x0), .int .i64 x1] (.tup [.agg (enc_TLog true r.1), .bool r.2]) := by
 refine PCalls.of_r k_impl_openSeg rfl ?_
 unfold F_impl_openSeg at hF
 refine RW.sreg (rl.run 3 rfl (rl.done (RW.sreg (rl.run 1 rfl ?_))))
 obtain ⟨v1, e1, h1⟩ := bindS hF
 refine rl.call rfl rfl rfl (CallW.val (r' := .lst false 1 (fl (encI false) v1) v1.length) ok_impl_FreeSegs (law_impl_FreeSegs e1) (.cons (DFL.agg (.cons (.lst ekS) (.cons (.lst ek_TWrite) (.cons .int (.cons (.lst ek_TSeg) (.cons .int (.cons .int (.cons .int (.cons .int .nil))))))))) .nil) (ekI.fflag _).lst ?_)
 refine rl.run 1 rfl (rl.done (RW.seq (RW.seq ?_)))
 obtain ⟨y2, ey2, h2⟩ := bindS h1
 refine RW.cutq (σ := Bool) (fun y2 => [(2, .ptr 0 0), (4, .ptr 1 0), (6, .lst false 1 (fl (encI false) v1) v1.length), (26, .bool y2)]) (fun y2 => [some ⟨[.lst false 1 (fl (encS false) x0.Disk.Sectors) x0.Disk.Sectors.length, .lst false 2 (fl (enc_TWrite false) x0.Disk.Cache) x0.Disk.Cache.length, .int .i64 x0.Segs, .lst false 4 (fl (enc_TSeg false) x0.Used) x0.Used.length, .int .i64 x0.NextGen, .int .i64 x0.NextSeq, .int .i64 x0.Stamp, .int .i64 x0.NextValid], 0⟩, some ⟨[.nils, .nils, .int .i64 0, .nils, .int .i64 0, .int .i64 0, .int .i64 0, .int .i64 0], 0⟩]) (fun y => y2 = y) (fun _ _ _ _ g h => RW.gh g h) ?_ ?_
 ·refine RW.reg ?_
  refine rl.run 1 rfl ?_
  refine rl.gen rfl rfl fun b hb => ?_
  cases b
  ·have h3 := iteBF ey2 hb
   refine rl.run 4 rfl ?_
   refine rl.gen rfl rfl fun b hb => ?_
   cases b
   ·have h4 := iteBF h3 hb
    refine rl.run 4 rfl ?_
    refine rl.gen rfl rfl fun b hb => ?_
    cases b
    ·have h5 := iteBF h4 hb
     refine rl.run 1 rfl (rl.done ?_)
     cases h5
     exact ⟨_, rfl, (Gh.ren0 [0, 1] (.cells rfl rfl (.keep (ekS.rlst) (.keep (ek_TWrite.rlst) (.keep .int (.keep (ek_TSeg.rlst) (.keep .int (.keep .int (.keep .int (.keep .int .nil)))))))) (.cells rfl rfl (.keep .nils (.keep .nils (.keep .int (.keep .nils (.keep .int (.keep .int (.keep .int (.keep .int .nil)))))))) .nil)) rfl (.cons rfl (.ptr rfl) (.cons rfl (.ptr rfl) (.cons rfl (.dat (ekI.rlst)) (.cons rfl (.dat .bool) .nil)))))⟩
    ·have h6 := iteBT h4 hb
     refine rl.run 1 rfl (rl.done ?_)
     cases h6
     exact ⟨_, rfl, (Gh.ren0 [0, 1] (.cells rfl rfl (.keep (ekS.rlst) (.keep (ek_TWrite.rlst) (.keep .int (.keep (ek_TSeg.rlst) (.keep .int (.keep .int (.keep .int (.keep .int .nil)))))))) (.cells rfl rfl (.keep .nils (.keep .nils (.keep .int (.keep .nils (.keep .int (.keep .int (.keep .int (.keep .int .nil)))))))) .nil)) rfl (.cons rfl (.ptr rfl) (.cons rfl (.ptr rfl) (.cons rfl (.dat (ekI.rlst)) (.cons rfl (.dat .bool) .nil)))))⟩
   ·have h7 := iteBT h3 hb
    refine rl.run 6 rfl (rl.done ?_)
    cases h7
    exact ⟨_, rfl, (Gh.ren0 [0, 1] (.cells rfl rfl (.keep (ekS.rlst) (.keep (ek_TWrite.rlst) (.keep .int (.keep (ek_TSeg.rlst) (.keep .int (.keep .int (.keep .int (.keep .int .nil)))))))) (.cells rfl rfl (.keep .nils (.keep .nils (.keep .int (.keep .nils (.keep .int (.keep .int (.keep .int (.keep .int .nil)))))))) .nil)) rfl (.cons rfl (.ptr rfl) (.cons rfl (.ptr rfl) (.cons rfl (.dat (ekI.rlst)) (.cons rfl (.dat .bool) .nil)))))⟩
  ·have h8 := iteBT ey2 hb
   refine rl.run 11 rfl (rl.done ?_)
   cases h8
   exact ⟨_, rfl, (Gh.ren0 [0, 1] (.cells rfl rfl (.keep (ekS.rlst) (.keep (ek_TWrite.rlst) (.keep .int (.keep (ek_TSeg.rlst) (.keep .int (.keep .int (.keep .int (.keep .int .nil)))))))) (.cells rfl rfl (.keep .nils (.keep .nils (.keep .int (.keep .nils (.keep .int (.keep .int (.keep .int (.keep .int .nil)))))))) .nil)) rfl (.cons rfl (.ptr rfl) (.cons rfl (.ptr rfl) (.cons rfl (.dat (ekI.rlst)) (.cons rfl (.dat .bool) .nil)))))⟩
 ·intro y hC
  subst hC
  cases hb : y2
  ·have h9 := iteBF h2 hb
   refine RW.cond_f rfl (RW.skip (RW.sreg (rl.run 3 rfl ?_)))
   obtain ⟨v3, e3, h10⟩ := bindS h9
   refine rl.call rfl rfl rfl (CallW.val (r' := .tup [.str v3.1, .bool v3.2]) ok_impl_FrameText (law_impl_FrameText e3) (.cons (DFL.agg (.cons .int (.cons .int (.cons .str .nil)))) .nil) (FlL.tup (.cons .refl (.cons .refl .nil))) ?_)
   refine rl.run 5 rfl (rl.done (RW.sdrw (rdraw.op rfl rfl (rdraw.op rfl rfl (rdraw.op rfl rfl ?_)))))
   obtain ⟨v4, e4, h11⟩ := bindS h10
   refine rdraw.op rfl (x_ia_lst (enc := encI) (o := false) rfl rfl rfl e4) ?_
   refine rdraw.op rfl (x_ld_el (off' := 0) ekI rfl e4 rfl rfl rfl) ?_
   refine rdraw.op rfl rfl ?_
   obtain ⟨v5, e5, h12⟩ := bindS h11
   refine rdraw.call rfl rfl rfl (CallW.val (r' := .tup [.agg (enc_TDisk false v5.1), .bool v5.2]) ok_impl_SegWrite (law_impl_SegWrite e5) (.cons (DFL.agg (.cons (.lst ekS) (.cons (.lst ek_TWrite) .nil))) (.cons .int (.cons .int (.cons .str .nil)))) (FlL.tup (.cons (ek_TDisk.flag _).agg (.cons .refl .nil))) ⟨rfl, ?_⟩)
   refine rdraw.op rfl rfl (rdraw.op rfl rfl (rdraw.op rfl rfl ?_))
   refine rdraw.chnB rfl rfl (.here (.rx rfl) (.here (.rx rfl) (.here (.rx rfl) (.here (.cl rfl rfl (CallW.val (r' := .tup [.agg (enc_TDisk false v5.1), .bool v5.2]) ok_impl_SegWrite (law_impl_SegWrite e5) (.cons (DFL.agg (.cons (.lst ekS) (.cons (.lst ek_TWrite) .nil))) (.cons .int (.cons .int (.cons .str .nil)))) (FlL.tup (.cons (ek_TDisk.flag _).agg (.cons .refl .nil))) ⟨rfl, rfl⟩)) (.here (.rx rfl) (.here (.rx (x_ld_el (off' := 0) ekI rfl e4 rfl rfl rfl)) (.here (.rx (x_ia_lst (enc := encI) (o := false) rfl rfl rfl e4)) (.here (.rx rfl) (.here (.rx rfl) (.here (.rx rfl) .nil)))))))))) ?_
   refine rdraw.chnB rfl rfl (.here (.rx rfl) (.skip rfl (.skip rfl (.skip rfl (.skip rfl (.skip rfl (.skip rfl (.skip rfl (.skip rfl (.skip rfl .nil)))))))))) ?_
   refine rdraw.op rfl rfl (rdraw.done ?_)
   refine RW.keep [2, 4, 6, 7, 9, 10] (a' := [(2, .ptr 0 0), (4, .ptr 1 0), (6, .lst false 1 (fl (encI false) v1) v1.length), (7, .str v3.1), (9, .ptr 2 0), (10, .bool v5.2)]) (H' := [some ⟨[.lst false 1 (fl (encS false) x0.Disk.Sectors) x0.Disk.Sectors.length, .lst false 2 (fl (enc_TWrite false) x0.Disk.Cache) x0.Disk.Cache.length, .int .i64 x0.Segs, .lst false 4 (fl (enc_TSeg false) x0.Used) x0.Used.length, .int .i64 x0.NextGen, .int .i64 x0.NextSeq, .int .i64 x0.Stamp, .int .i64 x0.NextValid], 0⟩, some ⟨[.nils, .nils, .int .i64 0, .nils, .int .i64 0, .int .i64 0, .int .i64 0, .int .i64 0], 0⟩, some ⟨[.lst false 1 (fl (encS false) v5.1.Sectors) v5.1.Sectors.length, .lst false 2 (fl (enc_TWrite false) v5.1.Cache) v5.1.Cache.length], 0⟩]) rfl rfl ?_
   refine RW.seq (RW.sreg (rl.run 2 rfl (rl.done ?_)))
   cases hb : (!v5.2)
   ·have h13 := iteBF h12 hb
    refine RW.cond_f rfl (RW.skip (RW.sreg (rl.run 1 rfl ?_)))
    obtain ⟨v6, e6, h14⟩ := bindS h13
    refine rl.call rfl rfl rfl (CallW.own (r' := .agg [.sl 3 0 v6.Disk.Sectors.length, .sl 4 0 v6.Disk.Cache.length, .int .i64 v6.Segs, .sl 5 0 v6.Used.length, .int .i64 v6.NextGen, .int .i64 v6.NextSeq, .int .i64 v6.Stamp, .int .i64 v6.NextValid]) (H' := [some ⟨[.lst false 1 (fl (encS false) x0.Disk.Sectors) x0.Disk.Sectors.length, .lst false 2 (fl (enc_TWrite false) x0.Disk.Cache) x0.Disk.Cache.length, .int .i64 x0.Segs, .lst false 4 (fl (enc_TSeg false) x0.Used) x0.Used.length, .int .i64 x0.NextGen, .int .i64 x0.NextSeq, .int .i64 x0.Stamp, .int .i64 x0.NextValid], 0⟩, some ⟨[.nils, .nils, .int .i64 0, .nils, .int .i64 0, .int .i64 0, .int .i64 0, .int .i64 0], 0⟩, some ⟨[.lst false 1 (fl (encS false) v5.1.Sectors) v5.1.Sectors.length, .lst false 2 (fl (enc_TWrite false) v5.1.Cache) v5.1.Cache.length], 0⟩, some ⟨fl (encS true) v6.Disk.Sectors, 1⟩, some ⟨fl (enc_TWrite true) v6.Disk.Cache, 2⟩, some ⟨fl (enc_TSeg true) v6.Used, 4⟩]) ok_impl_cloneLog (law_impl_cloneLog e6) (.cons (DFL.agg (.cons (.lst ekS) (.cons (.lst ek_TWrite) (.cons .int (.cons (.lst ek_TSeg) (.cons .int (.cons .int (.cons .int (.cons .int .nil))))))))) .nil) (ek_TLog.own _) rfl ?_)
    refine rl.run 2 rfl (rl.done (RW.sreg (rl.run 1 rfl ?_)))
    obtain ⟨v7, e7, h15⟩ := bindS h14
    refine rl.call rfl rfl rfl (CallW.own (r' := .agg [.sl 7 0 v7.Sectors.length, .sl 8 0 v7.Cache.length]) (H' := [some ⟨[.lst false 1 (fl (encS false) x0.Disk.Sectors) x0.Disk.Sectors.length, .lst false 2 (fl (enc_TWrite false) x0.Disk.Cache) x0.Disk.Cache.length, .int .i64 x0.Segs, .lst false 4 (fl (enc_TSeg false) x0.Used) x0.Used.length, .int .i64 x0.NextGen, .int .i64 x0.NextSeq, .int .i64 x0.Stamp, .int .i64 x0.NextValid], 0⟩, some ⟨[.nils, .nils, .int .i64 0, .nils, .int .i64 0, .int .i64 0, .int .i64 0, .int .i64 0], 0⟩, some ⟨[.lst false 1 (fl (encS false) v5.1.Sectors) v5.1.Sectors.length, .lst false 2 (fl (enc_TWrite false) v5.1.Cache) v5.1.Cache.length], 0⟩, some ⟨fl (encS true) v6.Disk.Sectors, 1⟩, some ⟨fl (enc_TWrite true) v6.Disk.Cache, 2⟩, some ⟨fl (enc_TSeg true) v6.Used, 4⟩, some ⟨[.sl 3 0 v6.Disk.Sectors.length, .sl 4 0 v6.Disk.Cache.length, .int .i64 v6.Segs, .sl 5 0 v6.Used.length, .int .i64 v6.NextGen, .int .i64 v6.NextSeq, .int .i64 v6.Stamp, .int .i64 v6.NextValid], 0⟩, some ⟨fl (encS true) v7.Sectors, 1⟩, some ⟨fl (enc_TWrite true) v7.Cache, 2⟩]) ok_impl_FlushDisk (law_impl_FlushDisk e7) (.cons (DFL.agg (.cons (.lst ekS) (.cons (.lst ek_TWrite) .nil))) .nil) (ek_TDisk.own _) rfl ?_)
    refine rl.run 2 rfl (rl.done (RW.sdrw (rdraw.op rfl rfl (rdraw.op rfl rfl (rdraw.op rfl rfl ?_)))))
    obtain ⟨v8, e8, h16⟩ := bindS h15
    refine rdraw.op rfl (x_ia_lst (enc := encI) (o := false) rfl rfl rfl e8) ?_
    refine rdraw.op rfl (x_ld_el (off' := 0) ekI rfl e8 rfl rfl rfl) ?_
    refine rdraw.op rfl rfl (rdraw.op rfl rfl (rdraw.op rfl rfl (rdraw.op rfl rfl (rdraw.op rfl rfl ?_))))
    refine rdraw.chnB rfl rfl (.skip rfl (.skip rfl (.skip rfl (.skip rfl (.skip rfl (.skip rfl (.skip rfl (.skip rfl (.here (.rx rfl) (.here (.rx rfl) .nil)))))))))) ?_
    obtain ⟨v9, e9, h17⟩ := bindS h16
    refine rdraw.chn rfl (x_app rfl rfl (rapp_raw ek_TSeg rfl rfl (acont_one rfl rfl rfl) e9)) ?_
    refine rdraw.op rfl rfl ?_
    refine rdraw.chn rfl rfl ?_
    refine rdraw.done ?_
    refine RW.gh (Gh.own0 (b := 10) rfl (NL.append NL.refl (NL.append (.same (.same (.same (.nils (es := 9) .nil)))) NL.refl))) ?_
    refine RW.gh (Gh.blk (b := 10) rfl (raw_app (enc := enc_TSeg) e9 rfl)) ?_
    refine RW.sreg (rl.run 5 rfl (rl.done (RW.sreg (rl.run 3 rfl (rl.done (RW.ret ?_))))))
    cases h17
    exact RRet.mk rfl (OutT.tup (.cons (OutL.agg (.cons (OutR.ownq ekS rfl rfl) rfl (.cons (OutR.ownq ek_TWrite rfl rfl) rfl (.cons .int rfl (.cons (OutR.ownq ek_TSeg rfl rfl) rfl (.cons .int rfl (.cons .int rfl (.cons .int rfl (.cons .int rfl .nil))))))))) (.cons .bool .nil))) (by first | decide | simp)
   ·have h18 := iteBT h12 hb
    refine RW.cond_t rfl (RW.sreg (rl.run 3 rfl (rl.done (RW.ret ?_))))
    cases h18
    exact RRet.mk rfl (OutT.tup (.cons (OutL.agg (.cons (OutR.nil (enc := encS)) rfl (.cons (OutR.nil (enc := enc_TWrite)) rfl (.cons .int rfl (.cons (OutR.nil (enc := enc_TSeg)) rfl (.cons .int rfl (.cons .int rfl (.cons .int rfl (.cons .int rfl .nil))))))))) (.cons .bool .nil))) (by first | decide | simp)
  ·have h19 := iteBT h2 hb
   refine RW.cond_t rfl (RW.sreg (rl.run 3 rfl (rl.done (RW.ret ?_))))
   cases h19
   exact RRet.mk rfl (OutT.tup (.cons (OutL.agg (.cons (OutR.nil (enc := encS)) rfl (.cons (OutR.nil (enc := enc_TWrite)) rfl (.cons .int rfl (.cons (OutR.nil (enc := enc_TSeg)) rfl (.cons .int rfl (.cons .int rfl (.cons .int rfl (.cons .int rfl .nil))))))))) (.cons .bool .nil))) (by first | decide | simp)
theorem law_impl_CheckOk_1_w {x0 : TRef} {x1 : TRef} {r : Bool} (hF : F_impl_CheckOk_1_w x0 x1 = some r) : ACalls Tryz.prog 1 188 [.agg (enc_TRef false x0), .ptr 0 0] [some ⟨[.int .i64 x1.No, .int .i64 x1.Gen], 0⟩] (.bool r) [some ⟨[.int .i64 x1.No, .int .i64 x1.Gen], 0⟩] := by
 refine ACalls.of_s k_impl_CheckOk_1 rfl ?_
 unfold F_impl_CheckOk_1_w at hF
 refine RW.sreg (rl.run 2 rfl (rl.done (RW.sreg (rl.run 6 rfl (rl.done (RW.ret ?_))))))
 cases hF
 exact RRetS.mk rfl .bool (Gh.renN [0] (.cells rfl rfl (.keep .int (.keep .int .nil)) .nil) rfl rfl rfl .nil)
theorem law_slices_IndexFunc_Ref_CheckOk_1 {x0 : List TRef} {x1 : TRef} {r : Int} (hF : F_slices_IndexFunc_Ref_CheckOk_1 x0 x1 = some r) : ACalls Tryz.prog 1 211 [.lst false 2 (fl (enc_TRef false) x0) x0.length, .fn 188 [.ptr 0 0]] [some ⟨[.int .i64 x1.No, .int .i64 x1.Gen], 0⟩] (.int .i64 r) [some ⟨[.int .i64 x1.No, .int .i64 x1.Gen], 0⟩] := by
 refine ACalls.of_s k_slices_IndexFunc_Ref rfl ?_
 unfold F_slices_IndexFunc_Ref_CheckOk_1 at hF
 refine RW.sreg (rl.run 1 rfl (rl.done (RW.seq (RW.sreg (rl.run 3 rfl (rl.done ?_))))))
 obtain ⟨y5, ey5, h2⟩ := bindS hF
 refine RW.cutq (σ := Unit) (fun y2 => []) (fun y2 => [some ⟨[.int .i64 x1.No, .int .i64 x1.Gen], 0⟩]) (fun y => y5 = .inr y) (fun _ _ _ _ g h => RW.gh g h) ?_ ?_
 ·refine RW.blk ?_
  refine RW.iter (σ := Int) ey5 (fun s1 => [(0, .lst false 2 (fl (enc_TRef false) x0) x0.length), (1, .fn 188 [.ptr 0 0]), (7, .int .i64 (x0.length : Int)), (8, .int .i64 s1)]) (fun s1 => [some ⟨[.int .i64 x1.No, .int .i64 x1.Gen], 0⟩]) (Gh.renN [0] (.cells rfl rfl (.keep .int (.keep .int .nil)) .nil) rfl rfl rfl (.cons rfl (.dat (ek_TRef.rlst)) (.cons rfl (RnL.fn (.cons (.ptr rfl) .nil)) (.cons rfl (.dat .int) (.cons rfl (.dat .int) .nil))))) (fun s1 B o hS1 hB1 hE1 => ?_)
  unfold S_slices_IndexFunc_Ref_CheckOk_1_1 at hS1
  refine RW.sreg ?_
  refine rl.gen rfl rfl fun b hb => ?_
  cases b
  ·have h3 := iteBF hS1 hb
   refine rl.done (RW.seq (RW.cond_f rfl (RW.exit (blkA_eq ?_))))
   cases h3
   exact ⟨_, (hE1 _ rfl).symm, (Gh.renN [0] (.cells rfl rfl (.keep .int (.keep .int .nil)) .nil) rfl rfl rfl .nil)⟩
  ·have h4 := iteBT hS1 hb
   refine rl.done (RW.seq (RW.cond_t rfl (RW.skip (RW.seq (RW.blk (RW.sreg (rl.run 2 rfl (rl.done (RW.sreg (rl.run 3 rfl ?_))))))))))
   obtain ⟨v3, e3, h5⟩ := bindS h4
   refine rl.op (x_ia_lst (enc := enc_TRef) (o := false) rfl rfl rfl e3) ?_
   refine rl.op (x_ld_ela (off' := 0) (vs := (enc_TRef false v3)) ek_TRef rfl e3 rfl rfl rfl) ?_
   obtain ⟨v4, e4, h6⟩ := bindS h5
   refine rl.call rfl rfl rfl (CallW.embR [0] ok_impl_CheckOk_1 (law_impl_CheckOk_1_w e4) (.cells rfl rfl (.keep .int (.keep .int .nil)) .nil) rfl rfl (.cons (.dat (ek_TRef.rrec)) (.cons (.ptr rfl) .nil)) .bool ?_)
   cases hb : v4
   ·have h7 := iteBF h6 hb
    refine rl.done (RW.cond_f rfl (RW.skip (RW.reg (rl.run 2 rfl (rl.done ?_)))))
    cases h7
    exact hB1 _ rfl _ _ (Gh.renN [0] (.cells rfl rfl (.keep .int (.keep .int .nil)) .nil) rfl rfl rfl (.cons rfl (.dat (ek_TRef.rlst)) (.cons rfl (RnL.fn (.cons (.ptr rfl) .nil)) (.cons rfl (.dat .int) (.cons rfl (.dat .int) .nil)))))
   ·have h8 := iteBT h6 hb
    refine rl.done (RW.cond_t rfl (RW.sreg (rl.run 2 rfl (rl.done ?_))))
    refine RW.keep [4] (a' := [(4, .int .i64 s1)]) (H' := [some ⟨[.int .i64 x1.No, .int .i64 x1.Gen], 0⟩]) rfl rfl ?_
    refine RW.ret ?_
    cases h8
    have h9 := elimL h2 (hE1 _ rfl)
    cases h9
    exact RRetS.mk rfl .int (Gh.renN [0] (.cells rfl rfl (.keep .int (.keep .int .nil)) .nil) rfl rfl rfl .nil)
 ·intro y2 hC
  have h2 := elimR h2 hC
  refine RW.sreg (rl.run 1 rfl (rl.done (RW.ret ?_)))
  cases h2
  exact RRetS.mk rfl .int (Gh.renN [0] (.cells rfl rfl (.keep .int (.keep .int .nil)) .nil) rfl rfl rfl .nil)
theorem law_slices_ContainsFunc_Ref_CheckOk_1 {x0 : List TRef} {x1 : TRef} {r : Bool} (hF : F_slices_ContainsFunc_Ref_CheckOk_1 x0 x1 = some r) : ACalls Tryz.prog 1 187 [.lst false 2 (fl (enc_TRef false) x0) x0.length, .fn 188 [.ptr 0 0]] [some ⟨[.int .i64 x1.No, .int .i64 x1.Gen], 0⟩] (.bool r) [some ⟨[.int .i64 x1.No, .int .i64 x1.Gen], 0⟩] := by
 refine ACalls.of_s k_slices_ContainsFunc_Ref rfl ?_
 unfold F_slices_ContainsFunc_Ref_CheckOk_1 at hF
 refine RW.sreg (rl.run 1 rfl (rl.done (RW.sreg (rl.run 2 rfl ?_))))
 obtain ⟨v1, e1, h1⟩ := bindS hF
 refine rl.call rfl rfl rfl (CallW.embR [0] ok_slices_IndexFunc_Ref (law_slices_IndexFunc_Ref_CheckOk_1 e1) (.cells rfl rfl (.keep .int (.keep .int .nil)) .nil) rfl rfl (.cons (.dat (ek_TRef.rlst)) (.cons (RnL.fn (.cons (.ptr rfl) .nil)) .nil)) .int ?_)
 refine rl.run 2 rfl (rl.done (RW.ret ?_))
 cases h1
 exact RRetS.mk rfl .bool (Gh.renN [0] (.cells rfl rfl (.keep .int (.keep .int .nil)) .nil) rfl rfl rfl .nil)
set_option maxHeartbeats 2000000 in
theorem law_impl_CheckOk {x0 : TCheck} {r : Bool} (hF : F_impl_CheckOk x0 = some r) : PCalls Tryz.prog 138 [.agg (enc_TCheck false x0)] (.bool r) := by
 refine PCalls.of_r k_impl_CheckOk rfl ?_
 unfold F_impl_CheckOk at hF
 refine RW.sreg (rl.run 2 rfl (rl.done (RW.seq (RW.sreg (rl.run 11 rfl (rl.done ?_))))))
 obtain ⟨y5, ey5, h2⟩ := bindS hF
 refine RW.cutq (σ := Unit) (fun y2 => [(1, .ptr 0 0)]) (fun y2 => [some ⟨[.int .i64 x0.Stamp, .int .i64 x0.NextGen, .int .i64 x0.NextSeq, .int .i64 x0.NextValid, .lst false 2 (fl (enc_TRef false) x0.Refs) x0.Refs.length], 0⟩]) (fun y => y5 = .inr y) (fun _ _ _ _ g h => RW.gh g h) ?_ ?_
 ·refine RW.blk ?_
  refine RW.iter (σ := Int) ey5 (fun s1 => [(1, .ptr 0 0), (16, .sl 1 0 [x0.Stamp, x0.NextGen, x0.NextSeq, x0.NextValid].length), (17, .int .i64 ([x0.Stamp, x0.NextGen, x0.NextSeq, x0.NextValid].length : Int)), (18, .int .i64 s1)]) (fun s1 => [some ⟨[.int .i64 x0.Stamp, .int .i64 x0.NextGen, .int .i64 x0.NextSeq, .int .i64 x0.NextValid, .lst false 2 (fl (enc_TRef false) x0.Refs) x0.Refs.length], 0⟩, some ⟨fl (encI true) [x0.Stamp, x0.NextGen, x0.NextSeq, x0.NextValid], 1⟩]) (Gh.ren0 [0, 1] (.cells rfl rfl (.keep .int (.keep .int (.keep .int (.keep .int (.keep (ek_TRef.rlst) .nil))))) (.same rfl (ekI.fref _ _) .nil)) rfl (.cons rfl (.ptr rfl) (.cons rfl (.slq rfl rfl) (.cons rfl (.dat .int) (.cons rfl (.dat .int) .nil))))) (fun s1 B o hS1 hB1 hE1 => ?_)
  unfold S_impl_CheckOk_1 at hS1
  refine RW.sreg ?_
  refine rl.gen rfl rfl fun b hb => ?_
  cases b
  ·have h3 := iteBF hS1 hb
   refine rl.done (RW.seq (RW.cond_f rfl (RW.exit (blkA_eq ?_))))
   cases h3
   exact ⟨_, (hE1 _ rfl).symm, (Gh.ren0 [0] (.cells rfl rfl (.keep .int (.keep .int (.keep .int (.keep .int (.keep (ek_TRef.rlst) .nil))))) .nil) rfl (.cons rfl (.ptr rfl) .nil))⟩
  ·have h4 := iteBT hS1 hb
   refine rl.done (RW.seq (RW.cond_t rfl (RW.skip (RW.seq (RW.blk (RW.sreg ?_))))))
   obtain ⟨v3, e3, h5⟩ := bindS h4
   refine rl.op (x_ia_sl rfl rfl rfl rfl e3) ?_
   refine rl.op (x_ld_sl (off' := 0) ekI rfl rfl e3 rfl rfl rfl) ?_
   refine rl.run 1 rfl (rl.done (RW.sreg (rl.run 1 rfl ?_)))
   obtain ⟨v4, e4, h6⟩ := bindS h5
   refine rl.call rfl rfl rfl (CallW.val (r' := .bool v4) ok_impl_in (law_impl_in e4) (.cons .int (.cons .int (.cons .int .nil))) .refl ?_)
   cases hb : v4
   ·have h7 := iteBF h6 hb
    refine rl.run 1 rfl (rl.done (RW.cond_t rfl (RW.sreg (rl.run 1 rfl (rl.done ?_)))))
    refine RW.keep [2] (a' := [(2, .bool false)]) (H' := [some ⟨[.int .i64 x0.Stamp, .int .i64 x0.NextGen, .int .i64 x0.NextSeq, .int .i64 x0.NextValid, .lst false 2 (fl (enc_TRef false) x0.Refs) x0.Refs.length], 0⟩, some ⟨fl (encI true) [x0.Stamp, x0.NextGen, x0.NextSeq, x0.NextValid], 1⟩]) rfl rfl ?_
    refine RW.ret ?_
    cases h7
    have h8 := elimL h2 (hE1 _ rfl)
    cases h8
    exact RRet.mk rfl .bool (by first | decide | simp)
   ·have h9 := iteBT h6 hb
    refine rl.run 1 rfl (rl.done (RW.cond_f rfl (RW.skip (RW.reg (rl.run 2 rfl (rl.done ?_))))))
    cases h9
    exact hB1 _ rfl _ _ (Gh.ren0 [0, 1] (.cells rfl rfl (.keep .int (.keep .int (.keep .int (.keep .int (.keep (ek_TRef.rlst) .nil))))) (.same rfl (ekI.fref _ _) .nil)) rfl (.cons rfl (.ptr rfl) (.cons rfl (.slq rfl rfl) (.cons rfl (.dat .int) (.cons rfl (.dat .int) .nil)))))
 ·intro y2 hC
  have h2 := elimR h2 hC
  refine RW.seq (RW.sreg (rl.run 3 rfl ?_))
  obtain ⟨v6, e6, h10⟩ := bindS h2
  refine rl.call rfl rfl rfl (CallW.val (r' := .bool v6) ok_impl_in (law_impl_in e6) (.cons .int (.cons .int (.cons .int .nil))) .refl ?_)
  cases hb : v6
  ·have h11 := iteBF h10 hb
   refine rl.run 1 rfl (rl.done (RW.cond_t rfl (RW.sreg (rl.run 1 rfl (rl.done (RW.ret ?_))))))
   cases h11
   exact RRet.mk rfl .bool (by first | decide | simp)
  ·have h12 := iteBT h10 hb
   refine rl.run 1 rfl (rl.done (RW.cond_f rfl (RW.skip (RW.sreg (rl.run 1 rfl (rl.done (RW.seq (RW.sreg (rl.run 4 rfl (rl.done ?_))))))))))
   obtain ⟨y15, ey15, h14⟩ := bindS h12
   refine RW.cutq (σ := Unit) (fun y8 => []) (fun y8 => []) (fun y => y15 = .inr y) (fun _ _ _ _ g h => RW.gh g h) ?_ ?_
   ·refine RW.blk ?_
    refine RW.iter (σ := Int × Int) ey15 (fun s7 => [(1, .ptr 0 0), (5, .int .i64 s7.1), (32, .lst false 2 (fl (enc_TRef false) x0.Refs) x0.Refs.length), (33, .int .i64 (x0.Refs.length : Int)), (34, .int .i64 s7.2)]) (fun s7 => [some ⟨[.int .i64 x0.Stamp, .int .i64 x0.NextGen, .int .i64 x0.NextSeq, .int .i64 x0.NextValid, .lst false 2 (fl (enc_TRef false) x0.Refs) x0.Refs.length], 0⟩]) (Gh.ren0 [0] (.cells rfl rfl (.keep .int (.keep .int (.keep .int (.keep .int (.keep (ek_TRef.rlst) .nil))))) .nil) rfl (.cons rfl (.ptr rfl) (.cons rfl (.dat .int) (.cons rfl (.dat (ek_TRef.rlst)) (.cons rfl (.dat .int) (.cons rfl (.dat .int) .nil)))))) (fun s7 B o hS13 hB13 hE13 => ?_)
    unfold S_impl_CheckOk_2 at hS13
    refine RW.sreg ?_
    refine rl.gen rfl rfl fun b hb => ?_
    cases b
    ·have h15 := iteBF hS13 hb
     refine rl.done (RW.seq (RW.cond_f rfl (RW.exit (blkA_eq ?_))))
     cases h15
     exact ⟨_, (hE13 _ rfl).symm, (Gh.ren0 [] .nil rfl .nil)⟩
    ·have h16 := iteBT hS13 hb
     refine rl.done (RW.seq (RW.cond_t rfl (RW.skip (RW.seq (RW.blk (RW.sreg (rl.run 1 rfl ?_)))))))
     obtain ⟨v9, e9, h17⟩ := bindS h16
     refine rl.op (x_ia_lst (enc := enc_TRef) (o := false) rfl rfl rfl e9) ?_
     refine rl.op (x_ld_ela (off' := 0) (vs := (enc_TRef false v9)) ek_TRef rfl e9 rfl rfl rfl) ?_
     refine rl.run 3 rfl (rl.done (RW.seq (RW.seq ?_)))
     obtain ⟨y10, ey10, h18⟩ := bindS h17
     refine RW.cutq (σ := Bool) (fun y10 => [(1, .ptr 0 0), (7, .ptr 1 0), (32, .lst false 2 (fl (enc_TRef false) x0.Refs) x0.Refs.length), (33, .int .i64 (x0.Refs.length : Int)), (34, .int .i64 s7.2), (61, .bool y10)]) (fun y10 => [some ⟨[.int .i64 x0.Stamp, .int .i64 x0.NextGen, .int .i64 x0.NextSeq, .int .i64 x0.NextValid, .lst false 2 (fl (enc_TRef false) x0.Refs) x0.Refs.length], 0⟩, some ⟨[.int .i64 v9.No, .int .i64 v9.Gen], 0⟩]) (fun y => y10 = y) (fun _ _ _ _ g h => RW.gh g h) ?_ ?_
     ·refine RW.reg ?_
      refine rl.run 7 rfl ?_
      obtain ⟨v11, e11, h19⟩ := bindS ey10
      refine rl.call rfl rfl rfl (CallW.val (r' := .bool v11) ok_impl_in (law_impl_in e11) (.cons .int (.cons .int (.cons .int .nil))) .refl ?_)
      cases hb : v11
      ·have h20 := iteBF h19 hb
       refine rl.run 15 rfl (rl.done ?_)
       cases h20
       exact ⟨_, rfl, (Gh.ren0 [0, 1] (.cells rfl rfl (.keep .int (.keep .int (.keep .int (.keep .int (.keep (ek_TRef.rlst) .nil))))) (.cells rfl rfl (.keep .int (.keep .int .nil)) .nil)) rfl (.cons rfl (.ptr rfl) (.cons rfl (.ptr rfl) (.cons rfl (.dat (ek_TRef.rlst)) (.cons rfl (.dat .int) (.cons rfl (.dat .int) (.cons rfl (.dat .bool) .nil)))))))⟩
      ·have h21 := iteBT h19 hb
       refine rl.run 4 rfl ?_
       obtain ⟨v12, e12, h22⟩ := bindS h21
       refine rl.call rfl rfl rfl (CallW.val (r' := .bool v12) ok_impl_in (law_impl_in e12) (.cons .int (.cons .int (.cons .int .nil))) .refl ?_)
       cases hb : v12
       ·have h23 := iteBF h22 hb
        refine rl.run 10 rfl (rl.done ?_)
        cases h23
        exact ⟨_, rfl, (Gh.ren0 [0, 1] (.cells rfl rfl (.keep .int (.keep .int (.keep .int (.keep .int (.keep (ek_TRef.rlst) .nil))))) (.cells rfl rfl (.keep .int (.keep .int .nil)) .nil)) rfl (.cons rfl (.ptr rfl) (.cons rfl (.ptr rfl) (.cons rfl (.dat (ek_TRef.rlst)) (.cons rfl (.dat .int) (.cons rfl (.dat .int) (.cons rfl (.dat .bool) .nil)))))))⟩
       ·have h24 := iteBT h22 hb
        refine rl.run 6 rfl ?_
        obtain ⟨v13, e13, h25⟩ := bindS h24
        refine rl.gop rfl (x_sle ek_TRef rfl rfl rfl abnd_hi e13) ?_
        refine rl.run 1 rfl ?_
        obtain ⟨v14, e14, h26⟩ := bindS h25
        refine rl.call rfl rfl rfl (CallW.embR [1] ok_slices_ContainsFunc_Ref (law_slices_ContainsFunc_Ref_CheckOk_1 e14) (.cells rfl rfl (.keep .int (.keep .int .nil)) .nil) rfl rfl (.cons (.dat (ek_TRef.rlst)) (.cons (RnL.fn (.cons (.ptr rfl) .nil)) .nil)) .bool ?_)
        cases hb : v14
        ·have h27 := iteBF h26 hb
         refine rl.run 1 rfl (rl.done ?_)
         cases h27
         exact ⟨_, rfl, (Gh.ren0 [0, 1] (.cells rfl rfl (.keep .int (.keep .int (.keep .int (.keep .int (.keep (ek_TRef.rlst) .nil))))) (.cells rfl rfl (.keep .int (.keep .int .nil)) .nil)) rfl (.cons rfl (.ptr rfl) (.cons rfl (.ptr rfl) (.cons rfl (.dat (ek_TRef.rlst)) (.cons rfl (.dat .int) (.cons rfl (.dat .int) (.cons rfl (.dat .bool) .nil)))))))⟩
        ·have h28 := iteBT h26 hb
         refine rl.run 1 rfl (rl.done ?_)
         cases h28
         exact ⟨_, rfl, (Gh.ren0 [0, 1] (.cells rfl rfl (.keep .int (.keep .int (.keep .int (.keep .int (.keep (ek_TRef.rlst) .nil))))) (.cells rfl rfl (.keep .int (.keep .int .nil)) .nil)) rfl (.cons rfl (.ptr rfl) (.cons rfl (.ptr rfl) (.cons rfl (.dat (ek_TRef.rlst)) (.cons rfl (.dat .int) (.cons rfl (.dat .int) (.cons rfl (.dat .bool) .nil)))))))⟩
     ·intro y hC
      subst hC
      cases hb : y10
      ·have h29 := iteBF h18 hb
       refine RW.cond_f rfl (RW.skip (RW.reg (rl.run 3 rfl (rl.done (RW.reg (rl.run 2 rfl (rl.done ?_)))))))
       cases h29
       exact hB13 _ rfl _ _ (Gh.ren0 [0] (.cells rfl rfl (.keep .int (.keep .int (.keep .int (.keep .int (.keep (ek_TRef.rlst) .nil))))) .nil) rfl (.cons rfl (.ptr rfl) (.cons rfl (.dat .int) (.cons rfl (.dat (ek_TRef.rlst)) (.cons rfl (.dat .int) (.cons rfl (.dat .int) .nil))))))
      ·have h30 := iteBT h18 hb
       refine RW.cond_t rfl (RW.sreg (rl.run 1 rfl (rl.done (RW.ret ?_))))
       cases h30
       have h31 := elimL h14 (hE13 _ rfl)
       cases h31
       exact RRet.mk rfl .bool (by first | decide | simp)
   ·intro y8 hC
    have h14 := elimR h14 hC
    refine RW.sreg (rl.run 1 rfl (rl.done (RW.ret ?_)))
    cases h14
    exact RRet.mk rfl .bool (by first | decide | simp)
set_option maxHeartbeats 2000000 in
theorem law_impl_CheckText {x0 : TCheck} {r : (List UInt8) × Bool} (hF : F_impl_CheckText x0 = some r) : PCalls Tryz.prog 77 [.agg (enc_TCheck false x0)] (.tup [.str r.1, .bool r.2]) := by
 refine PCalls.of_r k_impl_CheckText rfl ?_
 unfold F_impl_CheckText at hF
 refine RW.sreg (rl.run 3 rfl (rl.done (RW.seq (RW.sreg (rl.run 1 rfl ?_)))))
 obtain ⟨v1, e1, h1⟩ := bindS hF
 refine rl.call rfl rfl rfl (CallW.val (r' := .bool v1) ok_impl_CheckOk (law_impl_CheckOk e1) (.cons (DFL.agg (.cons .int (.cons .int (.cons .int (.cons .int (.cons (.lst ek_TRef) .nil)))))) .nil) .refl ?_)
 cases hb : v1
 ·have h2 := iteBF h1 hb
  refine rl.run 1 rfl (rl.done (RW.cond_t rfl (RW.sreg (rl.run 2 rfl (rl.done (RW.ret ?_))))))
  cases h2
  exact RRet.mk rfl (OutT.tup (.cons .str (.cons .bool .nil))) (by first | decide | simp)
 ·have h3 := iteBT h1 hb
  refine rl.run 1 rfl (rl.done (RW.cond_f rfl (RW.skip (RW.sdrw (rdraw.op rfl rfl (rdraw.op rfl rfl ?_))))))
  obtain ⟨v2, e2, h4⟩ := bindS h3
  refine rdraw.call rfl rfl rfl (CallW.val (r' := .str v2) ok_impl_varText (law_impl_varText e2) (.cons .int .nil) .refl ⟨rfl, ?_⟩)
  refine rdraw.op rfl rfl (rdraw.op rfl rfl ?_)
  obtain ⟨v3, e3, h5⟩ := bindS h4
  refine rdraw.call rfl rfl rfl (CallW.val (r' := .str v3) ok_impl_varText (law_impl_varText e3) (.cons .int .nil) .refl ⟨rfl, ?_⟩)
  obtain ⟨v4, e4, h6⟩ := bindS h5
  refine rdraw.op rfl (x_cat rfl rfl e4) ?_
  refine rdraw.op rfl rfl (rdraw.op rfl rfl ?_)
  obtain ⟨v5, e5, h7⟩ := bindS h6
  refine rdraw.call rfl rfl rfl (CallW.val (r' := .str v5) ok_impl_varText (law_impl_varText e5) (.cons .int .nil) .refl ⟨rfl, ?_⟩)
  obtain ⟨v6, e6, h8⟩ := bindS h7
  refine rdraw.op rfl (x_cat rfl rfl e6) ?_
  refine rdraw.op rfl rfl (rdraw.op rfl rfl ?_)
  obtain ⟨v7, e7, h9⟩ := bindS h8
  refine rdraw.call rfl rfl rfl (CallW.val (r' := .str v7) ok_impl_varText (law_impl_varText e7) (.cons .int .nil) .refl ⟨rfl, ?_⟩)
  obtain ⟨v8, e8, h10⟩ := bindS h9
  refine rdraw.op rfl (x_cat rfl rfl e8) ?_
  refine rdraw.op rfl rfl (rdraw.op rfl rfl (rdraw.op rfl rfl ?_))
  obtain ⟨v9, e9, h11⟩ := bindS h10
  refine rdraw.call rfl rfl rfl (CallW.val (r' := .str v9) ok_impl_varText (law_impl_varText e9) (.cons .int .nil) .refl ⟨rfl, ?_⟩)
  obtain ⟨v10, e10, h12⟩ := bindS h11
  refine rdraw.op rfl (x_cat rfl rfl e10) ?_
  refine rdraw.op rfl rfl (rdraw.done ?_)
  refine RW.keep [1, 4] (a' := [(1, .ptr 0 0), (4, .str v10)]) (H' := [some ⟨[.int .i64 x0.Stamp, .int .i64 x0.NextGen, .int .i64 x0.NextSeq, .int .i64 x0.NextValid, .lst false 2 (fl (enc_TRef false) x0.Refs) x0.Refs.length], 0⟩]) rfl rfl ?_
  refine RW.seq (RW.sreg (rl.run 4 rfl (rl.done ?_)))
  obtain ⟨y18, ey18, h14⟩ := bindS h12
  refine RW.cutq (σ := (List UInt8)) (fun y12 => [(4, .str y12)]) (fun y12 => []) (fun y => y18 = y) (fun _ _ _ _ g h => RW.gh g h) ?_ ?_
  ·refine RW.blk ?_
   refine RW.iter (σ := (List UInt8) × Int) ey18 (fun s11 => [(4, .str s11.1), (32, .lst false 2 (fl (enc_TRef false) x0.Refs) x0.Refs.length), (33, .int .i64 (x0.Refs.length : Int)), (34, .int .i64 s11.2)]) (fun s11 => []) (Gh.ren0 [] .nil rfl (.cons rfl (.dat .str) (.cons rfl (.dat (ek_TRef.rlst)) (.cons rfl (.dat .int) (.cons rfl (.dat .int) .nil))))) (fun s11 B o hS13 hB13 hE13 => ?_)
   unfold S_impl_CheckText_1 at hS13
   refine RW.sreg ?_
   refine rl.gen rfl rfl fun b hb => ?_
   cases b
   ·have h15 := iteBF hS13 hb
    refine rl.done (RW.seq (RW.cond_f rfl (RW.exit (blkA_eq ?_))))
    cases h15
    exact ⟨_, (hE13 _ rfl).symm, (Gh.ren0 [] .nil rfl (.cons rfl (.dat .str) .nil))⟩
   ·have h16 := iteBT hS13 hb
    refine rl.done (RW.seq (RW.cond_t rfl (RW.skip (RW.seq (RW.blk (RW.sreg ?_))))))
    obtain ⟨v13, e13, h17⟩ := bindS h16
    refine rl.op (x_ia_lst (enc := enc_TRef) (o := false) rfl rfl rfl e13) ?_
    refine rl.op (x_ld_ela (off' := 0) (vs := (enc_TRef false v13)) ek_TRef rfl e13 rfl rfl rfl) ?_
    refine rl.run 2 rfl (rl.done (RW.drw (rdraw.op rfl rfl (rdraw.op rfl rfl (rdraw.op rfl rfl ?_)))))
    obtain ⟨v14, e14, h18⟩ := bindS h17
    refine rdraw.call rfl rfl rfl (CallW.val (r' := .str v14) ok_impl_varText (law_impl_varText e14) (.cons .int .nil) .refl ⟨rfl, ?_⟩)
    refine rdraw.op rfl rfl (rdraw.op rfl rfl ?_)
    obtain ⟨v15, e15, h19⟩ := bindS h18
    refine rdraw.call rfl rfl rfl (CallW.val (r' := .str v15) ok_impl_varText (law_impl_varText e15) (.cons .int .nil) .refl ⟨rfl, ?_⟩)
    obtain ⟨v16, e16, h20⟩ := bindS h19
    refine rdraw.op rfl (x_cat rfl rfl e16) ?_
    obtain ⟨v17, e17, h21⟩ := bindS h20
    refine rdraw.op rfl (x_cat rfl rfl e17) ?_
    refine rdraw.op rfl rfl (rdraw.done (RW.reg (rl.run 2 rfl (rl.done ?_))))
    cases h21
    exact hB13 _ rfl _ _ (Gh.ren0 [] .nil rfl (.cons rfl (.dat .str) (.cons rfl (.dat (ek_TRef.rlst)) (.cons rfl (.dat .int) (.cons rfl (.dat .int) .nil)))))
  ·intro y12 hC
   subst hC
   refine RW.sreg (rl.run 2 rfl ?_)
   obtain ⟨v19, e19, h22⟩ := bindS h14
   refine rl.call rfl rfl rfl (CallW.val (r' := .str v19) ok_impl_seal (law_impl_seal e19) (.cons .str .nil) .refl ?_)
   obtain ⟨v20, e20, h23⟩ := bindS h22
   refine rl.op (x_cat rfl rfl e20) ?_
   refine rl.run 1 rfl (rl.done (RW.sreg (rl.run 2 rfl ?_)))
   obtain ⟨v21, e21, h24⟩ := bindS h23
   refine rl.call rfl rfl rfl (CallW.val (r' := .str v21) ok_impl_varText (law_impl_varText e21) (.cons .int .nil) .refl ?_)
   refine rl.run 1 rfl ?_
   obtain ⟨v22, e22, h25⟩ := bindS h24
   refine rl.op (x_cat rfl rfl e22) ?_
   refine rl.run 1 rfl (rl.done (RW.seq (RW.sreg (rl.run 2 rfl ?_))))
   refine rl.gen rfl rfl fun b hb => ?_
   cases b
   ·have h26 := iteBF h25 hb
    refine rl.done ?_
    refine RW.keep [7, 59] (a' := [(7, .str v22), (59, .bool false)]) (H' := []) rfl rfl ?_
    refine RW.cond_f rfl (RW.skip (RW.sreg (rl.run 3 rfl (rl.done (RW.ret ?_)))))
    cases h26
    exact RRet.mk rfl (OutT.tup (.cons .str (.cons .bool .nil))) (by first | decide | simp)
   ·have h27 := iteBT h25 hb
    refine rl.done ?_
    refine RW.keep [7, 59] (a' := [(7, .str v22), (59, .bool true)]) (H' := []) rfl rfl ?_
    refine RW.cond_t rfl (RW.sreg (rl.run 2 rfl (rl.done (RW.ret ?_))))
    cases h27
    exact RRet.mk rfl (OutT.tup (.cons .str (.cons .bool .nil))) (by first | decide | simp)
theorem law_impl_region {x0 : Int} {r : Int} (hF : F_impl_region x0 = some r) : PCalls Tryz.prog 81 [.int .i64 x0] (.int .i64 r) := by
 refine PCalls.of_r k_impl_region rfl ?_
 unfold F_impl_region at hF
 refine RW.sreg (rl.run 1 rfl (rl.done (RW.sreg (rl.run 4 rfl (rl.done (RW.ret ?_))))))
 cases hF
 exact RRet.mk rfl .int (by first | decide | simp)
theorem law_impl_WriteCheck {x0 : TDisk} {x1 : TCheck} {r : TDisk × Bool} (hF : F_impl_WriteCheck x0 x1 = some r) : PCalls Tryz.prog 36 [.agg (enc_TDisk false x0), .agg (enc_TCheck false x1)] (.tup [.agg (enc_TDisk true r.1), .bool r.2]) := by
 refine PCalls.of_r k_impl_WriteCheck rfl ?_
 unfold F_impl_WriteCheck at hF
 refine RW.sreg (rl.run 4 rfl (rl.done (RW.sreg (rl.run 1 rfl ?_))))
 obtain ⟨v1, e1, h1⟩ := bindS hF
 refine rl.call rfl rfl rfl (CallW.val (r' := .tup [.str v1.1, .bool v1.2]) ok_impl_CheckText (law_impl_CheckText e1) (.cons (DFL.agg (.cons .int (.cons .int (.cons .int (.cons .int (.cons (.lst ek_TRef) .nil)))))) .nil) (FlL.tup (.cons .refl (.cons .refl .nil))) ?_)
 refine rl.run 5 rfl (rl.done (RW.seq (RW.sreg (rl.run 1 rfl ?_))))
 obtain ⟨v2, e2, h2⟩ := bindS h1
 refine rl.call rfl rfl rfl (CallW.val (r' := .bool v2) ok_impl_DiskOk (law_impl_DiskOk e2) (.cons (DFL.agg (.cons (.lst ekS) (.cons (.lst ek_TWrite) .nil))) .nil) .refl ?_)
 cases hb : v2
 ·have h3 := iteBF h2 hb
  refine rl.run 5 rfl (rl.done ?_)
  refine RW.keep [2, 3, 4, 6, 21] (a' := [(2, .ptr 0 0), (3, .ptr 1 0), (4, .ptr 2 0), (6, .str v1.1), (21, .bool true)]) (H' := [some ⟨[.lst false 1 (fl (encS false) x0.Sectors) x0.Sectors.length, .lst false 2 (fl (enc_TWrite false) x0.Cache) x0.Cache.length], 0⟩, some ⟨[.int .i64 x1.Stamp, .int .i64 x1.NextGen, .int .i64 x1.NextSeq, .int .i64 x1.NextValid, .lst false 2 (fl (enc_TRef false) x1.Refs) x1.Refs.length], 0⟩, some ⟨[.nils, .nils], 0⟩]) rfl rfl ?_
  refine RW.cond_t rfl (RW.sreg (rl.run 1 rfl ?_))
  obtain ⟨v3, e3, h4⟩ := bindS h3
  refine rl.call rfl rfl rfl (CallW.own (r' := .agg [.sl 3 0 v3.Sectors.length, .sl 4 0 v3.Cache.length]) (H' := [some ⟨[.lst false 1 (fl (encS false) x0.Sectors) x0.Sectors.length, .lst false 2 (fl (enc_TWrite false) x0.Cache) x0.Cache.length], 0⟩, some ⟨[.int .i64 x1.Stamp, .int .i64 x1.NextGen, .int .i64 x1.NextSeq, .int .i64 x1.NextValid, .lst false 2 (fl (enc_TRef false) x1.Refs) x1.Refs.length], 0⟩, some ⟨[.nils, .nils], 0⟩, some ⟨fl (encS true) v3.Sectors, 1⟩, some ⟨fl (enc_TWrite true) v3.Cache, 2⟩]) ok_impl_cloneDisk (law_impl_cloneDisk e3) (.cons (DFL.agg (.cons (.lst ekS) (.cons (.lst ek_TWrite) .nil))) .nil) (ek_TDisk.own _) rfl ?_)
  refine rl.run 2 rfl (rl.done (RW.ret ?_))
  cases h4
  exact RRet.mk rfl (OutT.tup (.cons (OutL.agg (.cons (OutR.ownq ekS rfl rfl) rfl (.cons (OutR.ownq ek_TWrite rfl rfl) rfl .nil))) (.cons .bool .nil))) (by first | decide | simp)
 ·have h5 := iteBT h2 hb
  refine rl.run 5 rfl (rl.done ?_)
  refine RW.keep [2, 3, 4, 6, 21] (a' := [(2, .ptr 0 0), (3, .ptr 1 0), (4, .ptr 2 0), (6, .str v1.1), (21, .bool (!v1.2))]) (H' := [some ⟨[.lst false 1 (fl (encS false) x0.Sectors) x0.Sectors.length, .lst false 2 (fl (enc_TWrite false) x0.Cache) x0.Cache.length], 0⟩, some ⟨[.int .i64 x1.Stamp, .int .i64 x1.NextGen, .int .i64 x1.NextSeq, .int .i64 x1.NextValid, .lst false 2 (fl (enc_TRef false) x1.Refs) x1.Refs.length], 0⟩, some ⟨[.nils, .nils], 0⟩]) rfl rfl ?_
  cases hb : (!v1.2)
  ·have h6 := iteBF h5 hb
   refine RW.cond_f rfl (RW.skip (RW.sdrw (rdraw.op rfl rfl (rdraw.op rfl rfl (rdraw.op rfl rfl ?_)))))
   obtain ⟨v4, e4, h7⟩ := bindS h6
   refine rdraw.call rfl rfl rfl (CallW.val (r' := .int .i64 v4) ok_impl_region (law_impl_region e4) (.cons .int .nil) .refl ⟨rfl, ?_⟩)
   refine rdraw.op rfl rfl ?_
   obtain ⟨v5, e5, h8⟩ := bindS h7
   refine rdraw.call rfl rfl rfl (CallW.val (r' := .tup [.agg (enc_TDisk false v5.1), .bool v5.2]) ok_impl_WriteBytes (law_impl_WriteBytes e5) (.cons (DFL.agg (.cons (.lst ekS) (.cons (.lst ek_TWrite) .nil))) (.cons .int (.cons .int (.cons .str .nil)))) (FlL.tup (.cons (ek_TDisk.flag _).agg (.cons .refl .nil))) ⟨rfl, ?_⟩)
   refine rdraw.op rfl rfl (rdraw.op rfl rfl (rdraw.op rfl rfl ?_))
   refine rdraw.chnB rfl rfl (.here (.rx rfl) (.here (.rx rfl) (.here (.rx rfl) (.here (.cl rfl rfl (CallW.val (r' := .tup [.agg (enc_TDisk false v5.1), .bool v5.2]) ok_impl_WriteBytes (law_impl_WriteBytes e5) (.cons (DFL.agg (.cons (.lst ekS) (.cons (.lst ek_TWrite) .nil))) (.cons .int (.cons .int (.cons .str .nil)))) (FlL.tup (.cons (ek_TDisk.flag _).agg (.cons .refl .nil))) ⟨rfl, rfl⟩)) (.here (.rx rfl) (.here (.cl rfl rfl (CallW.val (r' := .int .i64 v4) ok_impl_region (law_impl_region e4) (.cons .int .nil) .refl ⟨rfl, rfl⟩)) (.here (.rx rfl) (.here (.rx rfl) (.here (.rx rfl) .nil))))))))) ?_
   refine rdraw.chnB rfl rfl (.here (.rx rfl) (.skip rfl (.skip rfl (.skip rfl (.skip rfl (.skip rfl (.skip rfl (.skip rfl (.skip rfl .nil))))))))) ?_
   refine rdraw.op rfl rfl (rdraw.done ?_)
   refine RW.keep [2, 4, 8, 9] (a' := [(2, .ptr 0 0), (4, .ptr 2 0), (8, .ptr 3 0), (9, .bool v5.2)]) (H' := [some ⟨[.lst false 1 (fl (encS false) x0.Sectors) x0.Sectors.length, .lst false 2 (fl (enc_TWrite false) x0.Cache) x0.Cache.length], 0⟩, some ⟨[.int .i64 x1.Stamp, .int .i64 x1.NextGen, .int .i64 x1.NextSeq, .int .i64 x1.NextValid, .lst false 2 (fl (enc_TRef false) x1.Refs) x1.Refs.length], 0⟩, some ⟨[.nils, .nils], 0⟩, some ⟨[.lst false 1 (fl (encS false) v5.1.Sectors) v5.1.Sectors.length, .lst false 2 (fl (enc_TWrite false) v5.1.Cache) v5.1.Cache.length], 0⟩]) rfl rfl ?_
   refine RW.seq (RW.sreg (rl.run 2 rfl (rl.done ?_)))
   cases hb : (!v5.2)
   ·have h9 := iteBF h8 hb
    refine RW.cond_f rfl (RW.skip (RW.sreg (rl.run 1 rfl ?_)))
    obtain ⟨v6, e6, h10⟩ := bindS h9
    refine rl.call rfl rfl rfl (CallW.own (r' := .agg [.sl 4 0 v6.Sectors.length, .sl 5 0 v6.Cache.length]) (H' := [some ⟨[.lst false 1 (fl (encS false) x0.Sectors) x0.Sectors.length, .lst false 2 (fl (enc_TWrite false) x0.Cache) x0.Cache.length], 0⟩, some ⟨[.int .i64 x1.Stamp, .int .i64 x1.NextGen, .int .i64 x1.NextSeq, .int .i64 x1.NextValid, .lst false 2 (fl (enc_TRef false) x1.Refs) x1.Refs.length], 0⟩, some ⟨[.nils, .nils], 0⟩, some ⟨[.lst false 1 (fl (encS false) v5.1.Sectors) v5.1.Sectors.length, .lst false 2 (fl (enc_TWrite false) v5.1.Cache) v5.1.Cache.length], 0⟩, some ⟨fl (encS true) v6.Sectors, 1⟩, some ⟨fl (enc_TWrite true) v6.Cache, 2⟩]) ok_impl_FlushDisk (law_impl_FlushDisk e6) (.cons (DFL.agg (.cons (.lst ekS) (.cons (.lst ek_TWrite) .nil))) .nil) (ek_TDisk.own _) rfl ?_)
    refine rl.run 2 rfl (rl.done (RW.ret ?_))
    cases h10
    exact RRet.mk rfl (OutT.tup (.cons (OutL.agg (.cons (OutR.ownq ekS rfl rfl) rfl (.cons (OutR.ownq ek_TWrite rfl rfl) rfl .nil))) (.cons .bool .nil))) (by first | decide | simp)
   ·have h11 := iteBT h8 hb
    refine RW.cond_t rfl (RW.sreg (rl.run 1 rfl ?_))
    obtain ⟨v7, e7, h12⟩ := bindS h11
    refine rl.call rfl rfl rfl (CallW.own (r' := .agg [.sl 4 0 v7.Sectors.length, .sl 5 0 v7.Cache.length]) (H' := [some ⟨[.lst false 1 (fl (encS false) x0.Sectors) x0.Sectors.length, .lst false 2 (fl (enc_TWrite false) x0.Cache) x0.Cache.length], 0⟩, some ⟨[.int .i64 x1.Stamp, .int .i64 x1.NextGen, .int .i64 x1.NextSeq, .int .i64 x1.NextValid, .lst false 2 (fl (enc_TRef false) x1.Refs) x1.Refs.length], 0⟩, some ⟨[.nils, .nils], 0⟩, some ⟨[.lst false 1 (fl (encS false) v5.1.Sectors) v5.1.Sectors.length, .lst false 2 (fl (enc_TWrite false) v5.1.Cache) v5.1.Cache.length], 0⟩, some ⟨fl (encS true) v7.Sectors, 1⟩, some ⟨fl (enc_TWrite true) v7.Cache, 2⟩]) ok_impl_cloneDisk (law_impl_cloneDisk e7) (.cons (DFL.agg (.cons (.lst ekS) (.cons (.lst ek_TWrite) .nil))) .nil) (ek_TDisk.own _) rfl ?_)
    refine rl.run 2 rfl (rl.done (RW.ret ?_))
    cases h12
    exact RRet.mk rfl (OutT.tup (.cons (OutL.agg (.cons (OutR.ownq ekS rfl rfl) rfl (.cons (OutR.ownq ek_TWrite rfl rfl) rfl .nil))) (.cons .bool .nil))) (by first | decide | simp)
  ·have h13 := iteBT h5 hb
   refine RW.cond_t rfl (RW.sreg (rl.run 1 rfl ?_))
   obtain ⟨v8, e8, h14⟩ := bindS h13
   refine rl.call rfl rfl rfl (CallW.own (r' := .agg [.sl 3 0 v8.Sectors.length, .sl 4 0 v8.Cache.length]) (H' := [some ⟨[.lst false 1 (fl (encS false) x0.Sectors) x0.Sectors.length, .lst false 2 (fl (enc_TWrite false) x0.Cache) x0.Cache.length], 0⟩, some ⟨[.int .i64 x1.Stamp, .int .i64 x1.NextGen, .int .i64 x1.NextSeq, .int .i64 x1.NextValid, .lst false 2 (fl (enc_TRef false) x1.Refs) x1.Refs.length], 0⟩, some ⟨[.nils, .nils], 0⟩, some ⟨fl (encS true) v8.Sectors, 1⟩, some ⟨fl (enc_TWrite true) v8.Cache, 2⟩]) ok_impl_cloneDisk (law_impl_cloneDisk e8) (.cons (DFL.agg (.cons (.lst ekS) (.cons (.lst ek_TWrite) .nil))) .nil) (ek_TDisk.own _) rfl ?_)
   refine rl.run 2 rfl (rl.done (RW.ret ?_))
   cases h14
   exact RRet.mk rfl (OutT.tup (.cons (OutL.agg (.cons (OutR.ownq ekS rfl rfl) rfl (.cons (OutR.ownq ek_TWrite rfl rfl) rfl .nil))) (.cons .bool .nil))) (by first | decide | simp)
theorem law_impl_CheckOf {x0 : TLog} {r : TCheck} (hF : F_impl_CheckOf x0 = some r) : PCalls Tryz.prog 37 [.agg (enc_TLog false x0)] (.agg (enc_TCheck true r)) := by
 refine PCalls.of_r k_impl_CheckOf rfl ?_
 unfold F_impl_CheckOf at hF
 refine RW.sreg (rl.run 2 rfl (rl.done (RW.sreg (rl.run 12 rfl (rl.done ?_)))))
 refine RW.keep [1, 2, 3] (a' := [(1, .ptr 0 0), (2, .ptr 1 0), (3, .ptr 2 0)]) (H' := [some ⟨[.lst false 1 (fl (encS false) x0.Disk.Sectors) x0.Disk.Sectors.length, .lst false 2 (fl (enc_TWrite false) x0.Disk.Cache) x0.Disk.Cache.length, .int .i64 x0.Segs, .lst false 4 (fl (enc_TSeg false) x0.Used) x0.Used.length, .int .i64 x0.NextGen, .int .i64 x0.NextSeq, .int .i64 x0.Stamp, .int .i64 x0.NextValid], 0⟩, some ⟨[.int .i64 0, .int .i64 0, .int .i64 0, .int .i64 0, .nils], 0⟩, some ⟨[.int .i64 (w64 (x0.Stamp + 1)), .int .i64 x0.NextGen, .int .i64 x0.NextSeq, .int .i64 x0.NextValid, .nils], 0⟩]) rfl rfl ?_
 refine RW.seq (RW.sreg (rl.run 4 rfl (rl.done ?_)))
 refine RW.gh (Gh.nil_c 2 4 2 rfl rfl) ?_
 obtain ⟨y5, ey5, h2⟩ := bindS hF
 refine RW.cutq (σ := (List TRef)) (fun y2 => [(2, .ptr 0 0), (3, .ptr 1 0)]) (fun y2 => [some ⟨[.int .i64 0, .int .i64 0, .int .i64 0, .int .i64 0, .nils], 0⟩, some ⟨[.int .i64 (w64 (x0.Stamp + 1)), .int .i64 x0.NextGen, .int .i64 x0.NextSeq, .int .i64 x0.NextValid, .sl 2 0 y2.length], 0⟩, some ⟨fl (enc_TRef true) y2, 2⟩]) (fun y => y5 = y) (fun _ _ _ _ g h => RW.gh g h) ?_ ?_
 ·refine RW.blk ?_
  refine RW.iter (σ := Int × (List TRef)) ey5 (fun s1 => [(2, .ptr 0 0), (3, .ptr 1 0), (17, .lst false 4 (fl (enc_TSeg false) x0.Used) x0.Used.length), (18, .int .i64 (x0.Used.length : Int)), (19, .int .i64 s1.1)]) (fun s1 => [some ⟨[.int .i64 0, .int .i64 0, .int .i64 0, .int .i64 0, .nils], 0⟩, some ⟨[.int .i64 (w64 (x0.Stamp + 1)), .int .i64 x0.NextGen, .int .i64 x0.NextSeq, .int .i64 x0.NextValid, .sl 2 0 s1.2.length], 0⟩, some ⟨fl (enc_TRef true) s1.2, 2⟩]) (Gh.ren0 [1, 2, 3] (.cells rfl rfl (.keep .int (.keep .int (.keep .int (.keep .int (.keep .nils .nil))))) (.cells rfl rfl (.keep .int (.keep .int (.keep .int (.keep .int (.slq rfl rfl .nil))))) (.same rfl (ek_TRef.fref _ _) .nil))) rfl (.cons rfl (.ptr rfl) (.cons rfl (.ptr rfl) (.cons rfl (.dat (ek_TSeg.rlst)) (.cons rfl (.dat .int) (.cons rfl (.dat .int) .nil)))))) (fun s1 B o hS1 hB1 hE1 => ?_)
  unfold S_impl_CheckOf_1 at hS1
  refine RW.sreg ?_
  refine rl.gen rfl rfl fun b hb => ?_
  cases b
  ·have h3 := iteBF hS1 hb
   refine rl.done (RW.seq (RW.cond_f rfl (RW.exit (blkA_eq ?_))))
   cases h3
   exact ⟨_, (hE1 _ rfl).symm, (Gh.ren0 [0, 1, 2] (.cells rfl rfl (.keep .int (.keep .int (.keep .int (.keep .int (.keep .nils .nil))))) (.cells rfl rfl (.keep .int (.keep .int (.keep .int (.keep .int (.slq rfl rfl .nil))))) (.same rfl (ek_TRef.fref _ _) .nil))) rfl (.cons rfl (.ptr rfl) (.cons rfl (.ptr rfl) .nil)))⟩
  ·have h4 := iteBT hS1 hb
   refine rl.done (RW.seq (RW.cond_t rfl (RW.skip (RW.seq (RW.blk (RW.sreg ?_))))))
   obtain ⟨v3, e3, h5⟩ := bindS h4
   refine rl.op (x_ia_lst (enc := enc_TSeg) (o := false) rfl rfl rfl e3) ?_
   refine rl.op (x_ld_ela (off' := 0) (vs := (enc_TSeg false v3)) ek_TSeg rfl e3 rfl rfl rfl) ?_
   refine rl.run 2 rfl (rl.done (RW.reg (rl.run 8 rfl ?_)))
   obtain ⟨v4, e4, h6⟩ := bindS h5
   refine rl.op (x_app rfl rfl (rapp_sl (l := s1.2) (m := [({ No := v3.No, Gen := v3.Gen } : TRef)]) (o := true) ek_TRef rfl rfl (acont_slq (m := [({ No := v3.No, Gen := v3.Gen } : TRef)]) (o := true) fk_TRef rfl rfl) rfl (fk_TRef.fst _ _) e4)) ?_
   refine rl.run 2 rfl (rl.done (RW.reg (rl.run 2 rfl (rl.done ?_))))
   cases h6
   exact hB1 _ rfl _ _ (Gh.ren0 [0, 1, 5] (.cells rfl rfl (.keep .int (.keep .int (.keep .int (.keep .int (.keep .nils .nil))))) (.cells rfl rfl (.keep .int (.keep .int (.keep .int (.keep .int (.slq rfl rfl .nil))))) (.same rfl (ek_TRef.fref _ _) .nil))) rfl (.cons rfl (.ptr rfl) (.cons rfl (.ptr rfl) (.cons rfl (.dat (ek_TSeg.rlst)) (.cons rfl (.dat .int) (.cons rfl (.dat .int) .nil))))))
 ·intro y2 hC
  subst hC
  refine RW.sreg (rl.run 2 rfl (rl.done (RW.ret ?_)))
  cases h2
  exact RRet.mk rfl (OutL.agg (.cons .int rfl (.cons .int rfl (.cons .int rfl (.cons .int rfl (.cons (OutR.ownq ek_TRef rfl rfl) rfl .nil)))))) (by first | decide | simp)
theorem law_impl_FormatDisk {x0 : Int} {r : TLog × Bool} (hF : F_impl_FormatDisk x0 = some r) : PCalls Tryz.prog 8 [.int .i64 x0] (.tup [.agg (enc_TLog true r.1), .bool r.2]) := by
 refine PCalls.of_r k_impl_FormatDisk rfl ?_
 unfold F_impl_FormatDisk at hF
 refine RW.sreg (rl.run 2 rfl (rl.done (RW.seq (RW.sreg (rl.run 1 rfl ?_)))))
 obtain ⟨v1, e1, h1⟩ := bindS hF
 refine rl.call rfl rfl rfl (CallW.val (r' := .bool v1) ok_impl_in (law_impl_in e1) (.cons .int (.cons .int (.cons .int .nil))) .refl ?_)
 cases hb : v1
 ·have h2 := iteBF h1 hb
  refine rl.run 1 rfl (rl.done (RW.cond_t rfl (RW.sreg (rl.run 3 rfl (rl.done (RW.ret ?_))))))
  cases h2
  exact RRet.mk rfl (OutT.tup (.cons (OutL.agg (.cons (OutR.nil (enc := encS)) rfl (.cons (OutR.nil (enc := enc_TWrite)) rfl (.cons .int rfl (.cons (OutR.nil (enc := enc_TSeg)) rfl (.cons .int rfl (.cons .int rfl (.cons .int rfl (.cons .int rfl .nil))))))))) (.cons .bool .nil))) (by first | decide | simp)
 ·have h3 := iteBT h1 hb
  refine rl.run 1 rfl (rl.done (RW.cond_f rfl (RW.skip (RW.sreg (rl.run 3 rfl ?_)))))
  obtain ⟨v2, e2, h4⟩ := bindS h3
  refine rl.call rfl rfl rfl (CallW.val (r' := .tup [.agg (enc_TDisk false v2.1), .bool v2.2]) ok_impl_DiskNew (law_impl_DiskNew e2) (.cons .int .nil) (FlL.tup (.cons (ek_TDisk.flag _).agg (.cons .refl .nil))) ?_)
  refine rl.run 6 rfl (rl.done ?_)
  refine RW.keep [0, 2, 4] (a' := [(0, .int .i64 x0), (2, .ptr 0 0), (4, .ptr 1 0)]) (H' := [some ⟨[.nils, .nils, .int .i64 0, .nils, .int .i64 0, .int .i64 0, .int .i64 0, .int .i64 0], 0⟩, some ⟨[.lst false 1 (fl (encS false) v2.1.Sectors) v2.1.Sectors.length, .lst false 2 (fl (enc_TWrite false) v2.1.Cache) v2.1.Cache.length], 0⟩]) rfl rfl ?_
  refine RW.sreg (rl.run 3 rfl ?_)
  obtain ⟨v3, e3, h5⟩ := bindS h4
  refine rl.call rfl rfl rfl (CallW.own (r' := .tup [.agg [.sl 2 0 v3.1.Disk.Sectors.length, .sl 3 0 v3.1.Disk.Cache.length, .int .i64 v3.1.Segs, .sl 4 0 v3.1.Used.length, .int .i64 v3.1.NextGen, .int .i64 v3.1.NextSeq, .int .i64 v3.1.Stamp, .int .i64 v3.1.NextValid], .bool v3.2]) (H' := [some ⟨[.nils, .nils, .int .i64 0, .nils, .int .i64 0, .int .i64 0, .int .i64 0, .int .i64 0], 0⟩, some ⟨[.lst false 1 (fl (encS false) v2.1.Sectors) v2.1.Sectors.length, .lst false 2 (fl (enc_TWrite false) v2.1.Cache) v2.1.Cache.length], 0⟩, some ⟨fl (encS true) v3.1.Disk.Sectors, 1⟩, some ⟨fl (enc_TWrite true) v3.1.Disk.Cache, 2⟩, some ⟨fl (enc_TSeg true) v3.1.Used, 4⟩]) ok_impl_openSeg (law_impl_openSeg e3) (.cons (DFL.agg (.cons (.lst ekS) (.cons (.lst ek_TWrite) (.cons .int (.cons (.nils (enc := enc_TSeg)) (.cons .int (.cons .int (.cons .int (.cons .int .nil))))))))) (.cons .int .nil)) (fac (ek_TLog.own _) (fac .bool fan)) rfl ?_)
  refine rl.run 6 rfl (rl.done ?_)
  refine RW.sdrwF [⟨[.nils, .nils], 0⟩] ?_
  refine rdraw.op rfl rfl (rdraw.op rfl rfl (rdraw.op rfl rfl ?_))
  obtain ⟨v4, e4, h6⟩ := bindS h5
  refine rdraw.call rfl rfl rfl (CallW.val (r' := .agg (enc_TCheck false v4)) ok_impl_CheckOf (law_impl_CheckOf e4) (.cons (DFL.agg (.cons (.slq ekS rfl rfl) (.cons (.slq ek_TWrite rfl rfl) (.cons .int (.cons (.slq ek_TSeg rfl rfl) (.cons .int (.cons .int (.cons .int (.cons .int .nil))))))))) .nil) (ek_TCheck.flag _).agg ⟨rfl, ?_⟩)
  obtain ⟨v5, e5, h7⟩ := bindS h6
  refine rdraw.ccall rfl rfl rfl (CallW.own (r' := .tup [.agg [.sl 7 0 v5.1.Sectors.length, .sl 8 0 v5.1.Cache.length], .bool v5.2]) (H' := [some ⟨[.nils, .nils, .int .i64 0, .nils, .int .i64 0, .int .i64 0, .int .i64 0, .int .i64 0], 0⟩, some ⟨[.lst false 1 (fl (encS false) v2.1.Sectors) v2.1.Sectors.length, .lst false 2 (fl (enc_TWrite false) v2.1.Cache) v2.1.Cache.length], 0⟩, some ⟨fl (encS true) v3.1.Disk.Sectors, 1⟩, some ⟨fl (enc_TWrite true) v3.1.Disk.Cache, 2⟩, some ⟨fl (enc_TSeg true) v3.1.Used, 4⟩, some ⟨[.sl 2 0 v3.1.Disk.Sectors.length, .sl 3 0 v3.1.Disk.Cache.length, .int .i64 v3.1.Segs, .sl 4 0 v3.1.Used.length, .int .i64 v3.1.NextGen, .int .i64 v3.1.NextSeq, .int .i64 v3.1.Stamp, .int .i64 v3.1.NextValid], 0⟩, some ⟨[.nils, .nils], 0⟩, some ⟨fl (encS true) v5.1.Sectors, 1⟩, some ⟨fl (enc_TWrite true) v5.1.Cache, 2⟩]) ok_impl_WriteCheck (law_impl_WriteCheck e5) (.cons (DFL.agg (.cons (.slq ekS rfl rfl) (.cons (.slq ek_TWrite rfl rfl) .nil))) (.cons (.dat (.agg (ek_TCheck.dat false _))) .nil)) (fac (ek_TDisk.own _) (fac .bool fan)) rfl ?_)
  refine rdraw.op rfl rfl (rdraw.op rfl rfl (rdraw.op rfl rfl ?_))
  refine rdraw.flt rfl (.cons rfl .nil) ?_
  refine rdraw.chnB rfl rfl (.here (.rx rfl) (.skip rfl (.skip rfl (.skip rfl (.skip rfl (.skip rfl (.skip rfl .nil))))))) ?_
  refine rdraw.op rfl rfl (rdraw.done ?_)
  refine RW.keep [2, 6, 7, 8, 9] (a' := [(2, .ptr 0 0), (6, .ptr 5 0), (7, .bool v3.2), (8, .ptr 6 0), (9, .bool v5.2)]) (H' := [some ⟨[.nils, .nils, .int .i64 0, .nils, .int .i64 0, .int .i64 0, .int .i64 0, .int .i64 0], 0⟩, some ⟨[.lst false 1 (fl (encS false) v2.1.Sectors) v2.1.Sectors.length, .lst false 2 (fl (enc_TWrite false) v2.1.Cache) v2.1.Cache.length], 0⟩, some ⟨fl (encS true) v3.1.Disk.Sectors, 1⟩, some ⟨fl (enc_TWrite true) v3.1.Disk.Cache, 2⟩, some ⟨fl (enc_TSeg true) v3.1.Used, 4⟩, some ⟨[.sl 2 0 v3.1.Disk.Sectors.length, .sl 3 0 v3.1.Disk.Cache.length, .int .i64 v3.1.Segs, .sl 4 0 v3.1.Used.length, .int .i64 v3.1.NextGen, .int .i64 v3.1.NextSeq, .int .i64 v3.1.Stamp, .int .i64 v3.1.NextValid], 0⟩, some ⟨[.sl 7 0 v5.1.Sectors.length, .sl 8 0 v5.1.Cache.length], 0⟩, some ⟨fl (encS true) v5.1.Sectors, 1⟩, some ⟨fl (enc_TWrite true) v5.1.Cache, 2⟩]) rfl rfl ?_
  refine RW.seq (RW.sreg (rl.run 3 rfl ?_))
  cases hb : (!v3.2)
  ·have h8 := iteBF h7 hb
   refine rl.run 3 rfl (rl.done ?_)
   cases hb : (!v5.2)
   ·have h9 := iteBF h8 hb
    refine RW.cond_f rfl (RW.skip (RW.sreg (rl.run 3 rfl (rl.done ?_))))
    refine RW.keep [2, 6] (a' := [(2, .ptr 0 0), (6, .ptr 5 0)]) (H' := [some ⟨[.nils, .nils, .int .i64 0, .nils, .int .i64 0, .int .i64 0, .int .i64 0, .int .i64 0], 0⟩, some ⟨[.lst false 1 (fl (encS false) v2.1.Sectors) v2.1.Sectors.length, .lst false 2 (fl (enc_TWrite false) v2.1.Cache) v2.1.Cache.length], 0⟩, some ⟨fl (encS true) v3.1.Disk.Sectors, 1⟩, some ⟨fl (enc_TWrite true) v3.1.Disk.Cache, 2⟩, some ⟨fl (enc_TSeg true) v3.1.Used, 4⟩, some ⟨[.sl 7 0 v5.1.Sectors.length, .sl 8 0 v5.1.Cache.length, .int .i64 v3.1.Segs, .sl 4 0 v3.1.Used.length, .int .i64 v3.1.NextGen, .int .i64 v3.1.NextSeq, .int .i64 v3.1.Stamp, .int .i64 v3.1.NextValid], 0⟩, some ⟨[.sl 7 0 v5.1.Sectors.length, .sl 8 0 v5.1.Cache.length], 0⟩, some ⟨fl (encS true) v5.1.Sectors, 1⟩, some ⟨fl (enc_TWrite true) v5.1.Cache, 2⟩]) rfl rfl ?_
    refine RW.sreg (rl.run 2 rfl (rl.done (RW.sreg (rl.run 3 rfl (rl.done (RW.ret ?_))))))
    cases h9
    exact RRet.mk rfl (OutT.tup (.cons (OutL.agg (.cons (OutR.ownq ekS rfl rfl) rfl (.cons (OutR.ownq ek_TWrite rfl rfl) rfl (.cons .int rfl (.cons (OutR.ownq ek_TSeg rfl rfl) rfl (.cons .int rfl (.cons .int rfl (.cons .int rfl (.cons .int rfl .nil))))))))) (.cons .bool .nil))) (by first | decide | simp)
   ·have h10 := iteBT h8 hb
    refine RW.cond_t rfl (RW.sreg (rl.run 3 rfl (rl.done ?_)))
    refine RW.keep [2, 3] (a' := [(2, .ptr 0 0), (3, .bool false)]) (H' := [some ⟨[.nils, .nils, .int .i64 0, .nils, .int .i64 0, .int .i64 0, .int .i64 0, .int .i64 0], 0⟩, some ⟨[.lst false 1 (fl (encS false) v2.1.Sectors) v2.1.Sectors.length, .lst false 2 (fl (enc_TWrite false) v2.1.Cache) v2.1.Cache.length], 0⟩, some ⟨fl (encS true) v3.1.Disk.Sectors, 1⟩, some ⟨fl (enc_TWrite true) v3.1.Disk.Cache, 2⟩, some ⟨fl (enc_TSeg true) v3.1.Used, 4⟩, some ⟨[.sl 2 0 v3.1.Disk.Sectors.length, .sl 3 0 v3.1.Disk.Cache.length, .int .i64 v3.1.Segs, .sl 4 0 v3.1.Used.length, .int .i64 v3.1.NextGen, .int .i64 v3.1.NextSeq, .int .i64 v3.1.Stamp, .int .i64 v3.1.NextValid], 0⟩, some ⟨[.sl 7 0 v5.1.Sectors.length, .sl 8 0 v5.1.Cache.length], 0⟩, some ⟨fl (encS true) v5.1.Sectors, 1⟩, some ⟨fl (enc_TWrite true) v5.1.Cache, 2⟩]) rfl rfl ?_
    refine RW.ret ?_
    cases h10
    exact RRet.mk rfl (OutT.tup (.cons (OutL.agg (.cons (OutR.nil (enc := encS)) rfl (.cons (OutR.nil (enc := enc_TWrite)) rfl (.cons .int rfl (.cons (OutR.nil (enc := enc_TSeg)) rfl (.cons .int rfl (.cons .int rfl (.cons .int rfl (.cons .int rfl .nil))))))))) (.cons .bool .nil))) (by first | decide | simp)
  ·have h11 := iteBT h7 hb
   refine rl.run 3 rfl (rl.done (RW.cond_t rfl (RW.sreg (rl.run 3 rfl (rl.done ?_)))))
   refine RW.keep [2, 3] (a' := [(2, .ptr 0 0), (3, .bool false)]) (H' := [some ⟨[.nils, .nils, .int .i64 0, .nils, .int .i64 0, .int .i64 0, .int .i64 0, .int .i64 0], 0⟩, some ⟨[.lst false 1 (fl (encS false) v2.1.Sectors) v2.1.Sectors.length, .lst false 2 (fl (enc_TWrite false) v2.1.Cache) v2.1.Cache.length], 0⟩, some ⟨fl (encS true) v3.1.Disk.Sectors, 1⟩, some ⟨fl (enc_TWrite true) v3.1.Disk.Cache, 2⟩, some ⟨fl (enc_TSeg true) v3.1.Used, 4⟩, some ⟨[.sl 2 0 v3.1.Disk.Sectors.length, .sl 3 0 v3.1.Disk.Cache.length, .int .i64 v3.1.Segs, .sl 4 0 v3.1.Used.length, .int .i64 v3.1.NextGen, .int .i64 v3.1.NextSeq, .int .i64 v3.1.Stamp, .int .i64 v3.1.NextValid], 0⟩, some ⟨[.sl 7 0 v5.1.Sectors.length, .sl 8 0 v5.1.Cache.length], 0⟩, some ⟨fl (encS true) v5.1.Sectors, 1⟩, some ⟨fl (enc_TWrite true) v5.1.Cache, 2⟩]) rfl rfl ?_
   refine RW.ret ?_
   cases h11
   exact RRet.mk rfl (OutT.tup (.cons (OutL.agg (.cons (OutR.nil (enc := encS)) rfl (.cons (OutR.nil (enc := enc_TWrite)) rfl (.cons .int rfl (.cons (OutR.nil (enc := enc_TSeg)) rfl (.cons .int rfl (.cons .int rfl (.cons .int rfl (.cons .int rfl .nil))))))))) (.cons .bool .nil))) (by first | decide | simp)
theorem law_impl_StoreNew {x0 : Int} {r : TStore × Bool} (hF : F_impl_StoreNew x0 = some r) : PCalls Tryz.prog 13 [.int .i64 x0] (.tup [.agg (enc_TStore true r.1), .bool r.2]) := by
 refine PCalls.of_r k_impl_StoreNew rfl ?_
 unfold F_impl_StoreNew at hF
 refine RW.sreg (rl.run 2 rfl (rl.done (RW.sreg (rl.run 1 rfl ?_))))
 obtain ⟨v1, e1, h1⟩ := bindS hF
 refine rl.call rfl rfl rfl (CallW.own (r' := .tup [.agg [.sl 1 0 v1.1.Disk.Sectors.length, .sl 2 0 v1.1.Disk.Cache.length, .int .i64 v1.1.Segs, .sl 3 0 v1.1.Used.length, .int .i64 v1.1.NextGen, .int .i64 v1.1.NextSeq, .int .i64 v1.1.Stamp, .int .i64 v1.1.NextValid], .bool v1.2]) (H' := [some ⟨[.nils, .nils, .int .i64 0, .nils, .int .i64 0, .int .i64 0, .int .i64 0, .int .i64 0, .nils], 0⟩, some ⟨fl (encS true) v1.1.Disk.Sectors, 1⟩, some ⟨fl (enc_TWrite true) v1.1.Disk.Cache, 2⟩, some ⟨fl (enc_TSeg true) v1.1.Used, 4⟩]) ok_impl_FormatDisk (law_impl_FormatDisk e1) (.cons .int .nil) (fac (ek_TLog.own _) (fac .bool fan)) rfl ?_)
 refine rl.run 6 rfl (rl.done (RW.sreg (rl.run 5 rfl (rl.done ?_))))
 refine RW.keep [2, 3] (a' := [(2, .ptr 0 0), (3, .bool v1.2)]) (H' := [some ⟨[.sl 1 0 v1.1.Disk.Sectors.length, .sl 2 0 v1.1.Disk.Cache.length, .int .i64 v1.1.Segs, .sl 3 0 v1.1.Used.length, .int .i64 v1.1.NextGen, .int .i64 v1.1.NextSeq, .int .i64 v1.1.Stamp, .int .i64 v1.1.NextValid, .nils], 0⟩, some ⟨fl (encS true) v1.1.Disk.Sectors, 1⟩, some ⟨fl (enc_TWrite true) v1.1.Disk.Cache, 2⟩, some ⟨fl (enc_TSeg true) v1.1.Used, 4⟩, some ⟨[.sl 1 0 v1.1.Disk.Sectors.length, .sl 2 0 v1.1.Disk.Cache.length, .int .i64 v1.1.Segs, .sl 3 0 v1.1.Used.length, .int .i64 v1.1.NextGen, .int .i64 v1.1.NextSeq, .int .i64 v1.1.Stamp, .int .i64 v1.1.NextValid], 0⟩]) rfl rfl ?_
 refine RW.ret ?_
 cases h1
 exact RRet.mk rfl (OutT.tup (.cons (OutL.agg (.cons (OutR.ownq ekS rfl rfl) rfl (.cons (OutR.ownq ek_TWrite rfl rfl) rfl (.cons .int rfl (.cons (OutR.ownq ek_TSeg rfl rfl) rfl (.cons .int rfl (.cons .int rfl (.cons .int rfl (.cons .int rfl (.cons (OutR.nil (enc := encI)) rfl .nil)))))))))) (.cons .bool .nil))) (by first | decide | simp)
theorem law_laws_eqIntS {x0 : List Int} {x1 : List Int} {r : Bool} (hF : F_laws_eqIntS x0 x1 = some r) : PCalls Tryz.prog 44 [.lst false 1 (fl (encI false) x0) x0.length, .lst false 1 (fl (encI false) x1) x1.length] (.bool r) := by
 refine PCalls.of_r k_laws_eqIntS rfl ?_
 unfold F_laws_eqIntS at hF
 refine RW.sreg (rl.run 1 rfl (rl.done (RW.seq (RW.sreg (rl.run 4 rfl ?_)))))
 refine rl.gen rfl rfl fun b hb => ?_
 cases b
 ·have h1 := iteBF hF hb
  refine rl.done (RW.cond_f rfl (RW.skip (RW.seq (RW.sreg (rl.run 1 rfl (rl.done ?_))))))
  obtain ⟨y5, ey5, h3⟩ := bindS h1
  refine RW.cutq (σ := Unit) (fun y2 => []) (fun y2 => []) (fun y => y5 = .inr y) (fun _ _ _ _ g h => RW.gh g h) ?_ ?_
  ·refine RW.blk ?_
   refine RW.iter (σ := Int) ey5 (fun s1 => [(0, .lst false 1 (fl (encI false) x0) x0.length), (1, .lst false 1 (fl (encI false) x1) x1.length), (5, .int .i64 s1)]) (fun s1 => []) (Gh.ren0 [] .nil rfl (.cons rfl (.dat (ekI.rlst)) (.cons rfl (.dat (ekI.rlst)) (.cons rfl (.dat .int) .nil)))) (fun s1 B o hS2 hB2 hE2 => ?_)
   unfold S_laws_eqIntS_1 at hS2
   refine RW.seq (RW.sreg (rl.run 3 rfl ?_))
   refine rl.gen rfl rfl fun b hb => ?_
   cases b
   ·have h4 := iteBF hS2 hb
    refine rl.done (RW.cond_f rfl (RW.exit (blkA_eq ?_)))
    cases h4
    exact ⟨_, (hE2 _ rfl).symm, (Gh.ren0 [] .nil rfl .nil)⟩
   ·have h5 := iteBT hS2 hb
    refine rl.done (RW.cond_t rfl (RW.skip (RW.seq (RW.blk (RW.sdrw (rdraw.op rfl rfl (rdraw.op rfl rfl ?_)))))))
    obtain ⟨v3, e3, h6⟩ := bindS h5
    refine rdraw.op rfl (x_ia_lst (enc := encI) (o := false) rfl rfl rfl e3) ?_
    refine rdraw.op rfl (x_ld_el (off' := 0) ekI rfl e3 rfl rfl rfl) ?_
    refine rdraw.op rfl rfl (rdraw.op rfl rfl ?_)
    obtain ⟨v4, e4, h7⟩ := bindS h6
    refine rdraw.op rfl (x_ia_lst (enc := encI) (o := false) rfl rfl rfl e4) ?_
    refine rdraw.op rfl (x_ld_el (off' := 0) ekI rfl e4 rfl rfl rfl) ?_
    refine rdraw.gen rfl rfl fun b hb => ?_
    cases b
    ·have h8 := iteBF h7 hb
     refine rdraw.done ?_
     refine RW.keep [0, 1, 5, 25] (a' := [(0, .lst false 1 (fl (encI false) x0) x0.length), (1, .lst false 1 (fl (encI false) x1) x1.length), (5, .int .i64 s1), (25, .bool false)]) (H' := []) rfl rfl ?_
     refine RW.cond_f rfl (RW.skip (RW.reg (rl.run 3 rfl (rl.done ?_))))
     cases h8
     exact hB2 _ rfl _ _ (Gh.ren0 [] .nil rfl (.cons rfl (.dat (ekI.rlst)) (.cons rfl (.dat (ekI.rlst)) (.cons rfl (.dat .int) .nil))))
    ·have h9 := iteBT h7 hb
     refine rdraw.done ?_
     refine RW.keep [0, 1, 5, 25] (a' := [(0, .lst false 1 (fl (encI false) x0) x0.length), (1, .lst false 1 (fl (encI false) x1) x1.length), (5, .int .i64 s1), (25, .bool true)]) (H' := []) rfl rfl ?_
     refine RW.cond_t rfl (RW.sreg (rl.run 1 rfl (rl.done (RW.ret ?_))))
     cases h9
     have h10 := elimL h3 (hE2 _ rfl)
     cases h10
     exact RRet.mk rfl .bool (by first | decide | simp)
  ·intro y2 hC
   have h3 := elimR h3 hC
   refine RW.sreg (rl.run 1 rfl (rl.done (RW.ret ?_)))
   cases h3
   exact RRet.mk rfl .bool (by first | decide | simp)
 ·have h11 := iteBT hF hb
  refine rl.done (RW.cond_t rfl (RW.sreg (rl.run 1 rfl (rl.done (RW.ret ?_)))))
  cases h11
  exact RRet.mk rfl .bool (by first | decide | simp)
theorem law_laws_eqStringS {x0 : List (List UInt8)} {x1 : List (List UInt8)} {r : Bool} (hF : F_laws_eqStringS x0 x1 = some r) : PCalls Tryz.prog 82 [.lst false 1 (fl (encS false) x0) x0.length, .lst false 1 (fl (encS false) x1) x1.length] (.bool r) := by
 refine PCalls.of_r k_laws_eqStringS rfl ?_
 unfold F_laws_eqStringS at hF
 refine RW.sreg (rl.run 1 rfl (rl.done (RW.seq (RW.sreg (rl.run 4 rfl ?_)))))
 refine rl.gen rfl rfl fun b hb => ?_
 cases b
 ·have h1 := iteBF hF hb
  refine rl.done (RW.cond_f rfl (RW.skip (RW.seq (RW.sreg (rl.run 1 rfl (rl.done ?_))))))
  obtain ⟨y5, ey5, h3⟩ := bindS h1
  refine RW.cutq (σ := Unit) (fun y2 => []) (fun y2 => []) (fun y => y5 = .inr y) (fun _ _ _ _ g h => RW.gh g h) ?_ ?_
  ·refine RW.blk ?_
   refine RW.iter (σ := Int) ey5 (fun s1 => [(0, .lst false 1 (fl (encS false) x0) x0.length), (1, .lst false 1 (fl (encS false) x1) x1.length), (5, .int .i64 s1)]) (fun s1 => []) (Gh.ren0 [] .nil rfl (.cons rfl (.dat (ekS.rlst)) (.cons rfl (.dat (ekS.rlst)) (.cons rfl (.dat .int) .nil)))) (fun s1 B o hS2 hB2 hE2 => ?_)
   unfold S_laws_eqStringS_1 at hS2
   refine RW.seq (RW.sreg (rl.run 3 rfl ?_))
   refine rl.gen rfl rfl fun b hb => ?_
   cases b
   ·have h4 := iteBF hS2 hb
    refine rl.done (RW.cond_f rfl (RW.exit (blkA_eq ?_)))
    cases h4
    exact ⟨_, (hE2 _ rfl).symm, (Gh.ren0 [] .nil rfl .nil)⟩
   ·have h5 := iteBT hS2 hb
    refine rl.done (RW.cond_t rfl (RW.skip (RW.seq (RW.blk (RW.sdrw (rdraw.op rfl rfl (rdraw.op rfl rfl ?_)))))))
    obtain ⟨v3, e3, h6⟩ := bindS h5
    refine rdraw.op rfl (x_ia_lst (enc := encS) (o := false) rfl rfl rfl e3) ?_
    refine rdraw.op rfl (x_ld_el (off' := 0) ekS rfl e3 rfl rfl rfl) ?_
    refine rdraw.op rfl rfl (rdraw.op rfl rfl ?_)
    obtain ⟨v4, e4, h7⟩ := bindS h6
    refine rdraw.op rfl (x_ia_lst (enc := encS) (o := false) rfl rfl rfl e4) ?_
    refine rdraw.op rfl (x_ld_el (off' := 0) ekS rfl e4 rfl rfl rfl) ?_
    refine rdraw.gen rfl rfl fun b hb => ?_
    cases b
    ·have h8 := iteBF h7 hb
     refine rdraw.done ?_
     refine RW.keep [0, 1, 5, 25] (a' := [(0, .lst false 1 (fl (encS false) x0) x0.length), (1, .lst false 1 (fl (encS false) x1) x1.length), (5, .int .i64 s1), (25, .bool false)]) (H' := []) rfl rfl ?_
     refine RW.cond_f rfl (RW.skip (RW.reg (rl.run 3 rfl (rl.done ?_))))
     cases h8
     exact hB2 _ rfl _ _ (Gh.ren0 [] .nil rfl (.cons rfl (.dat (ekS.rlst)) (.cons rfl (.dat (ekS.rlst)) (.cons rfl (.dat .int) .nil))))
    ·have h9 := iteBT h7 hb
     refine rdraw.done ?_
     refine RW.keep [0, 1, 5, 25] (a' := [(0, .lst false 1 (fl (encS false) x0) x0.length), (1, .lst false 1 (fl (encS false) x1) x1.length), (5, .int .i64 s1), (25, .bool true)]) (H' := []) rfl rfl ?_
     refine RW.cond_t rfl (RW.sreg (rl.run 1 rfl (rl.done (RW.ret ?_))))
     cases h9
     have h10 := elimL h3 (hE2 _ rfl)
     cases h10
     exact RRet.mk rfl .bool (by first | decide | simp)
  ·intro y2 hC
   have h3 := elimR h3 hC
   refine RW.sreg (rl.run 1 rfl (rl.done (RW.ret ?_)))
   cases h3
   exact RRet.mk rfl .bool (by first | decide | simp)
 ·have h11 := iteBT hF hb
  refine rl.done (RW.cond_t rfl (RW.sreg (rl.run 1 rfl (rl.done (RW.ret ?_)))))
  cases h11
  exact RRet.mk rfl .bool (by first | decide | simp)
theorem law_laws_eqWrite {x0 : TWrite} {x1 : TWrite} {r : Bool} (hF : F_laws_eqWrite x0 x1 = some r) : PCalls Tryz.prog 148 [.agg (enc_TWrite false x0), .agg (enc_TWrite false x1)] (.bool r) := by
 refine PCalls.of_r k_laws_eqWrite rfl ?_
 unfold F_laws_eqWrite at hF
 refine RW.sreg (rl.run 3 rfl (rl.done (RW.seq (RW.sreg (rl.run 4 rfl ?_)))))
 refine rl.gen rfl rfl fun b hb => ?_
 cases b
 ·have h1 := iteBF hF hb
  refine rl.done (RW.cond_f rfl (RW.skip (RW.seq (RW.sreg (rl.run 4 rfl ?_)))))
  refine rl.gen rfl rfl fun b hb => ?_
  cases b
  ·have h2 := iteBF h1 hb
   refine rl.done ?_
   refine RW.keep [14] (a' := [(14, .bool false)]) (H' := [some ⟨[.int .i64 x0.At, .str x0.Text], 0⟩, some ⟨[.int .i64 x1.At, .str x1.Text], 0⟩]) rfl rfl ?_
   refine RW.cond_f rfl (RW.skip (RW.sreg (rl.run 1 rfl (rl.done (RW.ret ?_)))))
   cases h2
   exact RRet.mk rfl .bool (by first | decide | simp)
  ·have h3 := iteBT h1 hb
   refine rl.done ?_
   refine RW.keep [14] (a' := [(14, .bool true)]) (H' := [some ⟨[.int .i64 x0.At, .str x0.Text], 0⟩, some ⟨[.int .i64 x1.At, .str x1.Text], 0⟩]) rfl rfl ?_
   refine RW.cond_t rfl (RW.sreg (rl.run 1 rfl (rl.done (RW.ret ?_))))
   cases h3
   exact RRet.mk rfl .bool (by first | decide | simp)
 ·have h4 := iteBT hF hb
  refine rl.done (RW.cond_t rfl (RW.sreg (rl.run 1 rfl (rl.done (RW.ret ?_)))))
  cases h4
  exact RRet.mk rfl .bool (by first | decide | simp)
theorem law_laws_eqWriteS {x0 : List TWrite} {x1 : List TWrite} {r : Bool} (hF : F_laws_eqWriteS x0 x1 = some r) : PCalls Tryz.prog 83 [.lst false 2 (fl (enc_TWrite false) x0) x0.length, .lst false 2 (fl (enc_TWrite false) x1) x1.length] (.bool r) := by
 refine PCalls.of_r k_laws_eqWriteS rfl ?_
 unfold F_laws_eqWriteS at hF
 refine RW.sreg (rl.run 1 rfl (rl.done (RW.seq (RW.sreg (rl.run 4 rfl ?_)))))
 refine rl.gen rfl rfl fun b hb => ?_
 cases b
 ·have h1 := iteBF hF hb
  refine rl.done (RW.cond_f rfl (RW.skip (RW.seq (RW.sreg (rl.run 1 rfl (rl.done ?_))))))
  obtain ⟨y6, ey6, h3⟩ := bindS h1
  refine RW.cutq (σ := Unit) (fun y2 => []) (fun y2 => []) (fun y => y6 = .inr y) (fun _ _ _ _ g h => RW.gh g h) ?_ ?_
  ·refine RW.blk ?_
   refine RW.iter (σ := Int) ey6 (fun s1 => [(0, .lst false 2 (fl (enc_TWrite false) x0) x0.length), (1, .lst false 2 (fl (enc_TWrite false) x1) x1.length), (5, .int .i64 s1)]) (fun s1 => []) (Gh.ren0 [] .nil rfl (.cons rfl (.dat (ek_TWrite.rlst)) (.cons rfl (.dat (ek_TWrite.rlst)) (.cons rfl (.dat .int) .nil)))) (fun s1 B o hS2 hB2 hE2 => ?_)
   unfold S_laws_eqWriteS_1 at hS2
   refine RW.seq (RW.sreg (rl.run 3 rfl ?_))
   refine rl.gen rfl rfl fun b hb => ?_
   cases b
   ·have h4 := iteBF hS2 hb
    refine rl.done (RW.cond_f rfl (RW.exit (blkA_eq ?_)))
    cases h4
    exact ⟨_, (hE2 _ rfl).symm, (Gh.ren0 [] .nil rfl .nil)⟩
   ·have h5 := iteBT hS2 hb
    refine rl.done (RW.cond_t rfl (RW.skip (RW.seq (RW.blk (RW.sdrw (rdraw.op rfl rfl (rdraw.op rfl rfl ?_)))))))
    obtain ⟨v3, e3, h6⟩ := bindS h5
    refine rdraw.op rfl (x_ia_lst (enc := enc_TWrite) (o := false) rfl rfl rfl e3) ?_
    refine rdraw.op rfl (x_ld_ela (off' := 0) (vs := (enc_TWrite false v3)) ek_TWrite rfl e3 rfl rfl rfl) ?_
    refine rdraw.op rfl rfl (rdraw.op rfl rfl ?_)
    obtain ⟨v4, e4, h7⟩ := bindS h6
    refine rdraw.op rfl (x_ia_lst (enc := enc_TWrite) (o := false) rfl rfl rfl e4) ?_
    refine rdraw.op rfl (x_ld_ela (off' := 0) (vs := (enc_TWrite false v4)) ek_TWrite rfl e4 rfl rfl rfl) ?_
    obtain ⟨v5, e5, h8⟩ := bindS h7
    refine rdraw.call rfl rfl rfl (CallW.val (r' := .bool v5) ok_laws_eqWrite (law_laws_eqWrite e5) (.cons (.dat (.agg (ek_TWrite.dat false _))) (.cons (.dat (.agg (ek_TWrite.dat false _))) .nil)) .refl ⟨rfl, ?_⟩)
    cases hb : v5
    ·have h9 := iteBF h8 hb
     refine rdraw.op rfl rfl (rdraw.done ?_)
     refine RW.keep [0, 1, 5, 26] (a' := [(0, .lst false 2 (fl (enc_TWrite false) x0) x0.length), (1, .lst false 2 (fl (enc_TWrite false) x1) x1.length), (5, .int .i64 s1), (26, .bool true)]) (H' := []) rfl rfl ?_
     refine RW.cond_t rfl (RW.sreg (rl.run 1 rfl (rl.done (RW.ret ?_))))
     cases h9
     have h10 := elimL h3 (hE2 _ rfl)
     cases h10
     exact RRet.mk rfl .bool (by first | decide | simp)
    ·have h11 := iteBT h8 hb
     refine rdraw.op rfl rfl (rdraw.done ?_)
     refine RW.keep [0, 1, 5, 26] (a' := [(0, .lst false 2 (fl (enc_TWrite false) x0) x0.length), (1, .lst false 2 (fl (enc_TWrite false) x1) x1.length), (5, .int .i64 s1), (26, .bool false)]) (H' := []) rfl rfl ?_
     refine RW.cond_f rfl (RW.skip (RW.reg (rl.run 3 rfl (rl.done ?_))))
     cases h11
     exact hB2 _ rfl _ _ (Gh.ren0 [] .nil rfl (.cons rfl (.dat (ek_TWrite.rlst)) (.cons rfl (.dat (ek_TWrite.rlst)) (.cons rfl (.dat .int) .nil))))
  ·intro y2 hC
   have h3 := elimR h3 hC
   refine RW.sreg (rl.run 1 rfl (rl.done (RW.ret ?_)))
   cases h3
   exact RRet.mk rfl .bool (by first | decide | simp)
 ·have h12 := iteBT hF hb
  refine rl.done (RW.cond_t rfl (RW.sreg (rl.run 1 rfl (rl.done (RW.ret ?_)))))
  cases h12
  exact RRet.mk rfl .bool (by first | decide | simp)
theorem law_laws_eqDisk {x0 : TDisk} {x1 : TDisk} {r : Bool} (hF : F_laws_eqDisk x0 x1 = some r) : PCalls Tryz.prog 38 [.agg (enc_TDisk false x0), .agg (enc_TDisk false x1)] (.bool r) := by
 refine PCalls.of_r k_laws_eqDisk rfl ?_
 unfold F_laws_eqDisk at hF
 refine RW.sreg (rl.run 3 rfl (rl.done (RW.seq (RW.sreg (rl.run 4 rfl ?_)))))
 obtain ⟨v1, e1, h1⟩ := bindS hF
 refine rl.call rfl rfl rfl (CallW.val (r' := .bool v1) ok_laws_eqStringS (law_laws_eqStringS e1) (.cons (.lst ekS) (.cons (.lst ekS) .nil)) .refl ?_)
 cases hb : v1
 ·have h2 := iteBF h1 hb
  refine rl.run 1 rfl (rl.done (RW.cond_t rfl (RW.sreg (rl.run 1 rfl (rl.done (RW.ret ?_))))))
  cases h2
  exact RRet.mk rfl .bool (by first | decide | simp)
 ·have h3 := iteBT h1 hb
  refine rl.run 1 rfl (rl.done (RW.cond_f rfl (RW.skip (RW.seq (RW.sreg (rl.run 4 rfl ?_))))))
  obtain ⟨v2, e2, h4⟩ := bindS h3
  refine rl.call rfl rfl rfl (CallW.val (r' := .bool v2) ok_laws_eqWriteS (law_laws_eqWriteS e2) (.cons (.lst ek_TWrite) (.cons (.lst ek_TWrite) .nil)) .refl ?_)
  cases hb : v2
  ·have h5 := iteBF h4 hb
   refine rl.run 1 rfl (rl.done ?_)
   refine RW.keep [16] (a' := [(16, .bool true)]) (H' := [some ⟨[.lst false 1 (fl (encS false) x0.Sectors) x0.Sectors.length, .lst false 2 (fl (enc_TWrite false) x0.Cache) x0.Cache.length], 0⟩, some ⟨[.lst false 1 (fl (encS false) x1.Sectors) x1.Sectors.length, .lst false 2 (fl (enc_TWrite false) x1.Cache) x1.Cache.length], 0⟩]) rfl rfl ?_
   refine RW.cond_t rfl (RW.sreg (rl.run 1 rfl (rl.done (RW.ret ?_))))
   cases h5
   exact RRet.mk rfl .bool (by first | decide | simp)
  ·have h6 := iteBT h4 hb
   refine rl.run 1 rfl (rl.done ?_)
   refine RW.keep [16] (a' := [(16, .bool false)]) (H' := [some ⟨[.lst false 1 (fl (encS false) x0.Sectors) x0.Sectors.length, .lst false 2 (fl (enc_TWrite false) x0.Cache) x0.Cache.length], 0⟩, some ⟨[.lst false 1 (fl (encS false) x1.Sectors) x1.Sectors.length, .lst false 2 (fl (enc_TWrite false) x1.Cache) x1.Cache.length], 0⟩]) rfl rfl ?_
   refine RW.cond_f rfl (RW.skip (RW.sreg (rl.run 1 rfl (rl.done (RW.ret ?_)))))
   cases h6
   exact RRet.mk rfl .bool (by first | decide | simp)
set_option maxHeartbeats 2000000 in
theorem law_laws_eqRec {x0 : TRec} {x1 : TRec} {r : Bool} (hF : F_laws_eqRec x0 x1 = some r) : PCalls Tryz.prog 213 [.agg (enc_TRec false x0), .agg (enc_TRec false x1)] (.bool r) := by
 refine PCalls.of_r k_laws_eqRec rfl ?_
 unfold F_laws_eqRec at hF
 refine RW.sreg (rl.run 3 rfl (rl.done (RW.seq (RW.sreg (rl.run 4 rfl ?_)))))
 refine rl.gen rfl rfl fun b hb => ?_
 cases b
 ·have h1 := iteBF hF hb
  refine rl.done (RW.cond_f rfl (RW.skip (RW.seq (RW.sreg (rl.run 4 rfl ?_)))))
  refine rl.gen rfl rfl fun b hb => ?_
  cases b
  ·have h2 := iteBF h1 hb
   refine rl.done ?_
   refine RW.keep [2, 3, 14] (a' := [(2, .ptr 0 0), (3, .ptr 1 0), (14, .bool false)]) (H' := [some ⟨[.int .i64 x0.Kind, .int .i64 x0.Valid, .int .i64 x0.Uid, .int .i64 x0.Next, .int .i64 x0.Flags, .str x0.User, .str x0.Name, .str x0.Text], 0⟩, some ⟨[.int .i64 x1.Kind, .int .i64 x1.Valid, .int .i64 x1.Uid, .int .i64 x1.Next, .int .i64 x1.Flags, .str x1.User, .str x1.Name, .str x1.Text], 0⟩]) rfl rfl ?_
   refine RW.cond_f rfl (RW.skip (RW.seq (RW.sreg (rl.run 4 rfl ?_))))
   refine rl.gen rfl rfl fun b hb => ?_
   cases b
   ·have h3 := iteBF h2 hb
    refine rl.done (RW.cond_f rfl (RW.skip (RW.seq (RW.sreg (rl.run 4 rfl ?_)))))
    refine rl.gen rfl rfl fun b hb => ?_
    cases b
    ·have h4 := iteBF h3 hb
     refine rl.done (RW.cond_f rfl (RW.skip (RW.seq (RW.sreg (rl.run 4 rfl ?_)))))
     refine rl.gen rfl rfl fun b hb => ?_
     cases b
     ·have h5 := iteBF h4 hb
      refine rl.done ?_
      refine RW.keep [2, 3, 29] (a' := [(2, .ptr 0 0), (3, .ptr 1 0), (29, .bool false)]) (H' := [some ⟨[.int .i64 x0.Kind, .int .i64 x0.Valid, .int .i64 x0.Uid, .int .i64 x0.Next, .int .i64 x0.Flags, .str x0.User, .str x0.Name, .str x0.Text], 0⟩, some ⟨[.int .i64 x1.Kind, .int .i64 x1.Valid, .int .i64 x1.Uid, .int .i64 x1.Next, .int .i64 x1.Flags, .str x1.User, .str x1.Name, .str x1.Text], 0⟩]) rfl rfl ?_
      refine RW.cond_f rfl (RW.skip (RW.seq (RW.sreg (rl.run 4 rfl ?_))))
      refine rl.gen rfl rfl fun b hb => ?_
      cases b
      ·have h6 := iteBF h5 hb
       refine rl.done (RW.cond_f rfl (RW.skip (RW.seq (RW.sreg (rl.run 4 rfl ?_)))))
       refine rl.gen rfl rfl fun b hb => ?_
       cases b
       ·have h7 := iteBF h6 hb
        refine rl.done (RW.cond_f rfl (RW.skip (RW.seq (RW.sreg (rl.run 4 rfl ?_)))))
        refine rl.gen rfl rfl fun b hb => ?_
        cases b
        ·have h8 := iteBF h7 hb
         refine rl.done ?_
         refine RW.keep [44] (a' := [(44, .bool false)]) (H' := [some ⟨[.int .i64 x0.Kind, .int .i64 x0.Valid, .int .i64 x0.Uid, .int .i64 x0.Next, .int .i64 x0.Flags, .str x0.User, .str x0.Name, .str x0.Text], 0⟩, some ⟨[.int .i64 x1.Kind, .int .i64 x1.Valid, .int .i64 x1.Uid, .int .i64 x1.Next, .int .i64 x1.Flags, .str x1.User, .str x1.Name, .str x1.Text], 0⟩]) rfl rfl ?_
         refine RW.cond_f rfl (RW.skip (RW.sreg (rl.run 1 rfl (rl.done (RW.ret ?_)))))
         cases h8
         exact RRet.mk rfl .bool (by first | decide | simp)
        ·have h9 := iteBT h7 hb
         refine rl.done ?_
         refine RW.keep [44] (a' := [(44, .bool true)]) (H' := [some ⟨[.int .i64 x0.Kind, .int .i64 x0.Valid, .int .i64 x0.Uid, .int .i64 x0.Next, .int .i64 x0.Flags, .str x0.User, .str x0.Name, .str x0.Text], 0⟩, some ⟨[.int .i64 x1.Kind, .int .i64 x1.Valid, .int .i64 x1.Uid, .int .i64 x1.Next, .int .i64 x1.Flags, .str x1.User, .str x1.Name, .str x1.Text], 0⟩]) rfl rfl ?_
         refine RW.cond_t rfl (RW.sreg (rl.run 1 rfl (rl.done (RW.ret ?_))))
         cases h9
         exact RRet.mk rfl .bool (by first | decide | simp)
       ·have h10 := iteBT h6 hb
        refine rl.done (RW.cond_t rfl (RW.sreg (rl.run 1 rfl (rl.done ?_))))
        refine RW.keep [4] (a' := [(4, .bool false)]) (H' := [some ⟨[.int .i64 x0.Kind, .int .i64 x0.Valid, .int .i64 x0.Uid, .int .i64 x0.Next, .int .i64 x0.Flags, .str x0.User, .str x0.Name, .str x0.Text], 0⟩, some ⟨[.int .i64 x1.Kind, .int .i64 x1.Valid, .int .i64 x1.Uid, .int .i64 x1.Next, .int .i64 x1.Flags, .str x1.User, .str x1.Name, .str x1.Text], 0⟩]) rfl rfl ?_
        refine RW.ret ?_
        cases h10
        exact RRet.mk rfl .bool (by first | decide | simp)
      ·have h11 := iteBT h5 hb
       refine rl.done (RW.cond_t rfl (RW.sreg (rl.run 1 rfl (rl.done (RW.ret ?_)))))
       cases h11
       exact RRet.mk rfl .bool (by first | decide | simp)
     ·have h12 := iteBT h4 hb
      refine rl.done ?_
      refine RW.keep [2, 3, 29] (a' := [(2, .ptr 0 0), (3, .ptr 1 0), (29, .bool true)]) (H' := [some ⟨[.int .i64 x0.Kind, .int .i64 x0.Valid, .int .i64 x0.Uid, .int .i64 x0.Next, .int .i64 x0.Flags, .str x0.User, .str x0.Name, .str x0.Text], 0⟩, some ⟨[.int .i64 x1.Kind, .int .i64 x1.Valid, .int .i64 x1.Uid, .int .i64 x1.Next, .int .i64 x1.Flags, .str x1.User, .str x1.Name, .str x1.Text], 0⟩]) rfl rfl ?_
      refine RW.cond_t rfl (RW.sreg (rl.run 1 rfl (rl.done (RW.ret ?_))))
      cases h12
      exact RRet.mk rfl .bool (by first | decide | simp)
    ·have h13 := iteBT h3 hb
     refine rl.done (RW.cond_t rfl (RW.sreg (rl.run 1 rfl (rl.done ?_))))
     refine RW.keep [4] (a' := [(4, .bool false)]) (H' := [some ⟨[.int .i64 x0.Kind, .int .i64 x0.Valid, .int .i64 x0.Uid, .int .i64 x0.Next, .int .i64 x0.Flags, .str x0.User, .str x0.Name, .str x0.Text], 0⟩, some ⟨[.int .i64 x1.Kind, .int .i64 x1.Valid, .int .i64 x1.Uid, .int .i64 x1.Next, .int .i64 x1.Flags, .str x1.User, .str x1.Name, .str x1.Text], 0⟩]) rfl rfl ?_
     refine RW.ret ?_
     cases h13
     exact RRet.mk rfl .bool (by first | decide | simp)
   ·have h14 := iteBT h2 hb
    refine rl.done (RW.cond_t rfl (RW.sreg (rl.run 1 rfl (rl.done (RW.ret ?_)))))
    cases h14
    exact RRet.mk rfl .bool (by first | decide | simp)
  ·have h15 := iteBT h1 hb
   refine rl.done ?_
   refine RW.keep [2, 3, 14] (a' := [(2, .ptr 0 0), (3, .ptr 1 0), (14, .bool true)]) (H' := [some ⟨[.int .i64 x0.Kind, .int .i64 x0.Valid, .int .i64 x0.Uid, .int .i64 x0.Next, .int .i64 x0.Flags, .str x0.User, .str x0.Name, .str x0.Text], 0⟩, some ⟨[.int .i64 x1.Kind, .int .i64 x1.Valid, .int .i64 x1.Uid, .int .i64 x1.Next, .int .i64 x1.Flags, .str x1.User, .str x1.Name, .str x1.Text], 0⟩]) rfl rfl ?_
   refine RW.cond_t rfl (RW.sreg (rl.run 1 rfl (rl.done (RW.ret ?_))))
   cases h15
   exact RRet.mk rfl .bool (by first | decide | simp)
 ·have h16 := iteBT hF hb
  refine rl.done (RW.cond_t rfl (RW.sreg (rl.run 1 rfl (rl.done (RW.ret ?_)))))
  cases h16
  exact RRet.mk rfl .bool (by first | decide | simp)
theorem law_laws_eqItem {x0 : TItem} {x1 : TItem} {r : Bool} (hF : F_laws_eqItem x0 x1 = some r) : PCalls Tryz.prog 192 [.agg (enc_TItem false x0), .agg (enc_TItem false x1)] (.bool r) := by
 refine PCalls.of_r k_laws_eqItem rfl ?_
 unfold F_laws_eqItem at hF
 refine RW.sreg (rl.run 3 rfl (rl.done (RW.seq (RW.sreg (rl.run 4 rfl ?_)))))
 refine rl.gen rfl rfl fun b hb => ?_
 cases b
 ·have h1 := iteBF hF hb
  refine rl.done (RW.cond_f rfl (RW.skip (RW.seq (RW.sreg (rl.run 4 rfl ?_)))))
  obtain ⟨v1, e1, h2⟩ := bindS h1
  refine rl.call rfl rfl rfl (CallW.val (r' := .bool v1) ok_laws_eqRec (law_laws_eqRec e1) (.cons (DFL.agg (.cons .int (.cons .int (.cons .int (.cons .int (.cons .int (.cons .str (.cons .str (.cons .str .nil))))))))) (.cons (DFL.agg (.cons .int (.cons .int (.cons .int (.cons .int (.cons .int (.cons .str (.cons .str (.cons .str .nil))))))))) .nil)) .refl ?_)
  cases hb : v1
  ·have h3 := iteBF h2 hb
   refine rl.run 1 rfl (rl.done ?_)
   refine RW.keep [15] (a' := [(15, .bool true)]) (H' := [some ⟨[.int .i64 x0.Seq, .int .i64 x0.Rec.Kind, .int .i64 x0.Rec.Valid, .int .i64 x0.Rec.Uid, .int .i64 x0.Rec.Next, .int .i64 x0.Rec.Flags, .str x0.Rec.User, .str x0.Rec.Name, .str x0.Rec.Text], 0⟩, some ⟨[.int .i64 x1.Seq, .int .i64 x1.Rec.Kind, .int .i64 x1.Rec.Valid, .int .i64 x1.Rec.Uid, .int .i64 x1.Rec.Next, .int .i64 x1.Rec.Flags, .str x1.Rec.User, .str x1.Rec.Name, .str x1.Rec.Text], 0⟩]) rfl rfl ?_
   refine RW.cond_t rfl (RW.sreg (rl.run 1 rfl (rl.done (RW.ret ?_))))
   cases h3
   exact RRet.mk rfl .bool (by first | decide | simp)
  ·have h4 := iteBT h2 hb
   refine rl.run 1 rfl (rl.done ?_)
   refine RW.keep [15] (a' := [(15, .bool false)]) (H' := [some ⟨[.int .i64 x0.Seq, .int .i64 x0.Rec.Kind, .int .i64 x0.Rec.Valid, .int .i64 x0.Rec.Uid, .int .i64 x0.Rec.Next, .int .i64 x0.Rec.Flags, .str x0.Rec.User, .str x0.Rec.Name, .str x0.Rec.Text], 0⟩, some ⟨[.int .i64 x1.Seq, .int .i64 x1.Rec.Kind, .int .i64 x1.Rec.Valid, .int .i64 x1.Rec.Uid, .int .i64 x1.Rec.Next, .int .i64 x1.Rec.Flags, .str x1.Rec.User, .str x1.Rec.Name, .str x1.Rec.Text], 0⟩]) rfl rfl ?_
   refine RW.cond_f rfl (RW.skip (RW.sreg (rl.run 1 rfl (rl.done (RW.ret ?_)))))
   cases h4
   exact RRet.mk rfl .bool (by first | decide | simp)
 ·have h5 := iteBT hF hb
  refine rl.done (RW.cond_t rfl (RW.sreg (rl.run 1 rfl (rl.done (RW.ret ?_)))))
  cases h5
  exact RRet.mk rfl .bool (by first | decide | simp)
theorem law_laws_eqItemS {x0 : List TItem} {x1 : List TItem} {r : Bool} (hF : F_laws_eqItemS x0 x1 = some r) : PCalls Tryz.prog 149 [.lst false 9 (fl (enc_TItem false) x0) x0.length, .lst false 9 (fl (enc_TItem false) x1) x1.length] (.bool r) := by
 refine PCalls.of_r k_laws_eqItemS rfl ?_
 unfold F_laws_eqItemS at hF
 refine RW.sreg (rl.run 1 rfl (rl.done (RW.seq (RW.sreg (rl.run 4 rfl ?_)))))
 refine rl.gen rfl rfl fun b hb => ?_
 cases b
 ·have h1 := iteBF hF hb
  refine rl.done (RW.cond_f rfl (RW.skip (RW.seq (RW.sreg (rl.run 1 rfl (rl.done ?_))))))
  obtain ⟨y6, ey6, h3⟩ := bindS h1
  refine RW.cutq (σ := Unit) (fun y2 => []) (fun y2 => []) (fun y => y6 = .inr y) (fun _ _ _ _ g h => RW.gh g h) ?_ ?_
  ·refine RW.blk ?_
   refine RW.iter (σ := Int) ey6 (fun s1 => [(0, .lst false 9 (fl (enc_TItem false) x0) x0.length), (1, .lst false 9 (fl (enc_TItem false) x1) x1.length), (5, .int .i64 s1)]) (fun s1 => []) (Gh.ren0 [] .nil rfl (.cons rfl (.dat (ek_TItem.rlst)) (.cons rfl (.dat (ek_TItem.rlst)) (.cons rfl (.dat .int) .nil)))) (fun s1 B o hS2 hB2 hE2 => ?_)
   unfold S_laws_eqItemS_1 at hS2
   refine RW.seq (RW.sreg (rl.run 3 rfl ?_))
   refine rl.gen rfl rfl fun b hb => ?_
   cases b
   ·have h4 := iteBF hS2 hb
    refine rl.done (RW.cond_f rfl (RW.exit (blkA_eq ?_)))
    cases h4
    exact ⟨_, (hE2 _ rfl).symm, (Gh.ren0 [] .nil rfl .nil)⟩
   ·have h5 := iteBT hS2 hb
    refine rl.done (RW.cond_t rfl (RW.skip (RW.seq (RW.blk (RW.sdrw (rdraw.op rfl rfl (rdraw.op rfl rfl ?_)))))))
    obtain ⟨v3, e3, h6⟩ := bindS h5
    refine rdraw.op rfl (x_ia_lst (enc := enc_TItem) (o := false) rfl rfl rfl e3) ?_
    refine rdraw.op rfl (x_ld_ela (off' := 0) (vs := (enc_TItem false v3)) ek_TItem rfl e3 rfl rfl rfl) ?_
    refine rdraw.op rfl rfl (rdraw.op rfl rfl ?_)
    obtain ⟨v4, e4, h7⟩ := bindS h6
    refine rdraw.op rfl (x_ia_lst (enc := enc_TItem) (o := false) rfl rfl rfl e4) ?_
    refine rdraw.op rfl (x_ld_ela (off' := 0) (vs := (enc_TItem false v4)) ek_TItem rfl e4 rfl rfl rfl) ?_
    obtain ⟨v5, e5, h8⟩ := bindS h7
    refine rdraw.call rfl rfl rfl (CallW.val (r' := .bool v5) ok_laws_eqItem (law_laws_eqItem e5) (.cons (.dat (.agg (ek_TItem.dat false _))) (.cons (.dat (.agg (ek_TItem.dat false _))) .nil)) .refl ⟨rfl, ?_⟩)
    cases hb : v5
    ·have h9 := iteBF h8 hb
     refine rdraw.op rfl rfl (rdraw.done ?_)
     refine RW.keep [0, 1, 5, 26] (a' := [(0, .lst false 9 (fl (enc_TItem false) x0) x0.length), (1, .lst false 9 (fl (enc_TItem false) x1) x1.length), (5, .int .i64 s1), (26, .bool true)]) (H' := []) rfl rfl ?_
     refine RW.cond_t rfl (RW.sreg (rl.run 1 rfl (rl.done (RW.ret ?_))))
     cases h9
     have h10 := elimL h3 (hE2 _ rfl)
     cases h10
     exact RRet.mk rfl .bool (by first | decide | simp)
    ·have h11 := iteBT h8 hb
     refine rdraw.op rfl rfl (rdraw.done ?_)
     refine RW.keep [0, 1, 5, 26] (a' := [(0, .lst false 9 (fl (enc_TItem false) x0) x0.length), (1, .lst false 9 (fl (enc_TItem false) x1) x1.length), (5, .int .i64 s1), (26, .bool false)]) (H' := []) rfl rfl ?_
     refine RW.cond_f rfl (RW.skip (RW.reg (rl.run 3 rfl (rl.done ?_))))
     cases h11
     exact hB2 _ rfl _ _ (Gh.ren0 [] .nil rfl (.cons rfl (.dat (ek_TItem.rlst)) (.cons rfl (.dat (ek_TItem.rlst)) (.cons rfl (.dat .int) .nil))))
  ·intro y2 hC
   have h3 := elimR h3 hC
   refine RW.sreg (rl.run 1 rfl (rl.done (RW.ret ?_)))
   cases h3
   exact RRet.mk rfl .bool (by first | decide | simp)
 ·have h12 := iteBT hF hb
  refine rl.done (RW.cond_t rfl (RW.sreg (rl.run 1 rfl (rl.done (RW.ret ?_)))))
  cases h12
  exact RRet.mk rfl .bool (by first | decide | simp)
theorem law_laws_eqSeg {x0 : TSeg} {x1 : TSeg} {r : Bool} (hF : F_laws_eqSeg x0 x1 = some r) : PCalls Tryz.prog 84 [.agg (enc_TSeg false x0), .agg (enc_TSeg false x1)] (.bool r) := by
 refine PCalls.of_r k_laws_eqSeg rfl ?_
 unfold F_laws_eqSeg at hF
 refine RW.sreg (rl.run 3 rfl (rl.done (RW.seq (RW.sreg (rl.run 4 rfl ?_)))))
 refine rl.gen rfl rfl fun b hb => ?_
 cases b
 ·have h1 := iteBF hF hb
  refine rl.done (RW.cond_f rfl (RW.skip (RW.seq (RW.sreg (rl.run 4 rfl ?_)))))
  refine rl.gen rfl rfl fun b hb => ?_
  cases b
  ·have h2 := iteBF h1 hb
   refine rl.done ?_
   refine RW.keep [2, 3, 14] (a' := [(2, .ptr 0 0), (3, .ptr 1 0), (14, .bool false)]) (H' := [some ⟨[.int .i64 x0.No, .int .i64 x0.Gen, .int .i64 x0.End, .lst false 9 (fl (enc_TItem false) x0.Items) x0.Items.length], 0⟩, some ⟨[.int .i64 x1.No, .int .i64 x1.Gen, .int .i64 x1.End, .lst false 9 (fl (enc_TItem false) x1.Items) x1.Items.length], 0⟩]) rfl rfl ?_
   refine RW.cond_f rfl (RW.skip (RW.seq (RW.sreg (rl.run 4 rfl ?_))))
   refine rl.gen rfl rfl fun b hb => ?_
   cases b
   ·have h3 := iteBF h2 hb
    refine rl.done (RW.cond_f rfl (RW.skip (RW.seq (RW.sreg (rl.run 4 rfl ?_)))))
    obtain ⟨v1, e1, h4⟩ := bindS h3
    refine rl.call rfl rfl rfl (CallW.val (r' := .bool v1) ok_laws_eqItemS (law_laws_eqItemS e1) (.cons (.lst ek_TItem) (.cons (.lst ek_TItem) .nil)) .refl ?_)
    cases hb : v1
    ·have h5 := iteBF h4 hb
     refine rl.run 1 rfl (rl.done ?_)
     refine RW.keep [25] (a' := [(25, .bool true)]) (H' := [some ⟨[.int .i64 x0.No, .int .i64 x0.Gen, .int .i64 x0.End, .lst false 9 (fl (enc_TItem false) x0.Items) x0.Items.length], 0⟩, some ⟨[.int .i64 x1.No, .int .i64 x1.Gen, .int .i64 x1.End, .lst false 9 (fl (enc_TItem false) x1.Items) x1.Items.length], 0⟩]) rfl rfl ?_
     refine RW.cond_t rfl (RW.sreg (rl.run 1 rfl (rl.done (RW.ret ?_))))
     cases h5
     exact RRet.mk rfl .bool (by first | decide | simp)
    ·have h6 := iteBT h4 hb
     refine rl.run 1 rfl (rl.done ?_)
     refine RW.keep [25] (a' := [(25, .bool false)]) (H' := [some ⟨[.int .i64 x0.No, .int .i64 x0.Gen, .int .i64 x0.End, .lst false 9 (fl (enc_TItem false) x0.Items) x0.Items.length], 0⟩, some ⟨[.int .i64 x1.No, .int .i64 x1.Gen, .int .i64 x1.End, .lst false 9 (fl (enc_TItem false) x1.Items) x1.Items.length], 0⟩]) rfl rfl ?_
     refine RW.cond_f rfl (RW.skip (RW.sreg (rl.run 1 rfl (rl.done (RW.ret ?_)))))
     cases h6
     exact RRet.mk rfl .bool (by first | decide | simp)
   ·have h7 := iteBT h2 hb
    refine rl.done (RW.cond_t rfl (RW.sreg (rl.run 1 rfl (rl.done (RW.ret ?_)))))
    cases h7
    exact RRet.mk rfl .bool (by first | decide | simp)
  ·have h8 := iteBT h1 hb
   refine rl.done ?_
   refine RW.keep [2, 3, 14] (a' := [(2, .ptr 0 0), (3, .ptr 1 0), (14, .bool true)]) (H' := [some ⟨[.int .i64 x0.No, .int .i64 x0.Gen, .int .i64 x0.End, .lst false 9 (fl (enc_TItem false) x0.Items) x0.Items.length], 0⟩, some ⟨[.int .i64 x1.No, .int .i64 x1.Gen, .int .i64 x1.End, .lst false 9 (fl (enc_TItem false) x1.Items) x1.Items.length], 0⟩]) rfl rfl ?_
   refine RW.cond_t rfl (RW.sreg (rl.run 1 rfl (rl.done (RW.ret ?_))))
   cases h8
   exact RRet.mk rfl .bool (by first | decide | simp)
 ·have h9 := iteBT hF hb
  refine rl.done (RW.cond_t rfl (RW.sreg (rl.run 1 rfl (rl.done (RW.ret ?_)))))
  cases h9
  exact RRet.mk rfl .bool (by first | decide | simp)
theorem law_laws_eqSegS {x0 : List TSeg} {x1 : List TSeg} {r : Bool} (hF : F_laws_eqSegS x0 x1 = some r) : PCalls Tryz.prog 39 [.lst false 4 (fl (enc_TSeg false) x0) x0.length, .lst false 4 (fl (enc_TSeg false) x1) x1.length] (.bool r) := by
 refine PCalls.of_r k_laws_eqSegS rfl ?_
 unfold F_laws_eqSegS at hF
 refine RW.sreg (rl.run 1 rfl (rl.done (RW.seq (RW.sreg (rl.run 4 rfl ?_)))))
 refine rl.gen rfl rfl fun b hb => ?_
 cases b
 ·have h1 := iteBF hF hb
  refine rl.done (RW.cond_f rfl (RW.skip (RW.seq (RW.sreg (rl.run 1 rfl (rl.done ?_))))))
  obtain ⟨y6, ey6, h3⟩ := bindS h1
  refine RW.cutq (σ := Unit) (fun y2 => []) (fun y2 => []) (fun y => y6 = .inr y) (fun _ _ _ _ g h => RW.gh g h) ?_ ?_
  ·refine RW.blk ?_
   refine RW.iter (σ := Int) ey6 (fun s1 => [(0, .lst false 4 (fl (enc_TSeg false) x0) x0.length), (1, .lst false 4 (fl (enc_TSeg false) x1) x1.length), (5, .int .i64 s1)]) (fun s1 => []) (Gh.ren0 [] .nil rfl (.cons rfl (.dat (ek_TSeg.rlst)) (.cons rfl (.dat (ek_TSeg.rlst)) (.cons rfl (.dat .int) .nil)))) (fun s1 B o hS2 hB2 hE2 => ?_)
   unfold S_laws_eqSegS_1 at hS2
   refine RW.seq (RW.sreg (rl.run 3 rfl ?_))
   refine rl.gen rfl rfl fun b hb => ?_
   cases b
   ·have h4 := iteBF hS2 hb
    refine rl.done (RW.cond_f rfl (RW.exit (blkA_eq ?_)))
    cases h4
    exact ⟨_, (hE2 _ rfl).symm, (Gh.ren0 [] .nil rfl .nil)⟩
   ·have h5 := iteBT hS2 hb
    refine rl.done (RW.cond_t rfl (RW.skip (RW.seq (RW.blk (RW.sdrw (rdraw.op rfl rfl (rdraw.op rfl rfl ?_)))))))
    obtain ⟨v3, e3, h6⟩ := bindS h5
    refine rdraw.op rfl (x_ia_lst (enc := enc_TSeg) (o := false) rfl rfl rfl e3) ?_
    refine rdraw.op rfl (x_ld_ela (off' := 0) (vs := (enc_TSeg false v3)) ek_TSeg rfl e3 rfl rfl rfl) ?_
    refine rdraw.op rfl rfl (rdraw.op rfl rfl ?_)
    obtain ⟨v4, e4, h7⟩ := bindS h6
    refine rdraw.op rfl (x_ia_lst (enc := enc_TSeg) (o := false) rfl rfl rfl e4) ?_
    refine rdraw.op rfl (x_ld_ela (off' := 0) (vs := (enc_TSeg false v4)) ek_TSeg rfl e4 rfl rfl rfl) ?_
    obtain ⟨v5, e5, h8⟩ := bindS h7
    refine rdraw.call rfl rfl rfl (CallW.val (r' := .bool v5) ok_laws_eqSeg (law_laws_eqSeg e5) (.cons (.dat (.agg (ek_TSeg.dat false _))) (.cons (.dat (.agg (ek_TSeg.dat false _))) .nil)) .refl ⟨rfl, ?_⟩)
    cases hb : v5
    ·have h9 := iteBF h8 hb
     refine rdraw.op rfl rfl (rdraw.done ?_)
     refine RW.keep [0, 1, 5, 26] (a' := [(0, .lst false 4 (fl (enc_TSeg false) x0) x0.length), (1, .lst false 4 (fl (enc_TSeg false) x1) x1.length), (5, .int .i64 s1), (26, .bool true)]) (H' := []) rfl rfl ?_
     refine RW.cond_t rfl (RW.sreg (rl.run 1 rfl (rl.done (RW.ret ?_))))
     cases h9
     have h10 := elimL h3 (hE2 _ rfl)
     cases h10
     exact RRet.mk rfl .bool (by first | decide | simp)
    ·have h11 := iteBT h8 hb
     refine rdraw.op rfl rfl (rdraw.done ?_)
     refine RW.keep [0, 1, 5, 26] (a' := [(0, .lst false 4 (fl (enc_TSeg false) x0) x0.length), (1, .lst false 4 (fl (enc_TSeg false) x1) x1.length), (5, .int .i64 s1), (26, .bool false)]) (H' := []) rfl rfl ?_
     refine RW.cond_f rfl (RW.skip (RW.reg (rl.run 3 rfl (rl.done ?_))))
     cases h11
     exact hB2 _ rfl _ _ (Gh.ren0 [] .nil rfl (.cons rfl (.dat (ek_TSeg.rlst)) (.cons rfl (.dat (ek_TSeg.rlst)) (.cons rfl (.dat .int) .nil))))
  ·intro y2 hC
   have h3 := elimR h3 hC
   refine RW.sreg (rl.run 1 rfl (rl.done (RW.ret ?_)))
   cases h3
   exact RRet.mk rfl .bool (by first | decide | simp)
 ·have h12 := iteBT hF hb
  refine rl.done (RW.cond_t rfl (RW.sreg (rl.run 1 rfl (rl.done (RW.ret ?_)))))
  cases h12
  exact RRet.mk rfl .bool (by first | decide | simp)
set_option maxHeartbeats 2000000 in
theorem law_laws_eqLog {x0 : TLog} {x1 : TLog} {r : Bool} (hF : F_laws_eqLog x0 x1 = some r) : PCalls Tryz.prog 9 [.agg (enc_TLog false x0), .agg (enc_TLog false x1)] (.bool r) := by
 refine PCalls.of_r k_laws_eqLog rfl ?_
 unfold F_laws_eqLog at hF
 refine RW.sreg (rl.run 3 rfl (rl.done (RW.seq (RW.sreg (rl.run 4 rfl ?_)))))
 obtain ⟨v1, e1, h1⟩ := bindS hF
 refine rl.call rfl rfl rfl (CallW.val (r' := .bool v1) ok_laws_eqDisk (law_laws_eqDisk e1) (.cons (DFL.agg (.cons (.lst ekS) (.cons (.lst ek_TWrite) .nil))) (.cons (DFL.agg (.cons (.lst ekS) (.cons (.lst ek_TWrite) .nil))) .nil)) .refl ?_)
 cases hb : v1
 ·have h2 := iteBF h1 hb
  refine rl.run 1 rfl (rl.done (RW.cond_t rfl (RW.sreg (rl.run 1 rfl (rl.done (RW.ret ?_))))))
  cases h2
  exact RRet.mk rfl .bool (by first | decide | simp)
 ·have h3 := iteBT h1 hb
  refine rl.run 1 rfl (rl.done (RW.cond_f rfl (RW.skip (RW.seq (RW.sreg (rl.run 4 rfl ?_))))))
  refine rl.gen rfl rfl fun b hb => ?_
  cases b
  ·have h4 := iteBF h3 hb
   refine rl.done ?_
   refine RW.keep [2, 3, 15] (a' := [(2, .ptr 0 0), (3, .ptr 1 0), (15, .bool false)]) (H' := [some ⟨[.lst false 1 (fl (encS false) x0.Disk.Sectors) x0.Disk.Sectors.length, .lst false 2 (fl (enc_TWrite false) x0.Disk.Cache) x0.Disk.Cache.length, .int .i64 x0.Segs, .lst false 4 (fl (enc_TSeg false) x0.Used) x0.Used.length, .int .i64 x0.NextGen, .int .i64 x0.NextSeq, .int .i64 x0.Stamp, .int .i64 x0.NextValid], 0⟩, some ⟨[.lst false 1 (fl (encS false) x1.Disk.Sectors) x1.Disk.Sectors.length, .lst false 2 (fl (enc_TWrite false) x1.Disk.Cache) x1.Disk.Cache.length, .int .i64 x1.Segs, .lst false 4 (fl (enc_TSeg false) x1.Used) x1.Used.length, .int .i64 x1.NextGen, .int .i64 x1.NextSeq, .int .i64 x1.Stamp, .int .i64 x1.NextValid], 0⟩]) rfl rfl ?_
   refine RW.cond_f rfl (RW.skip (RW.seq (RW.sreg (rl.run 4 rfl ?_))))
   obtain ⟨v2, e2, h5⟩ := bindS h4
   refine rl.call rfl rfl rfl (CallW.val (r' := .bool v2) ok_laws_eqSegS (law_laws_eqSegS e2) (.cons (.lst ek_TSeg) (.cons (.lst ek_TSeg) .nil)) .refl ?_)
   cases hb : v2
   ·have h6 := iteBF h5 hb
    refine rl.run 1 rfl (rl.done (RW.cond_t rfl (RW.sreg (rl.run 1 rfl (rl.done (RW.ret ?_))))))
    cases h6
    exact RRet.mk rfl .bool (by first | decide | simp)
   ·have h7 := iteBT h5 hb
    refine rl.run 1 rfl (rl.done (RW.cond_f rfl (RW.skip (RW.seq (RW.sreg (rl.run 4 rfl ?_))))))
    refine rl.gen rfl rfl fun b hb => ?_
    cases b
    ·have h8 := iteBF h7 hb
     refine rl.done ?_
     refine RW.keep [2, 3, 26] (a' := [(2, .ptr 0 0), (3, .ptr 1 0), (26, .bool false)]) (H' := [some ⟨[.lst false 1 (fl (encS false) x0.Disk.Sectors) x0.Disk.Sectors.length, .lst false 2 (fl (enc_TWrite false) x0.Disk.Cache) x0.Disk.Cache.length, .int .i64 x0.Segs, .lst false 4 (fl (enc_TSeg false) x0.Used) x0.Used.length, .int .i64 x0.NextGen, .int .i64 x0.NextSeq, .int .i64 x0.Stamp, .int .i64 x0.NextValid], 0⟩, some ⟨[.lst false 1 (fl (encS false) x1.Disk.Sectors) x1.Disk.Sectors.length, .lst false 2 (fl (enc_TWrite false) x1.Disk.Cache) x1.Disk.Cache.length, .int .i64 x1.Segs, .lst false 4 (fl (enc_TSeg false) x1.Used) x1.Used.length, .int .i64 x1.NextGen, .int .i64 x1.NextSeq, .int .i64 x1.Stamp, .int .i64 x1.NextValid], 0⟩]) rfl rfl ?_
     refine RW.cond_f rfl (RW.skip (RW.seq (RW.sreg (rl.run 4 rfl ?_))))
     refine rl.gen rfl rfl fun b hb => ?_
     cases b
     ·have h9 := iteBF h8 hb
      refine rl.done (RW.cond_f rfl (RW.skip (RW.seq (RW.sreg (rl.run 4 rfl ?_)))))
      refine rl.gen rfl rfl fun b hb => ?_
      cases b
      ·have h10 := iteBF h9 hb
       refine rl.done (RW.cond_f rfl (RW.skip (RW.seq (RW.sreg (rl.run 4 rfl ?_)))))
       refine rl.gen rfl rfl fun b hb => ?_
       cases b
       ·have h11 := iteBF h10 hb
        refine rl.done ?_
        refine RW.keep [41] (a' := [(41, .bool false)]) (H' := [some ⟨[.lst false 1 (fl (encS false) x0.Disk.Sectors) x0.Disk.Sectors.length, .lst false 2 (fl (enc_TWrite false) x0.Disk.Cache) x0.Disk.Cache.length, .int .i64 x0.Segs, .lst false 4 (fl (enc_TSeg false) x0.Used) x0.Used.length, .int .i64 x0.NextGen, .int .i64 x0.NextSeq, .int .i64 x0.Stamp, .int .i64 x0.NextValid], 0⟩, some ⟨[.lst false 1 (fl (encS false) x1.Disk.Sectors) x1.Disk.Sectors.length, .lst false 2 (fl (enc_TWrite false) x1.Disk.Cache) x1.Disk.Cache.length, .int .i64 x1.Segs, .lst false 4 (fl (enc_TSeg false) x1.Used) x1.Used.length, .int .i64 x1.NextGen, .int .i64 x1.NextSeq, .int .i64 x1.Stamp, .int .i64 x1.NextValid], 0⟩]) rfl rfl ?_
        refine RW.cond_f rfl (RW.skip (RW.sreg (rl.run 1 rfl (rl.done (RW.ret ?_)))))
        cases h11
        exact RRet.mk rfl .bool (by first | decide | simp)
       ·have h12 := iteBT h10 hb
        refine rl.done ?_
        refine RW.keep [41] (a' := [(41, .bool true)]) (H' := [some ⟨[.lst false 1 (fl (encS false) x0.Disk.Sectors) x0.Disk.Sectors.length, .lst false 2 (fl (enc_TWrite false) x0.Disk.Cache) x0.Disk.Cache.length, .int .i64 x0.Segs, .lst false 4 (fl (enc_TSeg false) x0.Used) x0.Used.length, .int .i64 x0.NextGen, .int .i64 x0.NextSeq, .int .i64 x0.Stamp, .int .i64 x0.NextValid], 0⟩, some ⟨[.lst false 1 (fl (encS false) x1.Disk.Sectors) x1.Disk.Sectors.length, .lst false 2 (fl (enc_TWrite false) x1.Disk.Cache) x1.Disk.Cache.length, .int .i64 x1.Segs, .lst false 4 (fl (enc_TSeg false) x1.Used) x1.Used.length, .int .i64 x1.NextGen, .int .i64 x1.NextSeq, .int .i64 x1.Stamp, .int .i64 x1.NextValid], 0⟩]) rfl rfl ?_
        refine RW.cond_t rfl (RW.sreg (rl.run 1 rfl (rl.done (RW.ret ?_))))
        cases h12
        exact RRet.mk rfl .bool (by first | decide | simp)
      ·have h13 := iteBT h9 hb
       refine rl.done (RW.cond_t rfl (RW.sreg (rl.run 1 rfl (rl.done ?_))))
       refine RW.keep [4] (a' := [(4, .bool false)]) (H' := [some ⟨[.lst false 1 (fl (encS false) x0.Disk.Sectors) x0.Disk.Sectors.length, .lst false 2 (fl (enc_TWrite false) x0.Disk.Cache) x0.Disk.Cache.length, .int .i64 x0.Segs, .lst false 4 (fl (enc_TSeg false) x0.Used) x0.Used.length, .int .i64 x0.NextGen, .int .i64 x0.NextSeq, .int .i64 x0.Stamp, .int .i64 x0.NextValid], 0⟩, some ⟨[.lst false 1 (fl (encS false) x1.Disk.Sectors) x1.Disk.Sectors.length, .lst false 2 (fl (enc_TWrite false) x1.Disk.Cache) x1.Disk.Cache.length, .int .i64 x1.Segs, .lst false 4 (fl (enc_TSeg false) x1.Used) x1.Used.length, .int .i64 x1.NextGen, .int .i64 x1.NextSeq, .int .i64 x1.Stamp, .int .i64 x1.NextValid], 0⟩]) rfl rfl ?_
       refine RW.ret ?_
       cases h13
       exact RRet.mk rfl .bool (by first | decide | simp)
     ·have h14 := iteBT h8 hb
      refine rl.done (RW.cond_t rfl (RW.sreg (rl.run 1 rfl (rl.done (RW.ret ?_)))))
      cases h14
      exact RRet.mk rfl .bool (by first | decide | simp)
    ·have h15 := iteBT h7 hb
     refine rl.done ?_
     refine RW.keep [2, 3, 26] (a' := [(2, .ptr 0 0), (3, .ptr 1 0), (26, .bool true)]) (H' := [some ⟨[.lst false 1 (fl (encS false) x0.Disk.Sectors) x0.Disk.Sectors.length, .lst false 2 (fl (enc_TWrite false) x0.Disk.Cache) x0.Disk.Cache.length, .int .i64 x0.Segs, .lst false 4 (fl (enc_TSeg false) x0.Used) x0.Used.length, .int .i64 x0.NextGen, .int .i64 x0.NextSeq, .int .i64 x0.Stamp, .int .i64 x0.NextValid], 0⟩, some ⟨[.lst false 1 (fl (encS false) x1.Disk.Sectors) x1.Disk.Sectors.length, .lst false 2 (fl (enc_TWrite false) x1.Disk.Cache) x1.Disk.Cache.length, .int .i64 x1.Segs, .lst false 4 (fl (enc_TSeg false) x1.Used) x1.Used.length, .int .i64 x1.NextGen, .int .i64 x1.NextSeq, .int .i64 x1.Stamp, .int .i64 x1.NextValid], 0⟩]) rfl rfl ?_
     refine RW.cond_t rfl (RW.sreg (rl.run 1 rfl (rl.done (RW.ret ?_))))
     cases h15
     exact RRet.mk rfl .bool (by first | decide | simp)
  ·have h16 := iteBT h3 hb
   refine rl.done ?_
   refine RW.keep [2, 3, 15] (a' := [(2, .ptr 0 0), (3, .ptr 1 0), (15, .bool true)]) (H' := [some ⟨[.lst false 1 (fl (encS false) x0.Disk.Sectors) x0.Disk.Sectors.length, .lst false 2 (fl (enc_TWrite false) x0.Disk.Cache) x0.Disk.Cache.length, .int .i64 x0.Segs, .lst false 4 (fl (enc_TSeg false) x0.Used) x0.Used.length, .int .i64 x0.NextGen, .int .i64 x0.NextSeq, .int .i64 x0.Stamp, .int .i64 x0.NextValid], 0⟩, some ⟨[.lst false 1 (fl (encS false) x1.Disk.Sectors) x1.Disk.Sectors.length, .lst false 2 (fl (enc_TWrite false) x1.Disk.Cache) x1.Disk.Cache.length, .int .i64 x1.Segs, .lst false 4 (fl (enc_TSeg false) x1.Used) x1.Used.length, .int .i64 x1.NextGen, .int .i64 x1.NextSeq, .int .i64 x1.Stamp, .int .i64 x1.NextValid], 0⟩]) rfl rfl ?_
   refine RW.cond_t rfl (RW.sreg (rl.run 1 rfl (rl.done (RW.ret ?_))))
   cases h16
   exact RRet.mk rfl .bool (by first | decide | simp)
theorem law_laws_eqStore {x0 : TStore} {x1 : TStore} {r : Bool} (hF : F_laws_eqStore x0 x1 = some r) : PCalls Tryz.prog 14 [.agg (enc_TStore false x0), .agg (enc_TStore false x1)] (.bool r) := by
 refine PCalls.of_r k_laws_eqStore rfl ?_
 unfold F_laws_eqStore at hF
 refine RW.sreg (rl.run 3 rfl (rl.done (RW.seq (RW.sreg (rl.run 4 rfl ?_)))))
 obtain ⟨v1, e1, h1⟩ := bindS hF
 refine rl.call rfl rfl rfl (CallW.val (r' := .bool v1) ok_laws_eqLog (law_laws_eqLog e1) (.cons (DFL.agg (.cons (.lst ekS) (.cons (.lst ek_TWrite) (.cons .int (.cons (.lst ek_TSeg) (.cons .int (.cons .int (.cons .int (.cons .int .nil))))))))) (.cons (DFL.agg (.cons (.lst ekS) (.cons (.lst ek_TWrite) (.cons .int (.cons (.lst ek_TSeg) (.cons .int (.cons .int (.cons .int (.cons .int .nil))))))))) .nil)) .refl ?_)
 cases hb : v1
 ·have h2 := iteBF h1 hb
  refine rl.run 1 rfl (rl.done (RW.cond_t rfl (RW.sreg (rl.run 1 rfl (rl.done (RW.ret ?_))))))
  cases h2
  exact RRet.mk rfl .bool (by first | decide | simp)
 ·have h3 := iteBT h1 hb
  refine rl.run 1 rfl (rl.done (RW.cond_f rfl (RW.skip (RW.seq (RW.sreg (rl.run 4 rfl ?_))))))
  obtain ⟨v2, e2, h4⟩ := bindS h3
  refine rl.call rfl rfl rfl (CallW.val (r' := .bool v2) ok_laws_eqIntS (law_laws_eqIntS e2) (.cons (.lst ekI) (.cons (.lst ekI) .nil)) .refl ?_)
  cases hb : v2
  ·have h5 := iteBF h4 hb
   refine rl.run 1 rfl (rl.done ?_)
   refine RW.keep [16] (a' := [(16, .bool true)]) (H' := [some ⟨[.lst false 1 (fl (encS false) x0.Log.Disk.Sectors) x0.Log.Disk.Sectors.length, .lst false 2 (fl (enc_TWrite false) x0.Log.Disk.Cache) x0.Log.Disk.Cache.length, .int .i64 x0.Log.Segs, .lst false 4 (fl (enc_TSeg false) x0.Log.Used) x0.Log.Used.length, .int .i64 x0.Log.NextGen, .int .i64 x0.Log.NextSeq, .int .i64 x0.Log.Stamp, .int .i64 x0.Log.NextValid, .lst false 1 (fl (encI false) x0.Freed) x0.Freed.length], 0⟩, some ⟨[.lst false 1 (fl (encS false) x1.Log.Disk.Sectors) x1.Log.Disk.Sectors.length, .lst false 2 (fl (enc_TWrite false) x1.Log.Disk.Cache) x1.Log.Disk.Cache.length, .int .i64 x1.Log.Segs, .lst false 4 (fl (enc_TSeg false) x1.Log.Used) x1.Log.Used.length, .int .i64 x1.Log.NextGen, .int .i64 x1.Log.NextSeq, .int .i64 x1.Log.Stamp, .int .i64 x1.Log.NextValid, .lst false 1 (fl (encI false) x1.Freed) x1.Freed.length], 0⟩]) rfl rfl ?_
   refine RW.cond_t rfl (RW.sreg (rl.run 1 rfl (rl.done (RW.ret ?_))))
   cases h5
   exact RRet.mk rfl .bool (by first | decide | simp)
  ·have h6 := iteBT h4 hb
   refine rl.run 1 rfl (rl.done ?_)
   refine RW.keep [16] (a' := [(16, .bool false)]) (H' := [some ⟨[.lst false 1 (fl (encS false) x0.Log.Disk.Sectors) x0.Log.Disk.Sectors.length, .lst false 2 (fl (enc_TWrite false) x0.Log.Disk.Cache) x0.Log.Disk.Cache.length, .int .i64 x0.Log.Segs, .lst false 4 (fl (enc_TSeg false) x0.Log.Used) x0.Log.Used.length, .int .i64 x0.Log.NextGen, .int .i64 x0.Log.NextSeq, .int .i64 x0.Log.Stamp, .int .i64 x0.Log.NextValid, .lst false 1 (fl (encI false) x0.Freed) x0.Freed.length], 0⟩, some ⟨[.lst false 1 (fl (encS false) x1.Log.Disk.Sectors) x1.Log.Disk.Sectors.length, .lst false 2 (fl (enc_TWrite false) x1.Log.Disk.Cache) x1.Log.Disk.Cache.length, .int .i64 x1.Log.Segs, .lst false 4 (fl (enc_TSeg false) x1.Log.Used) x1.Log.Used.length, .int .i64 x1.Log.NextGen, .int .i64 x1.Log.NextSeq, .int .i64 x1.Log.Stamp, .int .i64 x1.Log.NextValid, .lst false 1 (fl (encI false) x1.Freed) x1.Freed.length], 0⟩]) rfl rfl ?_
   refine RW.cond_f rfl (RW.skip (RW.sreg (rl.run 1 rfl (rl.done (RW.ret ?_)))))
   cases h6
   exact RRet.mk rfl .bool (by first | decide | simp)
theorem law_laws_markText {x0 : Int} {r : List UInt8} (hF : F_laws_markText x0 = some r) : PCalls Tryz.prog 107 [.int .i64 x0] (.str r) := by
 refine PCalls.of_r k_laws_markText rfl ?_
 unfold F_laws_markText at hF
 refine RW.sreg (rl.run 1 rfl (rl.done (RW.seq (RW.sreg (rl.run 1 rfl ?_)))))
 refine rl.gen rfl rfl fun b hb => ?_
 cases b
 ·have h1 := iteBF hF hb
  refine rl.done (RW.cond_f rfl (RW.skip (RW.sreg (rl.run 1 rfl (rl.done (RW.seq ?_))))))
  obtain ⟨y4, ey4, h3⟩ := bindS h1
  refine RW.cutq (σ := (List UInt8)) (fun y2 => [(3, .str y2)]) (fun y2 => []) (fun y => y4 = y) (fun _ _ _ _ g h => RW.gh g h) ?_ ?_
  ·refine RW.blk ?_
   refine RW.iter (σ := Int × (List UInt8)) ey4 (fun s1 => [(0, .int .i64 s1.1), (3, .str s1.2)]) (fun s1 => []) (Gh.ren0 [] .nil rfl (.cons rfl (.dat .int) (.cons rfl (.dat .str) .nil))) (fun s1 B o hS2 hB2 hE2 => ?_)
   unfold S_laws_markText_1 at hS2
   refine RW.seq (RW.sreg (rl.run 1 rfl ?_))
   refine rl.gen rfl rfl fun b hb => ?_
   cases b
   ·have h4 := iteBF hS2 hb
    refine rl.done (RW.cond_f rfl (RW.exit (blkA_eq ?_)))
    cases h4
    exact ⟨_, (hE2 _ rfl).symm, (Gh.ren0 [] .nil rfl (.cons rfl (.dat .str) .nil))⟩
   ·have h5 := iteBT hS2 hb
    refine rl.done (RW.cond_t rfl (RW.skip (RW.blk (RW.sreg (rl.run 5 rfl ?_)))))
    refine rl.op (x_cvb_sl (o := true) (l := [IntKind.u8.wrap (w64 (48 + (Int.tmod s1.1 10)))]) rfl rfl) ?_
    refine rl.run 1 rfl ?_
    obtain ⟨v3, e3, h6⟩ := bindS h5
    refine rl.op (x_cat rfl rfl e3) ?_
    refine rl.run 1 rfl (rl.done (RW.reg (rl.run 3 rfl (rl.done ?_))))
    cases h6
    exact hB2 _ rfl _ _ (Gh.ren0 [] .nil rfl (.cons rfl (.dat .int) (.cons rfl (.dat .str) .nil)))
  ·intro y2 hC
   subst hC
   refine RW.sreg (rl.run 1 rfl ?_)
   obtain ⟨v5, e5, h7⟩ := bindS h3
   refine rl.op (x_cat rfl rfl e5) ?_
   refine rl.run 1 rfl (rl.done (RW.ret ?_))
   cases h7
   exact RRet.mk rfl .str (by first | decide | simp)
 ·have h8 := iteBT hF hb
  refine rl.done (RW.cond_t rfl (RW.sreg (rl.run 1 rfl (rl.done (RW.ret ?_)))))
  cases h8
  exact RRet.mk rfl .str (by first | decide | simp)
theorem law_laws_markStringS_w {x0 : List (List UInt8)} {x1 : Int} {r : Int × (List (List UInt8))} (hF : F_laws_markStringS_w x0 x1 = some r) : ACalls Tryz.prog 0 85 [.sl 0 0 x0.length, .int .i64 x1] [some ⟨fl (encS true) x0, 1⟩] (.int .i64 r.1) [some ⟨fl (encS true) r.2, 1⟩] := by
 refine ACalls.of_s k_laws_markStringS rfl ?_
 unfold F_laws_markStringS_w at hF
 refine RW.sreg (rl.run 1 rfl (rl.done (RW.seq (RW.sreg (rl.run 1 rfl (rl.done ?_))))))
 obtain ⟨y6, ey6, h2⟩ := bindS hF
 refine RW.cutq (σ := Int × (List (List UInt8))) (fun y2 => [(1, .int .i64 y2.1)]) (fun y2 => [some ⟨fl (encS true) y2.2, 1⟩]) (fun y => y6 = y) (fun _ _ _ _ g h => RW.gh g h) ?_ ?_
 ·refine RW.blk ?_
  refine RW.iter (σ := Int × Int × (List (List UInt8))) ey6 (fun s1 => [(0, .sl 0 0 s1.2.2.length), (1, .int .i64 s1.1), (5, .int .i64 s1.2.1)]) (fun s1 => [some ⟨fl (encS true) s1.2.2, 1⟩]) (Gh.renN [0] (.same rfl (ekS.fref _ _) .nil) rfl rfl rfl (.cons rfl (.slq rfl rfl) (.cons rfl (.dat .int) (.cons rfl (.dat .int) .nil)))) (fun s1 B o hS1 hB1 hE1 => ?_)
  unfold S_laws_markStringS_w_1 at hS1
  refine RW.seq (RW.sreg (rl.run 3 rfl ?_))
  refine rl.gen rfl rfl fun b hb => ?_
  cases b
  ·have h3 := iteBF hS1 hb
   refine rl.done (RW.cond_f rfl (RW.exit (blkA_eq ?_)))
   cases h3
   exact ⟨_, (hE1 _ rfl).symm, (Gh.renN [0] (.same rfl (ekS.fref _ _) .nil) rfl rfl rfl (.cons rfl (.dat .int) .nil))⟩
  ·have h4 := iteBT hS1 hb
   refine rl.done (RW.cond_t rfl (RW.skip (RW.seq (RW.blk (RW.sreg (rl.run 3 rfl ?_))))))
   obtain ⟨v3, e3, h5⟩ := bindS h4
   refine rl.call rfl rfl rfl (CallW.val (r' := .str v3) ok_laws_markText (law_laws_markText e3) (.cons .int .nil) .refl ?_)
   obtain ⟨v4, e4, h6⟩ := bindS h5
   refine rl.op (x_ia_sl rfl rfl rfl rfl e4) ?_
   obtain ⟨v5, e5, h7⟩ := bindS h6
   refine rl.op0 (x_st_sl' (off' := 0) (o := true) (e' := v3) ekS e4 rfl rfl rfl rfl rfl rfl rfl rfl rfl e5) ?_
   refine rl.done (RW.reg (rl.run 3 rfl (rl.done (RW.reg (rl.run 3 rfl (rl.done ?_))))))
   cases h7
   exact hB1 _ rfl _ _ (Gh.renN [0] (.same rfl (ekS.fref _ _) .nil) rfl rfl rfl (.cons rfl (.slq rfl (set'_len e5)) (.cons rfl (.dat .int) (.cons rfl (.dat .int) .nil))))
 ·intro y2 hC
  subst hC
  refine RW.sreg (rl.run 2 rfl (rl.done (RW.ret ?_)))
  cases h2
  exact RRetS.mk rfl .int (Gh.renN [0] (.same rfl (ekS.fref _ _) .nil) rfl rfl rfl .nil)
theorem law_laws_markWriteS_w {x0 : List TWrite} {x1 : Int} {r : Int × (List TWrite)} (hF : F_laws_markWriteS_w x0 x1 = some r) : ACalls Tryz.prog 0 86 [.sl 0 0 x0.length, .int .i64 x1] [some ⟨fl (enc_TWrite true) x0, 2⟩] (.int .i64 r.1) [some ⟨fl (enc_TWrite true) r.2, 2⟩] := by
 refine ACalls.of_s k_laws_markWriteS rfl ?_
 unfold F_laws_markWriteS_w at hF
 refine RW.sreg (rl.run 1 rfl (rl.done (RW.seq (RW.sreg (rl.run 1 rfl (rl.done ?_))))))
 obtain ⟨y8, ey8, h2⟩ := bindS hF
 refine RW.cutq (σ := Int × (List TWrite)) (fun y2 => [(1, .int .i64 y2.1)]) (fun y2 => [some ⟨fl (enc_TWrite true) y2.2, 2⟩]) (fun y => y8 = y) (fun _ _ _ _ g h => RW.gh g h) ?_ ?_
 ·refine RW.blk ?_
  refine RW.iter (σ := Int × Int × (List TWrite)) ey8 (fun s1 => [(0, .sl 0 0 s1.2.2.length), (1, .int .i64 s1.1), (5, .int .i64 s1.2.1)]) (fun s1 => [some ⟨fl (enc_TWrite true) s1.2.2, 2⟩]) (Gh.renN [0] (.same rfl (ek_TWrite.fref _ _) .nil) rfl rfl rfl (.cons rfl (.slq rfl rfl) (.cons rfl (.dat .int) (.cons rfl (.dat .int) .nil)))) (fun s1 B o hS1 hB1 hE1 => ?_)
  unfold S_laws_markWriteS_w_1 at hS1
  refine RW.seq (RW.sreg (rl.run 3 rfl ?_))
  refine rl.gen rfl rfl fun b hb => ?_
  cases b
  ·have h3 := iteBF hS1 hb
   refine rl.done (RW.cond_f rfl (RW.exit (blkA_eq ?_)))
   cases h3
   exact ⟨_, (hE1 _ rfl).symm, (Gh.renN [0] (.same rfl (ek_TWrite.fref _ _) .nil) rfl rfl rfl (.cons rfl (.dat .int) .nil))⟩
  ·have h4 := iteBT hS1 hb
   refine rl.done (RW.cond_t rfl (RW.skip (RW.seq (RW.blk (RW.sreg (rl.run 3 rfl ?_))))))
   obtain ⟨v3, e3, h5⟩ := bindS h4
   refine rl.op (x_ia_sl rfl rfl rfl rfl e3) ?_
   refine rl.run 1 rfl ?_
   obtain ⟨v4, e4, h6⟩ := bindS h5
   refine rl.op0 (x_st_sl' (off' := 0) (o := true) (e' := ({ At := s1.1, Text := v3.Text } : TWrite)) ek_TWrite e3 rfl rfl rfl rfl rfl rfl rfl rfl rfl e4) ?_
   refine rl.done (RW.sreg (rl.run 3 rfl (rl.done ?_)))
   refine RW.keep [0, 1, 5] (a' := [(0, .sl 0 0 s1.2.2.length), (1, .int .i64 (w64 (s1.1 + 1))), (5, .int .i64 s1.2.1)]) (H' := [some ⟨fl (enc_TWrite true) v4, 2⟩]) rfl rfl ?_
   refine RW.sreg (rl.run 3 rfl ?_)
   obtain ⟨v5, e5, h7⟩ := bindS h6
   refine rl.call rfl rfl rfl (CallW.val (r' := .str v5) ok_laws_markText (law_laws_markText e5) (.cons .int .nil) .refl ?_)
   obtain ⟨v6, e6, h8⟩ := bindS h7
   refine rl.op (x_ia_sl rfl rfl rfl (set'_len e4) e6) ?_
   refine rl.run 1 rfl ?_
   obtain ⟨v7, e7, h9⟩ := bindS h8
   refine rl.op0 (x_st_sl' (off' := 1) (o := true) (e' := ({ At := v6.At, Text := v5 } : TWrite)) ek_TWrite e6 rfl rfl rfl rfl rfl rfl rfl rfl rfl e7) ?_
   refine rl.done (RW.reg (rl.run 3 rfl (rl.done (RW.reg (rl.run 3 rfl (rl.done ?_))))))
   cases h9
   exact hB1 _ rfl _ _ (Gh.renN [0] (.same rfl (ek_TWrite.fref _ _) .nil) rfl rfl rfl (.cons rfl (.slq rfl ((set'_len e4).trans (set'_len e7))) (.cons rfl (.dat .int) (.cons rfl (.dat .int) .nil))))
 ·intro y2 hC
  subst hC
  refine RW.sreg (rl.run 2 rfl (rl.done (RW.ret ?_)))
  cases h2
  exact RRetS.mk rfl .int (Gh.renN [0] (.same rfl (ek_TWrite.fref _ _) .nil) rfl rfl rfl .nil)
theorem law_laws_markDisk_w {x0 : List (List UInt8)} {x1 : List TWrite} {x2 : Int} {r : Int × (List (List UInt8)) × (List TWrite)} (hF : F_laws_markDisk_w x0 x1 x2 = some r) : ACalls Tryz.prog 0 40 [.agg [.sl 0 0 x0.length, .sl 1 0 x1.length], .int .i64 x2] [some ⟨fl (encS true) x0, 1⟩, some ⟨fl (enc_TWrite true) x1, 2⟩] (.int .i64 r.1) [some ⟨fl (encS true) r.2.1, 1⟩, some ⟨fl (enc_TWrite true) r.2.2, 2⟩] := by
 refine ACalls.of_s k_laws_markDisk rfl ?_
 unfold F_laws_markDisk_w at hF
 refine RW.sreg (rl.run 2 rfl (rl.done (RW.sreg (rl.run 3 rfl ?_))))
 obtain ⟨v1, e1, h1⟩ := bindS hF
 refine rl.call rfl rfl rfl (CallW.embW (r0 := .int .i64 v1.1) (H' := [some ⟨fl (encS true) v1.2, 1⟩, some ⟨fl (enc_TWrite true) x1, 2⟩, some ⟨[.sl 0 0 x0.length, .sl 1 0 x1.length], 0⟩]) [⟨fl (encS true) x0, 1⟩] [⟨fl (encS true) v1.2, 1⟩] [0] ok_laws_markStringS (law_laws_markStringS_w (guardO_s e1)) (.cons rfl (ekS.fref _ _) (ekS.fown _) .nil) rfl (.cons (.slq rfl rfl) (.cons (.dat .int) .nil)) .int rfl rfl ?_)
 refine rl.run 1 rfl (rl.done (RW.sreg (rl.run 3 rfl ?_)))
 obtain ⟨v2, e2, h2⟩ := bindS h1
 refine rl.call rfl rfl rfl (CallW.embW (r0 := .int .i64 v2.1) (H' := [some ⟨fl (encS true) v1.2, 1⟩, some ⟨fl (enc_TWrite true) v2.2, 2⟩, some ⟨[.sl 0 0 x0.length, .sl 1 0 x1.length], 0⟩]) [⟨fl (enc_TWrite true) x1, 2⟩] [⟨fl (enc_TWrite true) v2.2, 2⟩] [1] ok_laws_markWriteS (law_laws_markWriteS_w (guardO_s e2)) (.cons rfl (ek_TWrite.fref _ _) (ek_TWrite.fown _) .nil) rfl (.cons (.slq rfl rfl) (.cons (.dat .int) .nil)) .int rfl rfl ?_)
 refine rl.run 1 rfl (rl.done ?_)
 refine RW.keep [1] (a' := [(1, .int .i64 v2.1)]) (H' := [some ⟨fl (encS true) v1.2, 1⟩, some ⟨fl (enc_TWrite true) v2.2, 2⟩, some ⟨[.sl 0 0 x0.length, .sl 1 0 x1.length], 0⟩]) rfl rfl ?_
 refine RW.sreg (rl.run 2 rfl (rl.done (RW.ret ?_)))
 cases h2
 exact RRetS.mk rfl .int (Gh.renN [0, 1] (.same rfl (ekS.fref _ _) (.same rfl (ek_TWrite.fref _ _) .nil)) rfl rfl rfl .nil)
set_option maxHeartbeats 2000000 in
theorem law_laws_markItemS_w {x0 : List TItem} {x1 : Int} {r : Int × (List TItem)} (hF : F_laws_markItemS_w x0 x1 = some r) : ACalls Tryz.prog 0 87 [.sl 0 0 x0.length, .int .i64 x1] [some ⟨fl (enc_TItem true) x0, 9⟩] (.int .i64 r.1) [some ⟨fl (enc_TItem true) r.2, 9⟩] := by
 refine ACalls.of_s k_laws_markItemS rfl ?_
 unfold F_laws_markItemS_w at hF
 refine RW.sreg (rl.run 1 rfl (rl.done (RW.seq (RW.sreg (rl.run 1 rfl (rl.done ?_))))))
 obtain ⟨y24, ey24, h2⟩ := bindS hF
 refine RW.cutq (σ := Int × (List TItem)) (fun y2 => [(1, .int .i64 y2.1)]) (fun y2 => [some ⟨fl (enc_TItem true) y2.2, 9⟩]) (fun y => y24 = y) (fun _ _ _ _ g h => RW.gh g h) ?_ ?_
 ·refine RW.blk ?_
  refine RW.iter (σ := Int × Int × (List TItem)) ey24 (fun s1 => [(0, .sl 0 0 s1.2.2.length), (1, .int .i64 s1.1), (5, .int .i64 s1.2.1)]) (fun s1 => [some ⟨fl (enc_TItem true) s1.2.2, 9⟩]) (Gh.renN [0] (.same rfl (ek_TItem.fref _ _) .nil) rfl rfl rfl (.cons rfl (.slq rfl rfl) (.cons rfl (.dat .int) (.cons rfl (.dat .int) .nil)))) (fun s1 B o hS1 hB1 hE1 => ?_)
  unfold S_laws_markItemS_w_1 at hS1
  refine RW.seq (RW.sreg (rl.run 3 rfl ?_))
  refine rl.gen rfl rfl fun b hb => ?_
  cases b
  ·have h3 := iteBF hS1 hb
   refine rl.done (RW.cond_f rfl (RW.exit (blkA_eq ?_)))
   cases h3
   exact ⟨_, (hE1 _ rfl).symm, (Gh.renN [0] (.same rfl (ek_TItem.fref _ _) .nil) rfl rfl rfl (.cons rfl (.dat .int) .nil))⟩
  ·have h4 := iteBT hS1 hb
   refine rl.done (RW.cond_t rfl (RW.skip (RW.seq (RW.blk (RW.sreg (rl.run 3 rfl ?_))))))
   obtain ⟨v3, e3, h5⟩ := bindS h4
   refine rl.op (x_ia_sl rfl rfl rfl rfl e3) ?_
   refine rl.run 1 rfl ?_
   obtain ⟨v4, e4, h6⟩ := bindS h5
   refine rl.op0 (x_st_sl' (off' := 0) (o := true) (e' := ({ Seq := s1.1, Rec := v3.Rec } : TItem)) ek_TItem e3 rfl rfl rfl rfl rfl rfl rfl rfl rfl e4) ?_
   refine rl.done (RW.sreg (rl.run 3 rfl (rl.done ?_)))
   refine RW.keep [0, 1, 5] (a' := [(0, .sl 0 0 s1.2.2.length), (1, .int .i64 (w64 (s1.1 + 1))), (5, .int .i64 s1.2.1)]) (H' := [some ⟨fl (enc_TItem true) v4, 9⟩]) rfl rfl ?_
   refine RW.sreg (rl.run 3 rfl ?_)
   obtain ⟨v5, e5, h7⟩ := bindS h6
   refine rl.op (x_ia_sl rfl rfl rfl (set'_len e4) e5) ?_
   refine rl.run 2 rfl ?_
   obtain ⟨v6, e6, h8⟩ := bindS h7
   refine rl.op0 (x_st_sl' (off' := 1) (o := true) (e' := ({ Seq := v5.Seq, Rec := ({ Kind := w64 (s1.1 + 1), Valid := v5.Rec.Valid, Uid := v5.Rec.Uid, Next := v5.Rec.Next, Flags := v5.Rec.Flags, User := v5.Rec.User, Name := v5.Rec.Name, Text := v5.Rec.Text } : TRec) } : TItem)) ek_TItem e5 rfl rfl rfl rfl rfl rfl rfl rfl rfl e6) ?_
   refine rl.done (RW.sreg (rl.run 3 rfl (rl.done (RW.sreg (rl.run 3 rfl ?_)))))
   obtain ⟨v7, e7, h9⟩ := bindS h8
   refine rl.op (x_ia_sl rfl rfl rfl ((set'_len e4).trans (set'_len e6)) e7) ?_
   refine rl.run 2 rfl ?_
   obtain ⟨v8, e8, h10⟩ := bindS h9
   refine rl.op0 (x_st_sl' (off' := 2) (o := true) (e' := ({ Seq := v7.Seq, Rec := ({ Kind := v7.Rec.Kind, Valid := w64 ((w64 (s1.1 + 1)) + 1), Uid := v7.Rec.Uid, Next := v7.Rec.Next, Flags := v7.Rec.Flags, User := v7.Rec.User, Name := v7.Rec.Name, Text := v7.Rec.Text } : TRec) } : TItem)) ek_TItem e7 rfl rfl rfl rfl rfl rfl rfl rfl rfl e8) ?_
   refine rl.done ?_
   refine RW.keep [0, 1, 5] (a' := [(0, .sl 0 0 s1.2.2.length), (1, .int .i64 (w64 ((w64 (s1.1 + 1)) + 1))), (5, .int .i64 s1.2.1)]) (H' := [some ⟨fl (enc_TItem true) v8, 9⟩]) rfl rfl ?_
   refine RW.sreg (rl.run 3 rfl (rl.done (RW.sreg (rl.run 3 rfl ?_))))
   obtain ⟨v9, e9, h11⟩ := bindS h10
   refine rl.op (x_ia_sl rfl rfl rfl (((set'_len e4).trans (set'_len e6)).trans (set'_len e8)) e9) ?_
   refine rl.run 2 rfl ?_
   obtain ⟨v10, e10, h12⟩ := bindS h11
   refine rl.op0 (x_st_sl' (off' := 3) (o := true) (e' := ({ Seq := v9.Seq, Rec := ({ Kind := v9.Rec.Kind, Valid := v9.Rec.Valid, Uid := w64 ((w64 ((w64 (s1.1 + 1)) + 1)) + 1), Next := v9.Rec.Next, Flags := v9.Rec.Flags, User := v9.Rec.User, Name := v9.Rec.Name, Text := v9.Rec.Text } : TRec) } : TItem)) ek_TItem e9 rfl rfl rfl rfl rfl rfl rfl rfl rfl e10) ?_
   refine rl.done (RW.sreg (rl.run 3 rfl (rl.done (RW.sreg (rl.run 3 rfl ?_)))))
   obtain ⟨v11, e11, h13⟩ := bindS h12
   refine rl.op (x_ia_sl rfl rfl rfl ((((set'_len e4).trans (set'_len e6)).trans (set'_len e8)).trans (set'_len e10)) e11) ?_
   refine rl.run 2 rfl ?_
   obtain ⟨v12, e12, h14⟩ := bindS h13
   refine rl.op0 (x_st_sl' (off' := 4) (o := true) (e' := ({ Seq := v11.Seq, Rec := ({ Kind := v11.Rec.Kind, Valid := v11.Rec.Valid, Uid := v11.Rec.Uid, Next := w64 ((w64 ((w64 ((w64 (s1.1 + 1)) + 1)) + 1)) + 1), Flags := v11.Rec.Flags, User := v11.Rec.User, Name := v11.Rec.Name, Text := v11.Rec.Text } : TRec) } : TItem)) ek_TItem e11 rfl rfl rfl rfl rfl rfl rfl rfl rfl e12) ?_
   refine rl.done ?_
   refine RW.keep [0, 1, 5] (a' := [(0, .sl 0 0 s1.2.2.length), (1, .int .i64 (w64 ((w64 ((w64 ((w64 (s1.1 + 1)) + 1)) + 1)) + 1))), (5, .int .i64 s1.2.1)]) (H' := [some ⟨fl (enc_TItem true) v12, 9⟩]) rfl rfl ?_
   refine RW.sreg (rl.run 3 rfl (rl.done (RW.sreg (rl.run 3 rfl ?_))))
   obtain ⟨v13, e13, h15⟩ := bindS h14
   refine rl.op (x_ia_sl rfl rfl rfl (((((set'_len e4).trans (set'_len e6)).trans (set'_len e8)).trans (set'_len e10)).trans (set'_len e12)) e13) ?_
   refine rl.run 2 rfl ?_
   obtain ⟨v14, e14, h16⟩ := bindS h15
   refine rl.op0 (x_st_sl' (off' := 5) (o := true) (e' := ({ Seq := v13.Seq, Rec := ({ Kind := v13.Rec.Kind, Valid := v13.Rec.Valid, Uid := v13.Rec.Uid, Next := v13.Rec.Next, Flags := w64 ((w64 ((w64 ((w64 ((w64 (s1.1 + 1)) + 1)) + 1)) + 1)) + 1), User := v13.Rec.User, Name := v13.Rec.Name, Text := v13.Rec.Text } : TRec) } : TItem)) ek_TItem e13 rfl rfl rfl rfl rfl rfl rfl rfl rfl e14) ?_
   refine rl.done (RW.sreg (rl.run 3 rfl (rl.done (RW.sreg (rl.run 3 rfl ?_)))))
   obtain ⟨v15, e15, h17⟩ := bindS h16
   refine rl.call rfl rfl rfl (CallW.val (r' := .str v15) ok_laws_markText (law_laws_markText e15) (.cons .int .nil) .refl ?_)
   obtain ⟨v16, e16, h18⟩ := bindS h17
   refine rl.op (x_ia_sl rfl rfl rfl ((((((set'_len e4).trans (set'_len e6)).trans (set'_len e8)).trans (set'_len e10)).trans (set'_len e12)).trans (set'_len e14)) e16) ?_
   refine rl.run 2 rfl ?_
   obtain ⟨v17, e17, h19⟩ := bindS h18
   refine rl.op0 (x_st_sl' (off' := 6) (o := true) (e' := ({ Seq := v16.Seq, Rec := ({ Kind := v16.Rec.Kind, Valid := v16.Rec.Valid, Uid := v16.Rec.Uid, Next := v16.Rec.Next, Flags := v16.Rec.Flags, User := v15, Name := v16.Rec.Name, Text := v16.Rec.Text } : TRec) } : TItem)) ek_TItem e16 rfl rfl rfl rfl rfl rfl rfl rfl rfl e17) ?_
   refine rl.done ?_
   refine RW.keep [0, 1, 5] (a' := [(0, .sl 0 0 s1.2.2.length), (1, .int .i64 (w64 ((w64 ((w64 ((w64 ((w64 ((w64 (s1.1 + 1)) + 1)) + 1)) + 1)) + 1)) + 1))), (5, .int .i64 s1.2.1)]) (H' := [some ⟨fl (enc_TItem true) v17, 9⟩]) rfl rfl ?_
   refine RW.sreg (rl.run 3 rfl (rl.done (RW.sreg (rl.run 3 rfl ?_))))
   obtain ⟨v18, e18, h20⟩ := bindS h19
   refine rl.call rfl rfl rfl (CallW.val (r' := .str v18) ok_laws_markText (law_laws_markText e18) (.cons .int .nil) .refl ?_)
   obtain ⟨v19, e19, h21⟩ := bindS h20
   refine rl.op (x_ia_sl rfl rfl rfl (((((((set'_len e4).trans (set'_len e6)).trans (set'_len e8)).trans (set'_len e10)).trans (set'_len e12)).trans (set'_len e14)).trans (set'_len e17)) e19) ?_
   refine rl.run 2 rfl ?_
   obtain ⟨v20, e20, h22⟩ := bindS h21
   refine rl.op0 (x_st_sl' (off' := 7) (o := true) (e' := ({ Seq := v19.Seq, Rec := ({ Kind := v19.Rec.Kind, Valid := v19.Rec.Valid, Uid := v19.Rec.Uid, Next := v19.Rec.Next, Flags := v19.Rec.Flags, User := v19.Rec.User, Name := v18, Text := v19.Rec.Text } : TRec) } : TItem)) ek_TItem e19 rfl rfl rfl rfl rfl rfl rfl rfl rfl e20) ?_
   refine rl.done (RW.sreg (rl.run 3 rfl (rl.done ?_)))
   refine RW.keep [0, 1, 5] (a' := [(0, .sl 0 0 s1.2.2.length), (1, .int .i64 (w64 ((w64 ((w64 ((w64 ((w64 ((w64 ((w64 ((w64 (s1.1 + 1)) + 1)) + 1)) + 1)) + 1)) + 1)) + 1)) + 1))), (5, .int .i64 s1.2.1)]) (H' := [some ⟨fl (enc_TItem true) v20, 9⟩]) rfl rfl ?_
   refine RW.sreg (rl.run 3 rfl ?_)
   obtain ⟨v21, e21, h23⟩ := bindS h22
   refine rl.call rfl rfl rfl (CallW.val (r' := .str v21) ok_laws_markText (law_laws_markText e21) (.cons .int .nil) .refl ?_)
   obtain ⟨v22, e22, h24⟩ := bindS h23
   refine rl.op (x_ia_sl rfl rfl rfl ((((((((set'_len e4).trans (set'_len e6)).trans (set'_len e8)).trans (set'_len e10)).trans (set'_len e12)).trans (set'_len e14)).trans (set'_len e17)).trans (set'_len e20)) e22) ?_
   refine rl.run 2 rfl ?_
   obtain ⟨v23, e23, h25⟩ := bindS h24
   refine rl.op0 (x_st_sl' (off' := 8) (o := true) (e' := ({ Seq := v22.Seq, Rec := ({ Kind := v22.Rec.Kind, Valid := v22.Rec.Valid, Uid := v22.Rec.Uid, Next := v22.Rec.Next, Flags := v22.Rec.Flags, User := v22.Rec.User, Name := v22.Rec.Name, Text := v21 } : TRec) } : TItem)) ek_TItem e22 rfl rfl rfl rfl rfl rfl rfl rfl rfl e23) ?_
   refine rl.done (RW.reg (rl.run 3 rfl (rl.done (RW.reg (rl.run 3 rfl (rl.done ?_))))))
   cases h25
   exact hB1 _ rfl _ _ (Gh.renN [0] (.same rfl (ek_TItem.fref _ _) .nil) rfl rfl rfl (.cons rfl (.slq rfl (((((((((set'_len e4).trans (set'_len e6)).trans (set'_len e8)).trans (set'_len e10)).trans (set'_len e12)).trans (set'_len e14)).trans (set'_len e17)).trans (set'_len e20)).trans (set'_len e23))) (.cons rfl (.dat .int) (.cons rfl (.dat .int) .nil))))
 ·intro y2 hC
  subst hC
  refine RW.sreg (rl.run 2 rfl (rl.done (RW.ret ?_)))
  cases h2
  exact RRetS.mk rfl .int (Gh.renN [0] (.same rfl (ek_TItem.fref _ _) .nil) rfl rfl rfl .nil)
theorem law_laws_markSegS_w {x0 : List TSeg} {x1 : Int} {r : Int × (List TSeg)} (hF : F_laws_markSegS_w x0 x1 = some r) : ACalls Tryz.prog 0 41 [.sl 0 0 x0.length, .int .i64 x1] [some ⟨fl (enc_TSeg true) x0, 4⟩] (.int .i64 r.1) [some ⟨fl (enc_TSeg true) r.2, 4⟩] := by
 refine ACalls.of_s k_laws_markSegS rfl ?_
 unfold F_laws_markSegS_w at hF
 refine RW.sreg (rl.run 1 rfl (rl.done (RW.seq (RW.sreg (rl.run 1 rfl (rl.done ?_))))))
 obtain ⟨y12, ey12, h2⟩ := bindS hF
 refine RW.cutq (σ := Int × (List TSeg)) (fun y2 => [(1, .int .i64 y2.1)]) (fun y2 => [some ⟨fl (enc_TSeg true) y2.2, 4⟩]) (fun y => y12 = y) (fun _ _ _ _ g h => RW.gh g h) ?_ ?_
 ·refine RW.blk ?_
  refine RW.iter (σ := Int × Int × (List TSeg)) ey12 (fun s1 => [(0, .sl 0 0 s1.2.2.length), (1, .int .i64 s1.1), (5, .int .i64 s1.2.1)]) (fun s1 => [some ⟨fl (enc_TSeg true) s1.2.2, 4⟩]) (Gh.renN [0] (.same rfl (ek_TSeg.fref _ _) .nil) rfl rfl rfl (.cons rfl (.slq rfl rfl) (.cons rfl (.dat .int) (.cons rfl (.dat .int) .nil)))) (fun s1 B o hS1 hB1 hE1 => ?_)
  unfold S_laws_markSegS_w_1 at hS1
  refine RW.seq (RW.sreg (rl.run 3 rfl ?_))
  refine rl.gen rfl rfl fun b hb => ?_
  cases b
  ·have h3 := iteBF hS1 hb
   refine rl.done (RW.cond_f rfl (RW.exit (blkA_eq ?_)))
   cases h3
   exact ⟨_, (hE1 _ rfl).symm, (Gh.renN [0] (.same rfl (ek_TSeg.fref _ _) .nil) rfl rfl rfl (.cons rfl (.dat .int) .nil))⟩
  ·have h4 := iteBT hS1 hb
   refine rl.done (RW.cond_t rfl (RW.skip (RW.seq (RW.blk (RW.sreg (rl.run 3 rfl ?_))))))
   obtain ⟨v3, e3, h5⟩ := bindS h4
   refine rl.op (x_ia_sl rfl rfl rfl rfl e3) ?_
   refine rl.run 1 rfl ?_
   obtain ⟨v4, e4, h6⟩ := bindS h5
   refine rl.op0 (x_st_sl' (off' := 0) (o := true) (e' := ({ No := s1.1, Gen := v3.Gen, End := v3.End, Items := v3.Items } : TSeg)) ek_TSeg e3 rfl rfl rfl rfl rfl rfl rfl rfl rfl e4) ?_
   refine rl.done (RW.sreg (rl.run 3 rfl (rl.done ?_)))
   refine RW.keep [0, 1, 5] (a' := [(0, .sl 0 0 s1.2.2.length), (1, .int .i64 (w64 (s1.1 + 1))), (5, .int .i64 s1.2.1)]) (H' := [some ⟨fl (enc_TSeg true) v4, 4⟩]) rfl rfl ?_
   refine RW.sreg (rl.run 3 rfl ?_)
   obtain ⟨v5, e5, h7⟩ := bindS h6
   refine rl.op (x_ia_sl rfl rfl rfl (set'_len e4) e5) ?_
   refine rl.run 1 rfl ?_
   obtain ⟨v6, e6, h8⟩ := bindS h7
   refine rl.op0 (x_st_sl' (off' := 1) (o := true) (e' := ({ No := v5.No, Gen := w64 (s1.1 + 1), End := v5.End, Items := v5.Items } : TSeg)) ek_TSeg e5 rfl rfl rfl rfl rfl rfl rfl rfl rfl e6) ?_
   refine rl.done (RW.sreg (rl.run 3 rfl (rl.done (RW.sreg (rl.run 3 rfl ?_)))))
   obtain ⟨v7, e7, h9⟩ := bindS h8
   refine rl.op (x_ia_sl rfl rfl rfl ((set'_len e4).trans (set'_len e6)) e7) ?_
   refine rl.run 1 rfl ?_
   obtain ⟨v8, e8, h10⟩ := bindS h9
   refine rl.op0 (x_st_sl' (off' := 2) (o := true) (e' := ({ No := v7.No, Gen := v7.Gen, End := w64 ((w64 (s1.1 + 1)) + 1), Items := v7.Items } : TSeg)) ek_TSeg e7 rfl rfl rfl rfl rfl rfl rfl rfl rfl e8) ?_
   refine rl.done ?_
   refine RW.keep [0, 1, 5] (a' := [(0, .sl 0 0 s1.2.2.length), (1, .int .i64 (w64 ((w64 (s1.1 + 1)) + 1))), (5, .int .i64 s1.2.1)]) (H' := [some ⟨fl (enc_TSeg true) v8, 4⟩]) rfl rfl ?_
   refine RW.sreg (rl.run 3 rfl (rl.done ?_))
   obtain ⟨v9, e9, h11⟩ := bindS h10
   refine RW.gh (Gh.blk (b := 0) rfl (raw_at ek_TSeg e9)) ?_
   refine RW.gh (Gh.expose_raw (b := 0) (j := 3) rfl rfl (by decide) (ek_TItem.fown _)) ?_
   refine RW.reg (rl.run 2 rfl ?_)
   refine rl.op (x_ia_sl rfl rfl rfl (((set'_len e4).trans (set'_len e6)).trans (set'_len e8)) e9) ?_
   refine rl.run 1 rfl ?_
   refine rl.op (x_ld_raw (off' := 3) ek_TSeg rfl rfl e9 rfl rfl) ?_
   refine rl.run 1 rfl ?_
   obtain ⟨v10, e10, h12⟩ := bindS h11
   refine rl.call rfl rfl rfl (CallW.embW (r0 := .int .i64 v10.1) (H' := [some ⟨fl (enc_TSeg true) (v8.take s1.2.1.toNat) ++ ([.int .i64 v9.No, .int .i64 v9.Gen, .int .i64 v9.End, .sl 1 0 v9.Items.length] ++ fl (enc_TSeg true) (v8.drop (s1.2.1.toNat + 1))), 4⟩, some ⟨fl (enc_TItem true) v10.2, 9⟩]) [⟨fl (enc_TItem true) v9.Items, 9⟩] [⟨fl (enc_TItem true) v10.2, 9⟩] [1] ok_laws_markItemS (law_laws_markItemS_w (guardO_s e10)) (.cons rfl (ek_TItem.fref _ _) (ek_TItem.fown _) .nil) rfl (.cons (.slq rfl rfl) (.cons (.dat .int) .nil)) .int rfl rfl ?_)
   refine rl.run 1 rfl (rl.done ?_)
   refine RW.gh (Gh.absorb_rawq (b := 0) (j := 3) (m := 1) rfl rfl rfl (by decide) (by decide) (guardO_p (p := fun r : Int × (List TItem) => v9.Items.length = r.2.length) e10) (ek_TItem.flen true _) (ek_TItem.fown _)) ?_
   obtain ⟨v11, e11, h13⟩ := bindS h12
   refine RW.gh (Gh.blk (b := 0) rfl (raw_set ek_TSeg e9 e11 rfl)) ?_
   refine RW.reg (rl.run 3 rfl (rl.done ?_))
   cases h13
   exact hB1 _ rfl _ _ (Gh.renN [0] (.same rfl (ek_TSeg.fref _ _) .nil) rfl rfl rfl (.cons rfl (.slq rfl ((((set'_len e4).trans (set'_len e6)).trans (set'_len e8)).trans (set'_len e11))) (.cons rfl (.dat .int) (.cons rfl (.dat .int) .nil))))
 ·intro y2 hC
  subst hC
  refine RW.sreg (rl.run 2 rfl (rl.done (RW.ret ?_)))
  cases h2
  exact RRetS.mk rfl .int (Gh.renN [0] (.same rfl (ek_TSeg.fref _ _) .nil) rfl rfl rfl .nil)
theorem law_laws_markLog_w {x0 : List (List UInt8)} {x1 : List TWrite} {x2 : Int} {x3 : List TSeg} {x4 : Int} {x5 : Int} {x6 : Int} {x7 : Int} {x8 : Int} {r : Int × (List (List UInt8)) × (List TWrite) × (List TSeg)} (hF : F_laws_markLog_w x0 x1 x2 x3 x4 x5 x6 x7 x8 = some r) : ACalls Tryz.prog 0 10 [.agg [.sl 0 0 x0.length, .sl 1 0 x1.length, .int .i64 x2, .sl 2 0 x3.length, .int .i64 x4, .int .i64 x5, .int .i64 x6, .int .i64 x7], .int .i64 x8] [some ⟨fl (encS true) x0, 1⟩, some ⟨fl (enc_TWrite true) x1, 2⟩, some ⟨fl (enc_TSeg true) x3, 4⟩] (.int .i64 r.1) [some ⟨fl (encS true) r.2.1, 1⟩, some ⟨fl (enc_TWrite true) r.2.2.1, 2⟩, some ⟨fl (enc_TSeg true) r.2.2.2, 4⟩] := by
 refine ACalls.of_s k_laws_markLog rfl ?_
 unfold F_laws_markLog_w at hF
 refine RW.sreg (rl.run 2 rfl (rl.done (RW.sreg (rl.run 3 rfl ?_))))
 obtain ⟨v1, e1, h1⟩ := bindS hF
 refine rl.call rfl rfl rfl (CallW.embW (r0 := .int .i64 v1.1) (H' := [some ⟨fl (encS true) v1.2.1, 1⟩, some ⟨fl (enc_TWrite true) v1.2.2, 2⟩, some ⟨fl (enc_TSeg true) x3, 4⟩, some ⟨[.sl 0 0 x0.length, .sl 1 0 x1.length, .int .i64 x2, .sl 2 0 x3.length, .int .i64 x4, .int .i64 x5, .int .i64 x6, .int .i64 x7], 0⟩]) [⟨fl (encS true) x0, 1⟩, ⟨fl (enc_TWrite true) x1, 2⟩] [⟨fl (encS true) v1.2.1, 1⟩, ⟨fl (enc_TWrite true) v1.2.2, 2⟩] [0, 1] ok_laws_markDisk (law_laws_markDisk_w (guardO_s e1)) (.cons rfl (ekS.fref _ _) (ekS.fown _) (.cons rfl (ek_TWrite.fref _ _) (ek_TWrite.fown _) .nil)) rfl (.cons (RnL.agg (.cons (.slq rfl rfl) (.cons (.slq rfl rfl) .nil))) (.cons (.dat .int) .nil)) .int rfl rfl ?_)
 refine rl.run 1 rfl (rl.done (RW.sreg (rl.run 3 rfl ?_)))
 obtain ⟨v2, e2, h2⟩ := bindS h1
 refine rl.call rfl rfl rfl (CallW.embW (r0 := .int .i64 v2.1) (H' := [some ⟨fl (encS true) v1.2.1, 1⟩, some ⟨fl (enc_TWrite true) v1.2.2, 2⟩, some ⟨fl (enc_TSeg true) v2.2, 4⟩, some ⟨[.sl 0 0 x0.length, .sl 1 0 x1.length, .int .i64 x2, .sl 2 0 x3.length, .int .i64 x4, .int .i64 x5, .int .i64 x6, .int .i64 x7], 0⟩]) [⟨fl (enc_TSeg true) x3, 4⟩] [⟨fl (enc_TSeg true) v2.2, 4⟩] [2] ok_laws_markSegS (law_laws_markSegS_w (guardO_s e2)) (.cons rfl (ek_TSeg.fref _ _) (ek_TSeg.fown _) .nil) rfl (.cons (.slq rfl rfl) (.cons (.dat .int) .nil)) .int rfl rfl ?_)
 refine rl.run 1 rfl (rl.done ?_)
 refine RW.keep [1] (a' := [(1, .int .i64 v2.1)]) (H' := [some ⟨fl (encS true) v1.2.1, 1⟩, some ⟨fl (enc_TWrite true) v1.2.2, 2⟩, some ⟨fl (enc_TSeg true) v2.2, 4⟩, some ⟨[.sl 0 0 x0.length, .sl 1 0 x1.length, .int .i64 x2, .sl 2 0 x3.length, .int .i64 x4, .int .i64 x5, .int .i64 x6, .int .i64 x7], 0⟩]) rfl rfl ?_
 refine RW.sreg (rl.run 2 rfl (rl.done (RW.ret ?_)))
 cases h2
 exact RRetS.mk rfl .int (Gh.renN [0, 1, 2] (.same rfl (ekS.fref _ _) (.same rfl (ek_TWrite.fref _ _) (.same rfl (ek_TSeg.fref _ _) .nil))) rfl rfl rfl .nil)
theorem law_laws_markIntS_w {x0 : List Int} {x1 : Int} {r : Int × (List Int)} (hF : F_laws_markIntS_w x0 x1 = some r) : ACalls Tryz.prog 0 45 [.sl 0 0 x0.length, .int .i64 x1] [some ⟨fl (encI true) x0, 1⟩] (.int .i64 r.1) [some ⟨fl (encI true) r.2, 1⟩] := by
 refine ACalls.of_s k_laws_markIntS rfl ?_
 unfold F_laws_markIntS_w at hF
 refine RW.sreg (rl.run 1 rfl (rl.done (RW.seq (RW.sreg (rl.run 1 rfl (rl.done ?_))))))
 obtain ⟨y5, ey5, h2⟩ := bindS hF
 refine RW.cutq (σ := Int × (List Int)) (fun y2 => [(1, .int .i64 y2.1)]) (fun y2 => [some ⟨fl (encI true) y2.2, 1⟩]) (fun y => y5 = y) (fun _ _ _ _ g h => RW.gh g h) ?_ ?_
 ·refine RW.blk ?_
  refine RW.iter (σ := Int × Int × (List Int)) ey5 (fun s1 => [(0, .sl 0 0 s1.2.2.length), (1, .int .i64 s1.1), (5, .int .i64 s1.2.1)]) (fun s1 => [some ⟨fl (encI true) s1.2.2, 1⟩]) (Gh.renN [0] (.same rfl (ekI.fref _ _) .nil) rfl rfl rfl (.cons rfl (.slq rfl rfl) (.cons rfl (.dat .int) (.cons rfl (.dat .int) .nil)))) (fun s1 B o hS1 hB1 hE1 => ?_)
  unfold S_laws_markIntS_w_1 at hS1
  refine RW.seq (RW.sreg (rl.run 3 rfl ?_))
  refine rl.gen rfl rfl fun b hb => ?_
  cases b
  ·have h3 := iteBF hS1 hb
   refine rl.done (RW.cond_f rfl (RW.exit (blkA_eq ?_)))
   cases h3
   exact ⟨_, (hE1 _ rfl).symm, (Gh.renN [0] (.same rfl (ekI.fref _ _) .nil) rfl rfl rfl (.cons rfl (.dat .int) .nil))⟩
  ·have h4 := iteBT hS1 hb
   refine rl.done (RW.cond_t rfl (RW.skip (RW.seq (RW.blk (RW.sreg (rl.run 3 rfl ?_))))))
   obtain ⟨v3, e3, h5⟩ := bindS h4
   refine rl.op (x_ia_sl rfl rfl rfl rfl e3) ?_
   obtain ⟨v4, e4, h6⟩ := bindS h5
   refine rl.op0 (x_st_sl' (off' := 0) (o := true) (e' := s1.1) ekI e3 rfl rfl rfl rfl rfl rfl rfl rfl rfl e4) ?_
   refine rl.done (RW.reg (rl.run 3 rfl (rl.done (RW.reg (rl.run 3 rfl (rl.done ?_))))))
   cases h6
   exact hB1 _ rfl _ _ (Gh.renN [0] (.same rfl (ekI.fref _ _) .nil) rfl rfl rfl (.cons rfl (.slq rfl (set'_len e4)) (.cons rfl (.dat .int) (.cons rfl (.dat .int) .nil))))
 ·intro y2 hC
  subst hC
  refine RW.sreg (rl.run 2 rfl (rl.done (RW.ret ?_)))
  cases h2
  exact RRetS.mk rfl .int (Gh.renN [0] (.same rfl (ekI.fref _ _) .nil) rfl rfl rfl .nil)
theorem law_laws_markStore_w {x0 : List (List UInt8)} {x1 : List TWrite} {x2 : Int} {x3 : List TSeg} {x4 : Int} {x5 : Int} {x6 : Int} {x7 : Int} {x8 : List Int} {x9 : Int} {r : Int × (List (List UInt8)) × (List TWrite) × (List TSeg) × (List Int)} (hF : F_laws_markStore_w x0 x1 x2 x3 x4 x5 x6 x7 x8 x9 = some r) : ACalls Tryz.prog 0 15 [.agg [.sl 0 0 x0.length, .sl 1 0 x1.length, .int .i64 x2, .sl 2 0 x3.length, .int .i64 x4, .int .i64 x5, .int .i64 x6, .int .i64 x7, .sl 3 0 x8.length], .int .i64 x9] [some ⟨fl (encS true) x0, 1⟩, some ⟨fl (enc_TWrite true) x1, 2⟩, some ⟨fl (enc_TSeg true) x3, 4⟩, some ⟨fl (encI true) x8, 1⟩] (.int .i64 r.1) [some ⟨fl (encS true) r.2.1, 1⟩, some ⟨fl (enc_TWrite true) r.2.2.1, 2⟩, some ⟨fl (enc_TSeg true) r.2.2.2.1, 4⟩, some ⟨fl (encI true) r.2.2.2.2, 1⟩] := by
 refine ACalls.of_s k_laws_markStore rfl ?_
 unfold F_laws_markStore_w at hF
 refine RW.sreg (rl.run 2 rfl (rl.done (RW.sreg (rl.run 3 rfl ?_))))
 obtain ⟨v1, e1, h1⟩ := bindS hF
 refine rl.call rfl rfl rfl (CallW.embW (r0 := .int .i64 v1.1) (H' := [some ⟨fl (encS true) v1.2.1, 1⟩, some ⟨fl (enc_TWrite true) v1.2.2.1, 2⟩, some ⟨fl (enc_TSeg true) v1.2.2.2, 4⟩, some ⟨fl (encI true) x8, 1⟩, some ⟨[.sl 0 0 x0.length, .sl 1 0 x1.length, .int .i64 x2, .sl 2 0 x3.length, .int .i64 x4, .int .i64 x5, .int .i64 x6, .int .i64 x7, .sl 3 0 x8.length], 0⟩]) [⟨fl (encS true) x0, 1⟩, ⟨fl (enc_TWrite true) x1, 2⟩, ⟨fl (enc_TSeg true) x3, 4⟩] [⟨fl (encS true) v1.2.1, 1⟩, ⟨fl (enc_TWrite true) v1.2.2.1, 2⟩, ⟨fl (enc_TSeg true) v1.2.2.2, 4⟩] [0, 1, 2] ok_laws_markLog (law_laws_markLog_w (guardO_s e1)) (.cons rfl (ekS.fref _ _) (ekS.fown _) (.cons rfl (ek_TWrite.fref _ _) (ek_TWrite.fown _) (.cons rfl (ek_TSeg.fref _ _) (ek_TSeg.fown _) .nil))) rfl (.cons (RnL.agg (.cons (.slq rfl rfl) (.cons (.slq rfl rfl) (.cons (.dat .int) (.cons (.slq rfl rfl) (.cons (.dat .int) (.cons (.dat .int) (.cons (.dat .int) (.cons (.dat .int) .nil))))))))) (.cons (.dat .int) .nil)) .int rfl rfl ?_)
 refine rl.run 1 rfl (rl.done (RW.sreg (rl.run 3 rfl ?_)))
 obtain ⟨v2, e2, h2⟩ := bindS h1
 refine rl.call rfl rfl rfl (CallW.embW (r0 := .int .i64 v2.1) (H' := [some ⟨fl (encS true) v1.2.1, 1⟩, some ⟨fl (enc_TWrite true) v1.2.2.1, 2⟩, some ⟨fl (enc_TSeg true) v1.2.2.2, 4⟩, some ⟨fl (encI true) v2.2, 1⟩, some ⟨[.sl 0 0 x0.length, .sl 1 0 x1.length, .int .i64 x2, .sl 2 0 x3.length, .int .i64 x4, .int .i64 x5, .int .i64 x6, .int .i64 x7, .sl 3 0 x8.length], 0⟩]) [⟨fl (encI true) x8, 1⟩] [⟨fl (encI true) v2.2, 1⟩] [3] ok_laws_markIntS (law_laws_markIntS_w (guardO_s e2)) (.cons rfl (ekI.fref _ _) (ekI.fown _) .nil) rfl (.cons (.slq rfl rfl) (.cons (.dat .int) .nil)) .int rfl rfl ?_)
 refine rl.run 1 rfl (rl.done ?_)
 refine RW.keep [1] (a' := [(1, .int .i64 v2.1)]) (H' := [some ⟨fl (encS true) v1.2.1, 1⟩, some ⟨fl (enc_TWrite true) v1.2.2.1, 2⟩, some ⟨fl (enc_TSeg true) v1.2.2.2, 4⟩, some ⟨fl (encI true) v2.2, 1⟩, some ⟨[.sl 0 0 x0.length, .sl 1 0 x1.length, .int .i64 x2, .sl 2 0 x3.length, .int .i64 x4, .int .i64 x5, .int .i64 x6, .int .i64 x7, .sl 3 0 x8.length], 0⟩]) rfl rfl ?_
 refine RW.sreg (rl.run 2 rfl (rl.done (RW.ret ?_)))
 cases h2
 exact RRetS.mk rfl .int (Gh.renN [0, 1, 2, 3] (.same rfl (ekS.fref _ _) (.same rfl (ek_TWrite.fref _ _) (.same rfl (ek_TSeg.fref _ _) (.same rfl (ekI.fref _ _) .nil)))) rfl rfl rfl .nil)
theorem law_laws_heldStringS {x0 : List (List UInt8)} {x1 : Int} {r : Int} (hF : F_laws_heldStringS x0 x1 = some r) : PCalls Tryz.prog 88 [.lst false 1 (fl (encS false) x0) x0.length, .int .i64 x1] (.int .i64 r) := by
 refine PCalls.of_r k_laws_heldStringS rfl ?_
 unfold F_laws_heldStringS at hF
 refine RW.sreg (rl.run 1 rfl (rl.done (RW.seq (RW.sreg (rl.run 1 rfl (rl.done ?_))))))
 obtain ⟨y5, ey5, h2⟩ := bindS hF
 refine RW.cutq (σ := Int) (fun y2 => [(1, .int .i64 y2)]) (fun y2 => []) (fun y => y5 = .inr y) (fun _ _ _ _ g h => RW.gh g h) ?_ ?_
 ·refine RW.blk ?_
  refine RW.iter (σ := Int × Int) ey5 (fun s1 => [(0, .lst false 1 (fl (encS false) x0) x0.length), (1, .int .i64 s1.1), (5, .int .i64 s1.2)]) (fun s1 => []) (Gh.ren0 [] .nil rfl (.cons rfl (.dat (ekS.rlst)) (.cons rfl (.dat .int) (.cons rfl (.dat .int) .nil)))) (fun s1 B o hS1 hB1 hE1 => ?_)
  unfold S_laws_heldStringS_1 at hS1
  refine RW.seq (RW.sreg (rl.run 3 rfl ?_))
  refine rl.gen rfl rfl fun b hb => ?_
  cases b
  ·have h3 := iteBF hS1 hb
   refine rl.done (RW.cond_f rfl (RW.exit (blkA_eq ?_)))
   cases h3
   exact ⟨_, (hE1 _ rfl).symm, (Gh.ren0 [] .nil rfl (.cons rfl (.dat .int) .nil))⟩
  ·have h4 := iteBT hS1 hb
   refine rl.done (RW.cond_t rfl (RW.skip (RW.seq (RW.blk (RW.seq (RW.sdrw (rdraw.op rfl rfl (rdraw.op rfl rfl ?_))))))))
   obtain ⟨v3, e3, h5⟩ := bindS h4
   refine rdraw.op rfl (x_ia_lst (enc := encS) (o := false) rfl rfl rfl e3) ?_
   refine rdraw.op rfl (x_ld_el (off' := 0) ekS rfl e3 rfl rfl rfl) ?_
   refine rdraw.op rfl rfl ?_
   obtain ⟨v4, e4, h6⟩ := bindS h5
   refine rdraw.call rfl rfl rfl (CallW.val (r' := .str v4) ok_laws_markText (law_laws_markText e4) (.cons .int .nil) .refl ⟨rfl, ?_⟩)
   refine rdraw.gen rfl rfl fun b hb => ?_
   cases b
   ·have h7 := iteBF h6 hb
    refine rdraw.done (RW.cond_f rfl (RW.skip (RW.reg (rl.run 3 rfl (rl.done (RW.reg (rl.run 3 rfl (rl.done ?_))))))))
    cases h7
    exact hB1 _ rfl _ _ (Gh.ren0 [] .nil rfl (.cons rfl (.dat (ekS.rlst)) (.cons rfl (.dat .int) (.cons rfl (.dat .int) .nil))))
   ·have h8 := iteBT h6 hb
    refine rdraw.done (RW.cond_t rfl (RW.sreg (rl.run 1 rfl (rl.done ?_))))
    refine RW.keep [4] (a' := [(4, .int .i64 (-1))]) (H' := []) rfl rfl ?_
    refine RW.ret ?_
    cases h8
    have h9 := elimL h2 (hE1 _ rfl)
    cases h9
    exact RRet.mk rfl .int (by first | decide | simp)
 ·intro y2 hC
  have h2 := elimR h2 hC
  refine RW.sreg (rl.run 2 rfl (rl.done (RW.ret ?_)))
  cases h2
  exact RRet.mk rfl .int (by first | decide | simp)
theorem law_laws_heldWriteS {x0 : List TWrite} {x1 : Int} {r : Int} (hF : F_laws_heldWriteS x0 x1 = some r) : PCalls Tryz.prog 89 [.lst false 2 (fl (enc_TWrite false) x0) x0.length, .int .i64 x1] (.int .i64 r) := by
 refine PCalls.of_r k_laws_heldWriteS rfl ?_
 unfold F_laws_heldWriteS at hF
 refine RW.sreg (rl.run 1 rfl (rl.done (RW.seq (RW.sreg (rl.run 1 rfl (rl.done ?_))))))
 obtain ⟨y6, ey6, h2⟩ := bindS hF
 refine RW.cutq (σ := Int) (fun y2 => [(1, .int .i64 y2)]) (fun y2 => []) (fun y => y6 = .inr y) (fun _ _ _ _ g h => RW.gh g h) ?_ ?_
 ·refine RW.blk ?_
  refine RW.iter (σ := Int × Int) ey6 (fun s1 => [(0, .lst false 2 (fl (enc_TWrite false) x0) x0.length), (1, .int .i64 s1.1), (5, .int .i64 s1.2)]) (fun s1 => []) (Gh.ren0 [] .nil rfl (.cons rfl (.dat (ek_TWrite.rlst)) (.cons rfl (.dat .int) (.cons rfl (.dat .int) .nil)))) (fun s1 B o hS1 hB1 hE1 => ?_)
  unfold S_laws_heldWriteS_1 at hS1
  refine RW.seq (RW.sreg (rl.run 3 rfl ?_))
  refine rl.gen rfl rfl fun b hb => ?_
  cases b
  ·have h3 := iteBF hS1 hb
   refine rl.done (RW.cond_f rfl (RW.exit (blkA_eq ?_)))
   cases h3
   exact ⟨_, (hE1 _ rfl).symm, (Gh.ren0 [] .nil rfl (.cons rfl (.dat .int) .nil))⟩
  ·have h4 := iteBT hS1 hb
   refine rl.done (RW.cond_t rfl (RW.skip (RW.seq (RW.blk (RW.seq (RW.sreg (rl.run 2 rfl ?_)))))))
   obtain ⟨v3, e3, h5⟩ := bindS h4
   refine rl.op (x_ia_lst (enc := enc_TWrite) (o := false) rfl rfl rfl e3) ?_
   refine rl.run 1 rfl ?_
   refine rl.op (x_ld_el (off' := 0) ek_TWrite rfl e3 rfl rfl rfl) ?_
   refine rl.run 1 rfl ?_
   refine rl.gen rfl rfl fun b hb => ?_
   cases b
   ·have h6 := iteBF h5 hb
    refine rl.done (RW.cond_f rfl (RW.skip (RW.sreg (rl.run 3 rfl (rl.done ?_)))))
    refine RW.keep [0, 1, 5] (a' := [(0, .lst false 2 (fl (enc_TWrite false) x0) x0.length), (1, .int .i64 (w64 (s1.1 + 1))), (5, .int .i64 s1.2)]) (H' := []) rfl rfl ?_
    refine RW.seq (RW.sdrw (rdraw.op rfl rfl (rdraw.op rfl rfl ?_)))
    obtain ⟨v4, e4, h7⟩ := bindS h6
    refine rdraw.op rfl (x_ia_lst (enc := enc_TWrite) (o := false) rfl rfl rfl e4) ?_
    refine rdraw.op rfl rfl ?_
    refine rdraw.op rfl (x_ld_el (off' := 1) ek_TWrite rfl e4 rfl rfl rfl) ?_
    refine rdraw.op rfl rfl ?_
    obtain ⟨v5, e5, h8⟩ := bindS h7
    refine rdraw.call rfl rfl rfl (CallW.val (r' := .str v5) ok_laws_markText (law_laws_markText e5) (.cons .int .nil) .refl ⟨rfl, ?_⟩)
    refine rdraw.gen rfl rfl fun b hb => ?_
    cases b
    ·have h9 := iteBF h8 hb
     refine rdraw.done (RW.cond_f rfl (RW.skip (RW.reg (rl.run 3 rfl (rl.done (RW.reg (rl.run 3 rfl (rl.done ?_))))))))
     cases h9
     exact hB1 _ rfl _ _ (Gh.ren0 [] .nil rfl (.cons rfl (.dat (ek_TWrite.rlst)) (.cons rfl (.dat .int) (.cons rfl (.dat .int) .nil))))
    ·have h10 := iteBT h8 hb
     refine rdraw.done (RW.cond_t rfl (RW.sreg (rl.run 1 rfl (rl.done ?_))))
     refine RW.keep [4] (a' := [(4, .int .i64 (-1))]) (H' := []) rfl rfl ?_
     refine RW.ret ?_
     cases h10
     have h11 := elimL h2 (hE1 _ rfl)
     cases h11
     exact RRet.mk rfl .int (by first | decide | simp)
   ·have h12 := iteBT h5 hb
    refine rl.done (RW.cond_t rfl (RW.sreg (rl.run 1 rfl (rl.done ?_))))
    refine RW.keep [4] (a' := [(4, .int .i64 (-1))]) (H' := []) rfl rfl ?_
    refine RW.ret ?_
    cases h12
    have h13 := elimL h2 (hE1 _ rfl)
    cases h13
    exact RRet.mk rfl .int (by first | decide | simp)
 ·intro y2 hC
  have h2 := elimR h2 hC
  refine RW.sreg (rl.run 2 rfl (rl.done (RW.ret ?_)))
  cases h2
  exact RRet.mk rfl .int (by first | decide | simp)
theorem law_laws_heldDisk {x0 : TDisk} {x1 : Int} {r : Int} (hF : F_laws_heldDisk x0 x1 = some r) : PCalls Tryz.prog 42 [.agg (enc_TDisk false x0), .int .i64 x1] (.int .i64 r) := by
 refine PCalls.of_r k_laws_heldDisk rfl ?_
 unfold F_laws_heldDisk at hF
 refine RW.sreg (rl.run 2 rfl (rl.done (RW.sreg (rl.run 3 rfl ?_))))
 obtain ⟨v1, e1, h1⟩ := bindS hF
 refine rl.call rfl rfl rfl (CallW.val (r' := .int .i64 v1) ok_laws_heldStringS (law_laws_heldStringS e1) (.cons (.lst ekS) (.cons .int .nil)) .refl ?_)
 refine rl.run 1 rfl (rl.done (RW.seq (RW.sreg (rl.run 1 rfl ?_))))
 refine rl.gen rfl rfl fun b hb => ?_
 cases b
 ·have h2 := iteBF h1 hb
  refine rl.done (RW.cond_f rfl (RW.skip (RW.sreg (rl.run 3 rfl ?_))))
  obtain ⟨v2, e2, h3⟩ := bindS h2
  refine rl.call rfl rfl rfl (CallW.val (r' := .int .i64 v2) ok_laws_heldWriteS (law_laws_heldWriteS e2) (.cons (.lst ek_TWrite) (.cons .int .nil)) .refl ?_)
  refine rl.run 1 rfl (rl.done ?_)
  refine RW.keep [1] (a' := [(1, .int .i64 v2)]) (H' := [some ⟨[.lst false 1 (fl (encS false) x0.Sectors) x0.Sectors.length, .lst false 2 (fl (enc_TWrite false) x0.Cache) x0.Cache.length], 0⟩]) rfl rfl ?_
  refine RW.seq (RW.sreg (rl.run 1 rfl ?_))
  refine rl.gen rfl rfl fun b hb => ?_
  cases b
  ·have h4 := iteBF h3 hb
   refine rl.done (RW.cond_f rfl (RW.skip (RW.sreg (rl.run 2 rfl (rl.done (RW.ret ?_))))))
   cases h4
   exact RRet.mk rfl .int (by first | decide | simp)
  ·have h5 := iteBT h3 hb
   refine rl.done (RW.cond_t rfl (RW.sreg (rl.run 1 rfl (rl.done (RW.ret ?_)))))
   cases h5
   exact RRet.mk rfl .int (by first | decide | simp)
 ·have h6 := iteBT h1 hb
  refine rl.done (RW.cond_t rfl (RW.sreg (rl.run 1 rfl (rl.done (RW.ret ?_)))))
  cases h6
  exact RRet.mk rfl .int (by first | decide | simp)
end Go.Proofs.YtcehlicmghnghaaGreat.V
