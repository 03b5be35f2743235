/- What a call comes to. -/
import Derived.Test.YtgdcbjoaoagbpaaXD0
namespace Go.Proofs.Ytgdcbjoaoagbpaa.V
open Go Go.Proofs Go.RowKit
set_option maxRecDepth 100000
theorem law_impl_ReadSector {x0 : TDisk} {x1 : Int} {r : (List UInt8) × Bool} (hF : F_impl_ReadSector x0 x1 = some r) : PCalls Try.prog 152 [.agg (enc_TDisk false x0), .int .i64 x1] (.tup [.str r.1, .bool r.2]) := by
 refine PCalls.of_r k_impl_ReadSector rfl ?_
 unfold F_impl_ReadSector at hF
 refine RW.sreg (rl.run 3 rfl (rl.done (RW.seq (RW.sreg (rl.run 5 rfl ?_)))))
 obtain ⟨v1, e1, h1⟩ := bindS hF
 refine rl.call rfl rfl rfl (CallW.val (r' := .bool v1) ok_impl_in (law_impl_in e1) (.cons .int (.cons .int (.cons .int .nil))) .refl ?_)
 cases hb : v1
 ·have h2 := iteBF h1 hb
  refine rl.run 1 rfl (rl.done (RW.cond_t rfl (RW.sreg (rl.run 2 rfl (rl.done (RW.ret ?_))))))
  cases h2
  exact RRet.mk rfl (OutT.tup (.cons .str (.cons .bool .nil))) (by first | decide | simp)
 ·have h3 := iteBT h1 hb
  refine rl.run 1 rfl (rl.done (RW.cond_f rfl (RW.skip (RW.sreg (rl.run 3 rfl ?_)))))
  obtain ⟨v2, e2, h4⟩ := bindS h3
  refine rl.op (x_ia_lst (enc := encS) (o := false) rfl rfl rfl e2) ?_
  refine rl.op (x_ld_el (off' := 0) ekS rfl e2 rfl rfl rfl) ?_
  refine rl.run 1 rfl (rl.done ?_)
  refine RW.keep [1, 2, 6] (a' := [(1, .int .i64 x1), (2, .ptr 0 0), (6, .str v2)]) (H' := [some ⟨[.lst false 1 (fl (encS false) x0.Sectors) x0.Sectors.length, .lst false 2 (fl (enc_TWrite false) x0.Cache) x0.Cache.length], 0⟩]) rfl rfl ?_
  refine RW.seq (RW.sreg (rl.run 4 rfl (rl.done ?_)))
  obtain ⟨y6, ey6, h6⟩ := bindS h4
  refine RW.cutq (σ := (List UInt8)) (fun y4 => [(6, .str y4)]) (fun y4 => []) (fun y => y6 = y) (fun _ _ _ _ g h => RW.gh g h) ?_ ?_
  ·refine RW.blk ?_
   refine RW.iter (σ := (List UInt8) × Int) ey6 (fun s3 => [(1, .int .i64 x1), (6, .str s3.1), (22, .lst false 2 (fl (enc_TWrite false) x0.Cache) x0.Cache.length), (23, .int .i64 (x0.Cache.length : Int)), (24, .int .i64 s3.2)]) (fun s3 => []) (Gh.ren0 [] .nil rfl (.cons rfl (.dat .int) (.cons rfl (.dat .str) (.cons rfl (.dat (ek_TWrite.rlst)) (.cons rfl (.dat .int) (.cons rfl (.dat .int) .nil)))))) (fun s3 B o hS5 hB5 hE5 => ?_)
   unfold S_impl_ReadSector_1 at hS5
   refine RW.sreg ?_
   refine rl.gen rfl rfl fun b hb => ?_
   cases b
   ·have h7 := iteBF hS5 hb
    refine rl.done (RW.seq (RW.cond_f rfl (RW.exit (blkA_eq ?_))))
    cases h7
    exact ⟨_, (hE5 _ rfl).symm, (Gh.ren0 [] .nil rfl (.cons rfl (.dat .str) .nil))⟩
   ·have h8 := iteBT hS5 hb
    refine rl.done (RW.seq (RW.cond_t rfl (RW.skip (RW.seq (RW.blk (RW.sreg ?_))))))
    obtain ⟨v5, e5, h9⟩ := bindS h8
    refine rl.op (x_ia_lst (enc := enc_TWrite) (o := false) rfl rfl rfl e5) ?_
    refine rl.op (x_ld_ela (off' := 0) (vs := (enc_TWrite false v5)) ek_TWrite rfl e5 rfl rfl rfl) ?_
    refine rl.run 2 rfl (rl.done (RW.sreg (rl.run 3 rfl ?_)))
    refine rl.gen rfl rfl fun b hb => ?_
    cases b
    ·have h10 := iteBF h9 hb
     refine rl.done (RW.cond_f rfl (RW.skip (RW.reg (rl.run 2 rfl (rl.done ?_)))))
     cases h10
     exact hB5 _ rfl _ _ (Gh.ren0 [] .nil rfl (.cons rfl (.dat .int) (.cons rfl (.dat .str) (.cons rfl (.dat (ek_TWrite.rlst)) (.cons rfl (.dat .int) (.cons rfl (.dat .int) .nil))))))
    ·have h11 := iteBT h9 hb
     refine rl.done (RW.cond_t rfl (RW.reg (rl.run 3 rfl (rl.done (RW.reg (rl.run 2 rfl (rl.done ?_)))))))
     cases h11
     exact hB5 _ rfl _ _ (Gh.ren0 [] .nil rfl (.cons rfl (.dat .int) (.cons rfl (.dat .str) (.cons rfl (.dat (ek_TWrite.rlst)) (.cons rfl (.dat .int) (.cons rfl (.dat .int) .nil))))))
  ·intro y4 hC
   subst hC
   refine RW.sreg (rl.run 3 rfl (rl.done (RW.ret ?_)))
   cases h6
   exact RRet.mk rfl (OutT.tup (.cons .str (.cons .bool .nil))) (by first | decide | simp)
theorem law_impl_WriteSector {x0 : TDisk} {x1 : Int} {x2 : List UInt8} {r : TDisk × Bool} (hF : F_impl_WriteSector x0 x1 x2 = some r) : PCalls Try.prog 172 [.agg (enc_TDisk false x0), .int .i64 x1, .str x2] (.tup [.agg (enc_TDisk true r.1), .bool r.2]) := by
 refine PCalls.of_r k_impl_WriteSector rfl ?_
 unfold F_impl_WriteSector at hF
 refine RW.sreg (rl.run 3 rfl (rl.done (RW.sreg (rl.run 1 rfl ?_))))
 obtain ⟨v1, e1, h1⟩ := bindS hF
 refine rl.call rfl rfl rfl (CallW.own (r' := .agg [.sl 2 0 v1.Sectors.length, .sl 3 0 v1.Cache.length]) (H' := [some ⟨[.lst false 1 (fl (encS false) x0.Sectors) x0.Sectors.length, .lst false 2 (fl (enc_TWrite false) x0.Cache) x0.Cache.length], 0⟩, some ⟨[.nils, .nils], 0⟩, some ⟨fl (encS true) v1.Sectors, 1⟩, some ⟨fl (enc_TWrite true) v1.Cache, 2⟩]) ok_impl_cloneDisk (law_impl_cloneDisk e1) (.cons (DFL.agg (.cons (.lst ekS) (.cons (.lst ek_TWrite) .nil))) .nil) (ek_TDisk.own _) rfl ?_)
 refine rl.run 2 rfl (rl.done (RW.sreg (rl.run 6 rfl ?_)))
 obtain ⟨v2, e2, h2⟩ := bindS h1
 refine rl.op (x_app rfl rfl (rapp_sl (l := v1.Cache) (m := [({ At := x1, Text := x2 } : TWrite)]) (o := true) ek_TWrite rfl rfl (acont_slq (m := [({ At := x1, Text := x2 } : TWrite)]) (o := true) fk_TWrite rfl rfl) rfl (fk_TWrite.fst _ _) e2)) ?_
 refine rl.run 2 rfl (rl.done ?_)
 refine RW.keep [3, 6, 8] (a' := [(3, .ptr 0 0), (6, .ptr 1 0), (8, .ptr 4 0)]) (H' := [some ⟨[.lst false 1 (fl (encS false) x0.Sectors) x0.Sectors.length, .lst false 2 (fl (enc_TWrite false) x0.Cache) x0.Cache.length], 0⟩, some ⟨[.nils, .nils], 0⟩, some ⟨fl (encS true) v1.Sectors, 1⟩, none, some ⟨[.sl 2 0 v1.Sectors.length, .sl 6 0 v2.length], 0⟩, some ⟨fl (enc_TWrite true) [({ At := x1, Text := x2 } : TWrite)], 2⟩, some ⟨fl (enc_TWrite true) v2, 2⟩]) rfl rfl ?_
 refine RW.seq (RW.seq ?_)
 obtain ⟨y3, ey3, h3⟩ := bindS h2
 refine RW.cutq (σ := Bool) (fun y3 => [(3, .ptr 0 0), (6, .ptr 1 0), (8, .ptr 2 0), (26, .bool y3)]) (fun y3 => [some ⟨[.lst false 1 (fl (encS false) x0.Sectors) x0.Sectors.length, .lst false 2 (fl (enc_TWrite false) x0.Cache) x0.Cache.length], 0⟩, some ⟨[.nils, .nils], 0⟩, some ⟨[.sl 3 0 v1.Sectors.length, .sl 4 0 v2.length], 0⟩, some ⟨fl (encS true) v1.Sectors, 1⟩, some ⟨fl (enc_TWrite true) v2, 2⟩]) (fun y => y3 = y) (fun _ _ _ _ g h => RW.gh g h) ?_ ?_
 ·refine RW.reg ?_
  refine rl.run 1 rfl ?_
  obtain ⟨v4, e4, h4⟩ := bindS ey3
  refine rl.call rfl rfl rfl (CallW.val (r' := .bool v4) ok_impl_DiskOk (law_impl_DiskOk e4) (.cons (DFL.agg (.cons (.lst ekS) (.cons (.lst ek_TWrite) .nil))) .nil) .refl ?_)
  cases hb : v4
  ·have h5 := iteBF h4 hb
   refine rl.run 6 rfl (rl.done ?_)
   cases h5
   exact ⟨_, rfl, (Gh.ren0 [0, 1, 4, 2, 6] (.cells rfl rfl (.keep (ekS.rlst) (.keep (ek_TWrite.rlst) .nil)) (.cells rfl rfl (.keep .nils (.keep .nils .nil)) (.cells rfl rfl (.slq rfl rfl (.slq rfl rfl .nil)) (.same rfl (ekS.fref _ _) (.same rfl (ek_TWrite.fref _ _) .nil))))) rfl (.cons rfl (.ptr rfl) (.cons rfl (.ptr rfl) (.cons rfl (.ptr rfl) (.cons rfl (.dat .bool) .nil)))))⟩
  ·have h6 := iteBT h4 hb
   refine rl.run 3 rfl ?_
   obtain ⟨v5, e5, h7⟩ := bindS h6
   refine rl.call rfl rfl rfl (CallW.val (r' := .bool v5) ok_impl_DiskOk (law_impl_DiskOk e5) (.cons (DFL.agg (.cons (.slq ekS rfl rfl) (.cons (.slq ek_TWrite rfl rfl) .nil))) .nil) .refl ?_)
   cases hb : v5
   ·have h8 := iteBF h7 hb
    refine rl.run 2 rfl (rl.done ?_)
    cases h8
    exact ⟨_, rfl, (Gh.ren0 [0, 1, 4, 2, 6] (.cells rfl rfl (.keep (ekS.rlst) (.keep (ek_TWrite.rlst) .nil)) (.cells rfl rfl (.keep .nils (.keep .nils .nil)) (.cells rfl rfl (.slq rfl rfl (.slq rfl rfl .nil)) (.same rfl (ekS.fref _ _) (.same rfl (ek_TWrite.fref _ _) .nil))))) rfl (.cons rfl (.ptr rfl) (.cons rfl (.ptr rfl) (.cons rfl (.ptr rfl) (.cons rfl (.dat .bool) .nil)))))⟩
   ·have h9 := iteBT h7 hb
    refine rl.run 2 rfl (rl.done ?_)
    cases h9
    exact ⟨_, rfl, (Gh.ren0 [0, 1, 4, 2, 6] (.cells rfl rfl (.keep (ekS.rlst) (.keep (ek_TWrite.rlst) .nil)) (.cells rfl rfl (.keep .nils (.keep .nils .nil)) (.cells rfl rfl (.slq rfl rfl (.slq rfl rfl .nil)) (.same rfl (ekS.fref _ _) (.same rfl (ek_TWrite.fref _ _) .nil))))) rfl (.cons rfl (.ptr rfl) (.cons rfl (.ptr rfl) (.cons rfl (.ptr rfl) (.cons rfl (.dat .bool) .nil)))))⟩
 ·intro y hC
  subst hC
  cases hb : y3
  ·have h10 := iteBF h3 hb
   refine RW.cond_f rfl (RW.skip (RW.sreg (rl.run 3 rfl (rl.done (RW.ret ?_)))))
   cases h10
   exact RRet.mk rfl (OutT.tup (.cons (OutL.agg (.cons (OutR.ownq ekS rfl rfl) rfl (.cons (OutR.ownq ek_TWrite rfl rfl) rfl .nil))) (.cons .bool .nil))) (by first | decide | simp)
  ·have h11 := iteBT h3 hb
   refine RW.cond_t rfl (RW.sreg (rl.run 1 rfl ?_))
   obtain ⟨v6, e6, h12⟩ := bindS h11
   refine rl.call rfl rfl rfl (CallW.own (r' := .agg [.sl 5 0 v6.Sectors.length, .sl 6 0 v6.Cache.length]) (H' := [some ⟨[.lst false 1 (fl (encS false) x0.Sectors) x0.Sectors.length, .lst false 2 (fl (enc_TWrite false) x0.Cache) x0.Cache.length], 0⟩, some ⟨[.nils, .nils], 0⟩, some ⟨[.sl 3 0 v1.Sectors.length, .sl 4 0 v2.length], 0⟩, some ⟨fl (encS true) v1.Sectors, 1⟩, some ⟨fl (enc_TWrite true) v2, 2⟩, some ⟨fl (encS true) v6.Sectors, 1⟩, some ⟨fl (enc_TWrite true) v6.Cache, 2⟩]) ok_impl_cloneDisk (law_impl_cloneDisk e6) (.cons (DFL.agg (.cons (.lst ekS) (.cons (.lst ek_TWrite) .nil))) .nil) (ek_TDisk.own _) rfl ?_)
   refine rl.run 2 rfl (rl.done (RW.ret ?_))
   cases h12
   exact RRet.mk rfl (OutT.tup (.cons (OutL.agg (.cons (OutR.ownq ekS rfl rfl) rfl (.cons (OutR.ownq ek_TWrite rfl rfl) rfl .nil))) (.cons .bool .nil))) (by first | decide | simp)
theorem law_impl_WriteBytes {x0 : TDisk} {x1 : Int} {x2 : Int} {x3 : List UInt8} {r : TDisk × Bool} (hF : F_impl_WriteBytes x0 x1 x2 x3 = some r) : PCalls Try.prog 103 [.agg (enc_TDisk false x0), .int .i64 x1, .int .i64 x2, .str x3] (.tup [.agg (enc_TDisk true r.1), .bool r.2]) := by
 refine PCalls.of_r k_impl_WriteBytes rfl ?_
 unfold F_impl_WriteBytes at hF
 refine RW.sreg (rl.run 3 rfl (rl.done (RW.sreg (rl.run 1 rfl ?_))))
 obtain ⟨v1, e1, h1⟩ := bindS hF
 refine rl.call rfl rfl rfl (CallW.own (r' := .agg [.sl 2 0 v1.Sectors.length, .sl 3 0 v1.Cache.length]) (H' := [some ⟨[.lst false 1 (fl (encS false) x0.Sectors) x0.Sectors.length, .lst false 2 (fl (enc_TWrite false) x0.Cache) x0.Cache.length], 0⟩, some ⟨[.nils, .nils], 0⟩, some ⟨fl (encS true) v1.Sectors, 1⟩, some ⟨fl (enc_TWrite true) v1.Cache, 2⟩]) ok_impl_cloneDisk (law_impl_cloneDisk e1) (.cons (DFL.agg (.cons (.lst ekS) (.cons (.lst ek_TWrite) .nil))) .nil) (ek_TDisk.own _) rfl ?_)
 refine rl.run 2 rfl (rl.done (RW.seq (RW.seq ?_)))
 obtain ⟨y2, ey2, h2⟩ := bindS h1
 refine RW.cutq (σ := Bool) (fun y2 => [(1, .int .i64 x1), (2, .int .i64 x2), (3, .str x3), (4, .ptr 0 0), (8, .ptr 1 0), (10, .ptr 2 0), (30, .bool y2)]) (fun y2 => [some ⟨[.lst false 1 (fl (encS false) x0.Sectors) x0.Sectors.length, .lst false 2 (fl (enc_TWrite false) x0.Cache) x0.Cache.length], 0⟩, some ⟨[.nils, .nils], 0⟩, some ⟨[.sl 3 0 v1.Sectors.length, .sl 4 0 v1.Cache.length], 0⟩, some ⟨fl (encS true) v1.Sectors, 1⟩, some ⟨fl (enc_TWrite true) v1.Cache, 2⟩]) (fun y => y2 = y) (fun _ _ _ _ g h => RW.gh g h) ?_ ?_
 ·refine RW.reg ?_
  refine rl.run 1 rfl ?_
  obtain ⟨v3, e3, h3⟩ := bindS ey2
  refine rl.call rfl rfl rfl (CallW.val (r' := .bool v3) ok_impl_in (law_impl_in e3) (.cons .int (.cons .int (.cons .int .nil))) .refl ?_)
  cases hb : v3
  ·have h4 := iteBF h3 hb
   refine rl.run 10 rfl (rl.done ?_)
   cases h4
   exact ⟨_, rfl, (Gh.ren0 [0, 1, 4, 2, 3] (.cells rfl rfl (.keep (ekS.rlst) (.keep (ek_TWrite.rlst) .nil)) (.cells rfl rfl (.keep .nils (.keep .nils .nil)) (.cells rfl rfl (.slq rfl rfl (.slq rfl rfl .nil)) (.same rfl (ekS.fref _ _) (.same rfl (ek_TWrite.fref _ _) .nil))))) rfl (.cons rfl (.dat .int) (.cons rfl (.dat .int) (.cons rfl (.dat .str) (.cons rfl (.ptr rfl) (.cons rfl (.ptr rfl) (.cons rfl (.ptr rfl) (.cons rfl (.dat .bool) .nil))))))))⟩
  ·have h5 := iteBT h3 hb
   refine rl.run 7 rfl ?_
   obtain ⟨v4, e4, h6⟩ := bindS h5
   refine rl.call rfl rfl rfl (CallW.val (r' := .bool v4) ok_impl_in (law_impl_in e4) (.cons .int (.cons .int (.cons .int .nil))) .refl ?_)
   cases hb : v4
   ·have h7 := iteBF h6 hb
    refine rl.run 2 rfl (rl.done ?_)
    cases h7
    exact ⟨_, rfl, (Gh.ren0 [0, 1, 4, 2, 3] (.cells rfl rfl (.keep (ekS.rlst) (.keep (ek_TWrite.rlst) .nil)) (.cells rfl rfl (.keep .nils (.keep .nils .nil)) (.cells rfl rfl (.slq rfl rfl (.slq rfl rfl .nil)) (.same rfl (ekS.fref _ _) (.same rfl (ek_TWrite.fref _ _) .nil))))) rfl (.cons rfl (.dat .int) (.cons rfl (.dat .int) (.cons rfl (.dat .str) (.cons rfl (.ptr rfl) (.cons rfl (.ptr rfl) (.cons rfl (.ptr rfl) (.cons rfl (.dat .bool) .nil))))))))⟩
   ·have h8 := iteBT h6 hb
    refine rl.run 2 rfl (rl.done ?_)
    cases h8
    exact ⟨_, rfl, (Gh.ren0 [0, 1, 4, 2, 3] (.cells rfl rfl (.keep (ekS.rlst) (.keep (ek_TWrite.rlst) .nil)) (.cells rfl rfl (.keep .nils (.keep .nils .nil)) (.cells rfl rfl (.slq rfl rfl (.slq rfl rfl .nil)) (.same rfl (ekS.fref _ _) (.same rfl (ek_TWrite.fref _ _) .nil))))) rfl (.cons rfl (.dat .int) (.cons rfl (.dat .int) (.cons rfl (.dat .str) (.cons rfl (.ptr rfl) (.cons rfl (.ptr rfl) (.cons rfl (.ptr rfl) (.cons rfl (.dat .bool) .nil))))))))⟩
 ·intro y hC
  subst hC
  cases hb : y2
  ·have h9 := iteBF h2 hb
   refine RW.cond_f rfl (RW.skip (RW.sreg (rl.run 1 rfl ?_)))
   obtain ⟨v5, e5, h10⟩ := bindS h9
   refine rl.call rfl rfl rfl (CallW.own (r' := .agg [.sl 5 0 v5.Sectors.length, .sl 6 0 v5.Cache.length]) (H' := [some ⟨[.lst false 1 (fl (encS false) x0.Sectors) x0.Sectors.length, .lst false 2 (fl (enc_TWrite false) x0.Cache) x0.Cache.length], 0⟩, some ⟨[.nils, .nils], 0⟩, some ⟨[.sl 3 0 v1.Sectors.length, .sl 4 0 v1.Cache.length], 0⟩, some ⟨fl (encS true) v1.Sectors, 1⟩, some ⟨fl (enc_TWrite true) v1.Cache, 2⟩, some ⟨fl (encS true) v5.Sectors, 1⟩, some ⟨fl (enc_TWrite true) v5.Cache, 2⟩]) ok_impl_cloneDisk (law_impl_cloneDisk e5) (.cons (DFL.agg (.cons (.lst ekS) (.cons (.lst ek_TWrite) .nil))) .nil) (ek_TDisk.own _) rfl ?_)
   refine rl.run 2 rfl (rl.done (RW.seq ?_))
   obtain ⟨y17, ey17, h12⟩ := bindS h10
   refine RW.cutq (σ := (List (List UInt8)) × (List TWrite)) (fun y7 => [(8, .ptr 0 0), (11, .ptr 1 0)]) (fun y7 => [some ⟨[.nils, .nils], 0⟩, some ⟨[.sl 2 0 y7.1.length, .sl 3 0 y7.2.length], 0⟩, some ⟨fl (encS true) y7.1, 1⟩, some ⟨fl (enc_TWrite true) y7.2, 2⟩]) (fun y => y17 = .inr y) (fun _ _ _ _ g h => RW.gh g h) ?_ ?_
   ·refine RW.blk ?_
    refine RW.iter (σ := Int × (List UInt8) × (List (List UInt8)) × (List TWrite)) ey17 (fun s6 => [(1, .int .i64 x1), (2, .int .i64 s6.1), (3, .str s6.2.1), (8, .ptr 0 0), (10, .ptr 1 0), (11, .ptr 2 0)]) (fun s6 => [some ⟨[.nils, .nils], 0⟩, some ⟨[.sl 3 0 v1.Sectors.length, .sl 4 0 v1.Cache.length], 0⟩, some ⟨[.sl 5 0 s6.2.2.1.length, .sl 6 0 s6.2.2.2.length], 0⟩, some ⟨fl (encS true) v1.Sectors, 1⟩, some ⟨fl (enc_TWrite true) v1.Cache, 2⟩, some ⟨fl (encS true) s6.2.2.1, 1⟩, some ⟨fl (enc_TWrite true) s6.2.2.2, 2⟩]) (Gh.ren0 [1, 2, 7, 3, 4, 5, 6] (.cells rfl rfl (.keep .nils (.keep .nils .nil)) (.cells rfl rfl (.slq rfl rfl (.slq rfl rfl .nil)) (.cells rfl rfl (.slq rfl rfl (.slq rfl rfl .nil)) (.same rfl (ekS.fref _ _) (.same rfl (ek_TWrite.fref _ _) (.same rfl (ekS.fref _ _) (.same rfl (ek_TWrite.fref _ _) .nil))))))) rfl (.cons rfl (.dat .int) (.cons rfl (.dat .int) (.cons rfl (.dat .str) (.cons rfl (.ptr rfl) (.cons rfl (.ptr rfl) (.cons rfl (.ptr rfl) .nil))))))) (fun s6 B o hS11 hB11 hE11 => ?_)
    unfold S_impl_WriteBytes_1 at hS11
    refine RW.seq (RW.sreg (rl.run 1 rfl ?_))
    refine rl.gen rfl rfl fun b hb => ?_
    cases b
    ·have h13 := iteBF hS11 hb
     refine rl.done (RW.cond_f rfl (RW.exit (blkA_eq ?_)))
     cases h13
     exact ⟨_, (hE11 _ rfl).symm, (Gh.ren0 [0, 2, 5, 6] (.cells rfl rfl (.keep .nils (.keep .nils .nil)) (.cells rfl rfl (.slq rfl rfl (.slq rfl rfl .nil)) (.same rfl (ekS.fref _ _) (.same rfl (ek_TWrite.fref _ _) .nil)))) rfl (.cons rfl (.ptr rfl) (.cons rfl (.ptr rfl) .nil)))⟩
    ·have h14 := iteBT hS11 hb
     refine rl.done (RW.cond_t rfl (RW.skip (RW.blk (RW.sreg (rl.run 5 rfl (rl.done (RW.sreg (rl.run 3 rfl (rl.done (RW.sreg (rl.run 2 rfl ?_)))))))))))
     obtain ⟨v8, e8, h15⟩ := bindS h14
     refine rl.call rfl rfl rfl (CallW.val (r' := .tup [.str v8.1, .bool v8.2]) ok_impl_ReadSector (law_impl_ReadSector e8) (.cons (DFL.agg (.cons (.slq ekS rfl rfl) (.cons (.slq ek_TWrite rfl rfl) .nil))) (.cons .int .nil)) (FlL.tup (.cons .refl (.cons .refl .nil))) ?_)
     refine rl.run 5 rfl (rl.done ?_)
     refine RW.keep [1, 2, 3, 8, 10, 11, 12, 13, 14, 15] (a' := [(1, .int .i64 x1), (2, .int .i64 s6.1), (3, .str s6.2.1), (8, .ptr 0 0), (10, .ptr 1 0), (11, .ptr 2 0), (12, .int .i64 (w64 (x1 + (w64 (Int.tdiv s6.1 32))))), (13, .int .i64 (Int.tmod s6.1 32)), (14, .str v8.1), (15, .bool v8.2)]) (H' := [some ⟨[.nils, .nils], 0⟩, some ⟨[.sl 3 0 v1.Sectors.length, .sl 4 0 v1.Cache.length], 0⟩, some ⟨[.sl 5 0 s6.2.2.1.length, .sl 6 0 s6.2.2.2.length], 0⟩, some ⟨fl (encS true) v1.Sectors, 1⟩, some ⟨fl (enc_TWrite true) v1.Cache, 2⟩, some ⟨fl (encS true) s6.2.2.1, 1⟩, some ⟨fl (enc_TWrite true) s6.2.2.2, 2⟩]) rfl rfl ?_
     refine RW.seq (RW.seq ?_)
     obtain ⟨y9, ey9, h16⟩ := bindS h15
     refine RW.cutq (σ := Bool) (fun y9 => [(1, .int .i64 x1), (2, .int .i64 s6.1), (3, .str s6.2.1), (8, .ptr 0 0), (10, .ptr 1 0), (11, .ptr 2 0), (12, .int .i64 (w64 (x1 + (w64 (Int.tdiv s6.1 32))))), (13, .int .i64 (Int.tmod s6.1 32)), (14, .str v8.1), (54, .bool y9)]) (fun y9 => [some ⟨[.nils, .nils], 0⟩, some ⟨[.sl 3 0 v1.Sectors.length, .sl 4 0 v1.Cache.length], 0⟩, some ⟨[.sl 5 0 s6.2.2.1.length, .sl 6 0 s6.2.2.2.length], 0⟩, some ⟨fl (encS true) v1.Sectors, 1⟩, some ⟨fl (enc_TWrite true) v1.Cache, 2⟩, some ⟨fl (encS true) s6.2.2.1, 1⟩, some ⟨fl (enc_TWrite true) s6.2.2.2, 2⟩]) (fun y => y9 = y) (fun _ _ _ _ g h => RW.gh g h) ?_ ?_
     ·refine RW.reg ?_
      refine rl.run 3 rfl ?_
      cases hb : (!v8.2)
      ·have h17 := iteBF ey9 hb
       refine rl.run 2 rfl ?_
       refine rl.gen rfl rfl fun b hb => ?_
       cases b
       ·have h18 := iteBF h17 hb
        refine rl.run 1 rfl (rl.done ?_)
        cases h18
        exact ⟨_, rfl, (Gh.ren0 [0, 1, 2, 3, 4, 5, 6] (.cells rfl rfl (.keep .nils (.keep .nils .nil)) (.cells rfl rfl (.slq rfl rfl (.slq rfl rfl .nil)) (.cells rfl rfl (.slq rfl rfl (.slq rfl rfl .nil)) (.same rfl (ekS.fref _ _) (.same rfl (ek_TWrite.fref _ _) (.same rfl (ekS.fref _ _) (.same rfl (ek_TWrite.fref _ _) .nil))))))) rfl (.cons rfl (.dat .int) (.cons rfl (.dat .int) (.cons rfl (.dat .str) (.cons rfl (.ptr rfl) (.cons rfl (.ptr rfl) (.cons rfl (.ptr rfl) (.cons rfl (.dat .int) (.cons rfl (.dat .int) (.cons rfl (.dat .str) (.cons rfl (.dat .bool) .nil)))))))))))⟩
       ·have h19 := iteBT h17 hb
        refine rl.run 1 rfl (rl.done ?_)
        cases h19
        exact ⟨_, rfl, (Gh.ren0 [0, 1, 2, 3, 4, 5, 6] (.cells rfl rfl (.keep .nils (.keep .nils .nil)) (.cells rfl rfl (.slq rfl rfl (.slq rfl rfl .nil)) (.cells rfl rfl (.slq rfl rfl (.slq rfl rfl .nil)) (.same rfl (ekS.fref _ _) (.same rfl (ek_TWrite.fref _ _) (.same rfl (ekS.fref _ _) (.same rfl (ek_TWrite.fref _ _) .nil))))))) rfl (.cons rfl (.dat .int) (.cons rfl (.dat .int) (.cons rfl (.dat .str) (.cons rfl (.ptr rfl) (.cons rfl (.ptr rfl) (.cons rfl (.ptr rfl) (.cons rfl (.dat .int) (.cons rfl (.dat .int) (.cons rfl (.dat .str) (.cons rfl (.dat .bool) .nil)))))))))))⟩
      ·have h20 := iteBT ey9 hb
       refine rl.run 4 rfl (rl.done ?_)
       cases h20
       exact ⟨_, rfl, (Gh.ren0 [0, 1, 2, 3, 4, 5, 6] (.cells rfl rfl (.keep .nils (.keep .nils .nil)) (.cells rfl rfl (.slq rfl rfl (.slq rfl rfl .nil)) (.cells rfl rfl (.slq rfl rfl (.slq rfl rfl .nil)) (.same rfl (ekS.fref _ _) (.same rfl (ek_TWrite.fref _ _) (.same rfl (ekS.fref _ _) (.same rfl (ek_TWrite.fref _ _) .nil))))))) rfl (.cons rfl (.dat .int) (.cons rfl (.dat .int) (.cons rfl (.dat .str) (.cons rfl (.ptr rfl) (.cons rfl (.ptr rfl) (.cons rfl (.ptr rfl) (.cons rfl (.dat .int) (.cons rfl (.dat .int) (.cons rfl (.dat .str) (.cons rfl (.dat .bool) .nil)))))))))))⟩
     ·intro y hC
      subst hC
      cases hb : y9
      ·have h21 := iteBF h16 hb
       refine RW.cond_f rfl (RW.skip (RW.sreg (rl.run 6 rfl (rl.done (RW.sdrw (rdraw.op rfl rfl (rdraw.op rfl rfl (rdraw.op rfl rfl (rdraw.op rfl rfl ?_)))))))))
       obtain ⟨v10, e10, h22⟩ := bindS h21
       refine rdraw.op rfl (x_sls rfl rfl rfl abnd_hi e10) ?_
       refine rdraw.op rfl rfl (rdraw.op rfl rfl ?_)
       obtain ⟨v11, e11, h23⟩ := bindS h22
       refine rdraw.op rfl (x_sls rfl rfl rfl abnd_hi e11) ?_
       obtain ⟨v12, e12, h24⟩ := bindS h23
       refine rdraw.op rfl (x_cat rfl rfl e12) ?_
       refine rdraw.op rfl rfl (rdraw.op rfl rfl (rdraw.op rfl rfl (rdraw.op rfl rfl ?_)))
       obtain ⟨v13, e13, h25⟩ := bindS h24
       refine rdraw.op rfl (x_sls rfl rfl rfl abnd_lo e13) ?_
       obtain ⟨v14, e14, h26⟩ := bindS h25
       refine rdraw.op rfl (x_cat rfl rfl e14) ?_
       obtain ⟨v15, e15, h27⟩ := bindS h26
       refine rdraw.ccall rfl rfl rfl (CallW.own (r' := .tup [.agg [.sl 7 0 v15.1.Sectors.length, .sl 8 0 v15.1.Cache.length], .bool v15.2]) (H' := [some ⟨[.nils, .nils], 0⟩, some ⟨[.sl 3 0 v1.Sectors.length, .sl 4 0 v1.Cache.length], 0⟩, some ⟨[.sl 5 0 s6.2.2.1.length, .sl 6 0 s6.2.2.2.length], 0⟩, some ⟨fl (encS true) v1.Sectors, 1⟩, some ⟨fl (enc_TWrite true) v1.Cache, 2⟩, some ⟨fl (encS true) s6.2.2.1, 1⟩, some ⟨fl (enc_TWrite true) s6.2.2.2, 2⟩, some ⟨fl (encS true) v15.1.Sectors, 1⟩, some ⟨fl (enc_TWrite true) v15.1.Cache, 2⟩]) ok_impl_WriteSector (law_impl_WriteSector e15) (.cons (DFL.agg (.cons (.slq ekS rfl rfl) (.cons (.slq ek_TWrite rfl rfl) .nil))) (.cons .int (.cons .str .nil))) (fac (ek_TDisk.own _) (fac .bool fan)) rfl ?_)
       refine rdraw.op rfl rfl (rdraw.op rfl rfl (rdraw.op rfl rfl ?_))
       refine rdraw.chnB rfl rfl (.here (.rx rfl) (.skip rfl (.skip rfl (.skip rfl (.skip rfl (.skip rfl (.skip rfl (.skip rfl (.skip rfl (.skip rfl (.skip rfl (.skip rfl (.skip rfl (.skip rfl (.skip rfl (.skip rfl (.skip rfl (.skip rfl .nil)))))))))))))))))) ?_
       refine rdraw.op rfl rfl (rdraw.done ?_)
       refine RW.keep [1, 2, 3, 8, 10, 11, 15, 16] (a' := [(1, .int .i64 x1), (2, .int .i64 s6.1), (3, .str s6.2.1), (8, .ptr 0 0), (10, .ptr 1 0), (11, .ptr 2 0), (15, .bool v15.2), (16, .int .i64 (if w64 (32 - (Int.tmod s6.1 32)) < (s6.2.1.length : Int) then w64 (32 - (Int.tmod s6.1 32)) else (s6.2.1.length : Int)))]) (H' := [some ⟨[.nils, .nils], 0⟩, some ⟨[.sl 3 0 v1.Sectors.length, .sl 4 0 v1.Cache.length], 0⟩, some ⟨[.sl 7 0 v15.1.Sectors.length, .sl 8 0 v15.1.Cache.length], 0⟩, some ⟨fl (encS true) v1.Sectors, 1⟩, some ⟨fl (enc_TWrite true) v1.Cache, 2⟩, some ⟨fl (encS true) s6.2.2.1, 1⟩, some ⟨fl (enc_TWrite true) s6.2.2.2, 2⟩, some ⟨fl (encS true) v15.1.Sectors, 1⟩, some ⟨fl (enc_TWrite true) v15.1.Cache, 2⟩]) rfl rfl ?_
       refine RW.seq (RW.sreg (rl.run 2 rfl (rl.done ?_)))
       cases hb : (!v15.2)
       ·have h28 := iteBF h27 hb
        refine RW.cond_f rfl (RW.skip (RW.sreg (rl.run 2 rfl ?_)))
        obtain ⟨v16, e16, h29⟩ := bindS h28
        refine rl.op (x_sls rfl rfl rfl abnd_lo e16) ?_
        refine rl.run 1 rfl (rl.done (RW.reg (rl.run 4 rfl (rl.done ?_))))
        cases h29
        exact hB11 _ rfl _ _ (Gh.ren0 [0, 1, 2, 3, 4, 7, 8] (.cells rfl rfl (.keep .nils (.keep .nils .nil)) (.cells rfl rfl (.slq rfl rfl (.slq rfl rfl .nil)) (.cells rfl rfl (.slq rfl rfl (.slq rfl rfl .nil)) (.same rfl (ekS.fref _ _) (.same rfl (ek_TWrite.fref _ _) (.same rfl (ekS.fref _ _) (.same rfl (ek_TWrite.fref _ _) .nil))))))) rfl (.cons rfl (.dat .int) (.cons rfl (.dat .int) (.cons rfl (.dat .str) (.cons rfl (.ptr rfl) (.cons rfl (.ptr rfl) (.cons rfl (.ptr rfl) .nil)))))))
       ·have h30 := iteBT h27 hb
        refine RW.cond_t rfl (RW.sreg (rl.run 3 rfl (rl.done (RW.ret ?_))))
        cases h30
        have h31 := elimL h12 (hE11 _ rfl)
        cases h31
        exact RRet.mk rfl (OutT.tup (.cons (OutL.agg (.cons (OutR.ownq ekS rfl rfl) rfl (.cons (OutR.ownq ek_TWrite rfl rfl) rfl .nil))) (.cons .bool .nil))) (by first | decide | simp)
      ·have h32 := iteBT h16 hb
       refine RW.cond_t rfl (RW.sreg (rl.run 3 rfl (rl.done (RW.ret ?_))))
       cases h32
       have h33 := elimL h12 (hE11 _ rfl)
       cases h33
       exact RRet.mk rfl (OutT.tup (.cons (OutL.agg (.cons (OutR.ownq ekS rfl rfl) rfl (.cons (OutR.ownq ek_TWrite rfl rfl) rfl .nil))) (.cons .bool .nil))) (by first | decide | simp)
   ·intro y7 hC
    have h12 := elimR h12 hC
    refine RW.sreg (rl.run 3 rfl (rl.done (RW.ret ?_)))
    cases h12
    exact RRet.mk rfl (OutT.tup (.cons (OutL.agg (.cons (OutR.ownq ekS rfl rfl) rfl (.cons (OutR.ownq ek_TWrite rfl rfl) rfl .nil))) (.cons .bool .nil))) (by first | decide | simp)
  ·have h34 := iteBT h2 hb
   refine RW.cond_t rfl (RW.sreg (rl.run 3 rfl (rl.done (RW.ret ?_))))
   cases h34
   exact RRet.mk rfl (OutT.tup (.cons (OutL.agg (.cons (OutR.ownq ekS rfl rfl) rfl (.cons (OutR.ownq ek_TWrite rfl rfl) rfl .nil))) (.cons .bool .nil))) (by first | decide | simp)
theorem law_impl_region {x0 : Int} {r : Int} (hF : F_impl_region x0 = some r) : PCalls Try.prog 104 [.int .i64 x0] (.int .i64 r) := by
 refine PCalls.of_r k_impl_region rfl ?_
 unfold F_impl_region at hF
 refine RW.sreg (rl.run 1 rfl (rl.done (RW.sreg (rl.run 4 rfl (rl.done (RW.ret ?_))))))
 cases hF
 exact RRet.mk rfl .int (by first | decide | simp)
theorem law_impl_FlushDisk {x0 : TDisk} {r : TDisk} (hF : F_impl_FlushDisk x0 = some r) : PCalls Try.prog 105 [.agg (enc_TDisk false x0)] (.agg (enc_TDisk true r)) := by
 refine PCalls.of_r k_impl_FlushDisk rfl ?_
 unfold F_impl_FlushDisk at hF
 refine RW.sreg (rl.run 2 rfl (rl.done (RW.sreg (rl.run 1 rfl ?_))))
 obtain ⟨v1, e1, h1⟩ := bindS hF
 refine rl.call rfl rfl rfl (CallW.own (r' := .agg [.sl 2 0 v1.Sectors.length, .sl 3 0 v1.Cache.length]) (H' := [some ⟨[.lst false 1 (fl (encS false) x0.Sectors) x0.Sectors.length, .lst false 2 (fl (enc_TWrite false) x0.Cache) x0.Cache.length], 0⟩, some ⟨[.nils, .nils], 0⟩, some ⟨fl (encS true) v1.Sectors, 1⟩, some ⟨fl (enc_TWrite true) v1.Cache, 2⟩]) ok_impl_cloneDisk (law_impl_cloneDisk e1) (.cons (DFL.agg (.cons (.lst ekS) (.cons (.lst ek_TWrite) .nil))) .nil) (ek_TDisk.own _) rfl ?_)
 refine rl.run 2 rfl (rl.done (RW.seq (RW.sreg (rl.run 1 rfl ?_))))
 obtain ⟨v2, e2, h2⟩ := bindS h1
 refine rl.call rfl rfl rfl (CallW.val (r' := .bool v2) ok_impl_DiskOk (law_impl_DiskOk e2) (.cons (DFL.agg (.cons (.lst ekS) (.cons (.lst ek_TWrite) .nil))) .nil) .refl ?_)
 cases hb : v2
 ·have h3 := iteBF h2 hb
  refine rl.run 1 rfl (rl.done (RW.cond_t rfl (RW.sreg (rl.run 2 rfl (rl.done (RW.ret ?_))))))
  cases h3
  exact RRet.mk rfl (OutL.agg (.cons (OutR.ownq ekS rfl rfl) rfl (.cons (OutR.ownq ek_TWrite rfl rfl) rfl .nil))) (by first | decide | simp)
 ·have h4 := iteBT h2 hb
  refine rl.run 1 rfl (rl.done (RW.cond_f rfl (RW.skip (RW.seq (RW.sreg (rl.run 4 rfl (rl.done ?_)))))))
  obtain ⟨y8, ey8, h6⟩ := bindS h4
  refine RW.cutq (σ := (List (List UInt8))) (fun y4 => [(2, .ptr 0 0), (3, .ptr 1 0)]) (fun y4 => [some ⟨[.nils, .nils], 0⟩, some ⟨[.sl 2 0 y4.length, .sl 3 0 v1.Cache.length], 0⟩, some ⟨fl (encS true) y4, 1⟩, some ⟨fl (enc_TWrite true) v1.Cache, 2⟩]) (fun y => y8 = y) (fun _ _ _ _ g h => RW.gh g h) ?_ ?_
  ·refine RW.blk ?_
   refine RW.iter (σ := Int × (List (List UInt8))) ey8 (fun s3 => [(2, .ptr 0 0), (3, .ptr 1 0), (13, .lst false 2 (fl (enc_TWrite false) x0.Cache) x0.Cache.length), (14, .int .i64 (x0.Cache.length : Int)), (15, .int .i64 s3.1)]) (fun s3 => [some ⟨[.nils, .nils], 0⟩, some ⟨[.sl 2 0 s3.2.length, .sl 3 0 v1.Cache.length], 0⟩, some ⟨fl (encS true) s3.2, 1⟩, some ⟨fl (enc_TWrite true) v1.Cache, 2⟩]) (Gh.ren0 [1, 4, 2, 3] (.cells rfl rfl (.keep .nils (.keep .nils .nil)) (.cells rfl rfl (.slq rfl rfl (.slq rfl rfl .nil)) (.same rfl (ekS.fref _ _) (.same rfl (ek_TWrite.fref _ _) .nil)))) rfl (.cons rfl (.ptr rfl) (.cons rfl (.ptr rfl) (.cons rfl (.dat (ek_TWrite.rlst)) (.cons rfl (.dat .int) (.cons rfl (.dat .int) .nil)))))) (fun s3 B o hS5 hB5 hE5 => ?_)
   unfold S_impl_FlushDisk_1 at hS5
   refine RW.sreg ?_
   refine rl.gen rfl rfl fun b hb => ?_
   cases b
   ·have h7 := iteBF hS5 hb
    refine rl.done (RW.seq (RW.cond_f rfl (RW.exit (blkA_eq ?_))))
    cases h7
    exact ⟨_, (hE5 _ rfl).symm, (Gh.ren0 [0, 1, 2, 3] (.cells rfl rfl (.keep .nils (.keep .nils .nil)) (.cells rfl rfl (.slq rfl rfl (.slq rfl rfl .nil)) (.same rfl (ekS.fref _ _) (.same rfl (ek_TWrite.fref _ _) .nil)))) rfl (.cons rfl (.ptr rfl) (.cons rfl (.ptr rfl) .nil)))⟩
   ·have h8 := iteBT hS5 hb
    refine rl.done (RW.seq (RW.cond_t rfl (RW.skip (RW.seq (RW.blk (RW.sreg ?_))))))
    obtain ⟨v5, e5, h9⟩ := bindS h8
    refine rl.op (x_ia_lst (enc := enc_TWrite) (o := false) rfl rfl rfl e5) ?_
    refine rl.op (x_ld_ela (off' := 0) (vs := (enc_TWrite false v5)) ek_TWrite rfl e5 rfl rfl rfl) ?_
    refine rl.run 2 rfl (rl.done (RW.reg (rl.run 6 rfl ?_)))
    obtain ⟨v6, e6, h10⟩ := bindS h9
    refine rl.op (x_ia_sl rfl rfl rfl rfl e6) ?_
    obtain ⟨v7, e7, h11⟩ := bindS h10
    refine rl.op0 (x_st_sl' (off' := 0) (o := true) (e' := v5.Text) ekS e6 rfl rfl rfl rfl rfl rfl rfl rfl rfl e7) ?_
    refine rl.done (RW.reg (rl.run 2 rfl (rl.done ?_)))
    cases h11
    exact hB5 _ rfl _ _ (Gh.ren0 [0, 1, 2, 3] (.cells rfl rfl (.keep .nils (.keep .nils .nil)) (.cells rfl rfl (.slq rfl (set'_len e7) (.slq rfl rfl .nil)) (.same rfl (ekS.fref _ _) (.same rfl (ek_TWrite.fref _ _) .nil)))) rfl (.cons rfl (.ptr rfl) (.cons rfl (.ptr rfl) (.cons rfl (.dat (ek_TWrite.rlst)) (.cons rfl (.dat .int) (.cons rfl (.dat .int) .nil))))))
  ·intro y4 hC
   subst hC
   refine RW.sreg (rl.run 2 rfl (rl.done (RW.sreg (rl.run 2 rfl (rl.done (RW.ret ?_))))))
   cases h6
   exact RRet.mk rfl (OutL.agg (.cons (OutR.ownq ekS rfl rfl) rfl (.cons (OutR.nil (enc := enc_TWrite)) rfl .nil))) (by first | decide | simp)
theorem law_impl_WriteCheck {x0 : TDisk} {x1 : TCheck} {r : TDisk × Bool} (hF : F_impl_WriteCheck x0 x1 = some r) : PCalls Try.prog 49 [.agg (enc_TDisk false x0), .agg (enc_TCheck false x1)] (.tup [.agg (enc_TDisk true r.1), .bool r.2]) := by
 refine PCalls.of_r k_impl_WriteCheck rfl ?_
 unfold F_impl_WriteCheck at hF
 refine RW.sreg (rl.run 4 rfl (rl.done (RW.sreg (rl.run 1 rfl ?_))))
 obtain ⟨v1, e1, h1⟩ := bindS hF
 refine rl.call rfl rfl rfl (CallW.val (r' := .tup [.str v1.1, .bool v1.2]) ok_impl_CheckText (law_impl_CheckText e1) (.cons (DFL.agg (.cons .int (.cons .int (.cons .int (.cons .int (.cons (.lst ek_TRef) .nil)))))) .nil) (FlL.tup (.cons .refl (.cons .refl .nil))) ?_)
 refine rl.run 5 rfl (rl.done (RW.seq (RW.sreg (rl.run 1 rfl ?_))))
 obtain ⟨v2, e2, h2⟩ := bindS h1
 refine rl.call rfl rfl rfl (CallW.val (r' := .bool v2) ok_impl_DiskOk (law_impl_DiskOk e2) (.cons (DFL.agg (.cons (.lst ekS) (.cons (.lst ek_TWrite) .nil))) .nil) .refl ?_)
 cases hb : v2
 ·have h3 := iteBF h2 hb
  refine rl.run 5 rfl (rl.done ?_)
  refine RW.keep [2, 3, 4, 6, 21] (a' := [(2, .ptr 0 0), (3, .ptr 1 0), (4, .ptr 2 0), (6, .str v1.1), (21, .bool true)]) (H' := [some ⟨[.lst false 1 (fl (encS false) x0.Sectors) x0.Sectors.length, .lst false 2 (fl (enc_TWrite false) x0.Cache) x0.Cache.length], 0⟩, some ⟨[.int .i64 x1.Stamp, .int .i64 x1.NextGen, .int .i64 x1.NextSeq, .int .i64 x1.NextValid, .lst false 2 (fl (enc_TRef false) x1.Refs) x1.Refs.length], 0⟩, some ⟨[.nils, .nils], 0⟩]) rfl rfl ?_
  refine RW.cond_t rfl (RW.sreg (rl.run 1 rfl ?_))
  obtain ⟨v3, e3, h4⟩ := bindS h3
  refine rl.call rfl rfl rfl (CallW.own (r' := .agg [.sl 3 0 v3.Sectors.length, .sl 4 0 v3.Cache.length]) (H' := [some ⟨[.lst false 1 (fl (encS false) x0.Sectors) x0.Sectors.length, .lst false 2 (fl (enc_TWrite false) x0.Cache) x0.Cache.length], 0⟩, some ⟨[.int .i64 x1.Stamp, .int .i64 x1.NextGen, .int .i64 x1.NextSeq, .int .i64 x1.NextValid, .lst false 2 (fl (enc_TRef false) x1.Refs) x1.Refs.length], 0⟩, some ⟨[.nils, .nils], 0⟩, some ⟨fl (encS true) v3.Sectors, 1⟩, some ⟨fl (enc_TWrite true) v3.Cache, 2⟩]) ok_impl_cloneDisk (law_impl_cloneDisk e3) (.cons (DFL.agg (.cons (.lst ekS) (.cons (.lst ek_TWrite) .nil))) .nil) (ek_TDisk.own _) rfl ?_)
  refine rl.run 2 rfl (rl.done (RW.ret ?_))
  cases h4
  exact RRet.mk rfl (OutT.tup (.cons (OutL.agg (.cons (OutR.ownq ekS rfl rfl) rfl (.cons (OutR.ownq ek_TWrite rfl rfl) rfl .nil))) (.cons .bool .nil))) (by first | decide | simp)
 ·have h5 := iteBT h2 hb
  refine rl.run 5 rfl (rl.done ?_)
  refine RW.keep [2, 3, 4, 6, 21] (a' := [(2, .ptr 0 0), (3, .ptr 1 0), (4, .ptr 2 0), (6, .str v1.1), (21, .bool (!v1.2))]) (H' := [some ⟨[.lst false 1 (fl (encS false) x0.Sectors) x0.Sectors.length, .lst false 2 (fl (enc_TWrite false) x0.Cache) x0.Cache.length], 0⟩, some ⟨[.int .i64 x1.Stamp, .int .i64 x1.NextGen, .int .i64 x1.NextSeq, .int .i64 x1.NextValid, .lst false 2 (fl (enc_TRef false) x1.Refs) x1.Refs.length], 0⟩, some ⟨[.nils, .nils], 0⟩]) rfl rfl ?_
  cases hb : (!v1.2)
  ·have h6 := iteBF h5 hb
   refine RW.cond_f rfl (RW.skip (RW.sdrw (rdraw.op rfl rfl (rdraw.op rfl rfl (rdraw.op rfl rfl ?_)))))
   obtain ⟨v4, e4, h7⟩ := bindS h6
   refine rdraw.call rfl rfl rfl (CallW.val (r' := .int .i64 v4) ok_impl_region (law_impl_region e4) (.cons .int .nil) .refl ⟨rfl, ?_⟩)
   refine rdraw.op rfl rfl ?_
   obtain ⟨v5, e5, h8⟩ := bindS h7
   refine rdraw.call rfl rfl rfl (CallW.val (r' := .tup [.agg (enc_TDisk false v5.1), .bool v5.2]) ok_impl_WriteBytes (law_impl_WriteBytes e5) (.cons (DFL.agg (.cons (.lst ekS) (.cons (.lst ek_TWrite) .nil))) (.cons .int (.cons .int (.cons .str .nil)))) (FlL.tup (.cons (ek_TDisk.flag _).agg (.cons .refl .nil))) ⟨rfl, ?_⟩)
   refine rdraw.op rfl rfl (rdraw.op rfl rfl (rdraw.op rfl rfl ?_))
   refine rdraw.chnB rfl rfl (.here (.rx rfl) (.here (.rx rfl) (.here (.rx rfl) (.here (.cl rfl rfl (CallW.val (r' := .tup [.agg (enc_TDisk false v5.1), .bool v5.2]) ok_impl_WriteBytes (law_impl_WriteBytes e5) (.cons (DFL.agg (.cons (.lst ekS) (.cons (.lst ek_TWrite) .nil))) (.cons .int (.cons .int (.cons .str .nil)))) (FlL.tup (.cons (ek_TDisk.flag _).agg (.cons .refl .nil))) ⟨rfl, rfl⟩)) (.here (.rx rfl) (.here (.cl rfl rfl (CallW.val (r' := .int .i64 v4) ok_impl_region (law_impl_region e4) (.cons .int .nil) .refl ⟨rfl, rfl⟩)) (.here (.rx rfl) (.here (.rx rfl) (.here (.rx rfl) .nil))))))))) ?_
   refine rdraw.chnB rfl rfl (.here (.rx rfl) (.skip rfl (.skip rfl (.skip rfl (.skip rfl (.skip rfl (.skip rfl (.skip rfl (.skip rfl .nil))))))))) ?_
   refine rdraw.op rfl rfl (rdraw.done ?_)
   refine RW.keep [2, 4, 8, 9] (a' := [(2, .ptr 0 0), (4, .ptr 2 0), (8, .ptr 3 0), (9, .bool v5.2)]) (H' := [some ⟨[.lst false 1 (fl (encS false) x0.Sectors) x0.Sectors.length, .lst false 2 (fl (enc_TWrite false) x0.Cache) x0.Cache.length], 0⟩, some ⟨[.int .i64 x1.Stamp, .int .i64 x1.NextGen, .int .i64 x1.NextSeq, .int .i64 x1.NextValid, .lst false 2 (fl (enc_TRef false) x1.Refs) x1.Refs.length], 0⟩, some ⟨[.nils, .nils], 0⟩, some ⟨[.lst false 1 (fl (encS false) v5.1.Sectors) v5.1.Sectors.length, .lst false 2 (fl (enc_TWrite false) v5.1.Cache) v5.1.Cache.length], 0⟩]) rfl rfl ?_
   refine RW.seq (RW.sreg (rl.run 2 rfl (rl.done ?_)))
   cases hb : (!v5.2)
   ·have h9 := iteBF h8 hb
    refine RW.cond_f rfl (RW.skip (RW.sreg (rl.run 1 rfl ?_)))
    obtain ⟨v6, e6, h10⟩ := bindS h9
    refine rl.call rfl rfl rfl (CallW.own (r' := .agg [.sl 4 0 v6.Sectors.length, .sl 5 0 v6.Cache.length]) (H' := [some ⟨[.lst false 1 (fl (encS false) x0.Sectors) x0.Sectors.length, .lst false 2 (fl (enc_TWrite false) x0.Cache) x0.Cache.length], 0⟩, some ⟨[.int .i64 x1.Stamp, .int .i64 x1.NextGen, .int .i64 x1.NextSeq, .int .i64 x1.NextValid, .lst false 2 (fl (enc_TRef false) x1.Refs) x1.Refs.length], 0⟩, some ⟨[.nils, .nils], 0⟩, some ⟨[.lst false 1 (fl (encS false) v5.1.Sectors) v5.1.Sectors.length, .lst false 2 (fl (enc_TWrite false) v5.1.Cache) v5.1.Cache.length], 0⟩, some ⟨fl (encS true) v6.Sectors, 1⟩, some ⟨fl (enc_TWrite true) v6.Cache, 2⟩]) ok_impl_FlushDisk (law_impl_FlushDisk e6) (.cons (DFL.agg (.cons (.lst ekS) (.cons (.lst ek_TWrite) .nil))) .nil) (ek_TDisk.own _) rfl ?_)
    refine rl.run 2 rfl (rl.done (RW.ret ?_))
    cases h10
    exact RRet.mk rfl (OutT.tup (.cons (OutL.agg (.cons (OutR.ownq ekS rfl rfl) rfl (.cons (OutR.ownq ek_TWrite rfl rfl) rfl .nil))) (.cons .bool .nil))) (by first | decide | simp)
   ·have h11 := iteBT h8 hb
    refine RW.cond_t rfl (RW.sreg (rl.run 1 rfl ?_))
    obtain ⟨v7, e7, h12⟩ := bindS h11
    refine rl.call rfl rfl rfl (CallW.own (r' := .agg [.sl 4 0 v7.Sectors.length, .sl 5 0 v7.Cache.length]) (H' := [some ⟨[.lst false 1 (fl (encS false) x0.Sectors) x0.Sectors.length, .lst false 2 (fl (enc_TWrite false) x0.Cache) x0.Cache.length], 0⟩, some ⟨[.int .i64 x1.Stamp, .int .i64 x1.NextGen, .int .i64 x1.NextSeq, .int .i64 x1.NextValid, .lst false 2 (fl (enc_TRef false) x1.Refs) x1.Refs.length], 0⟩, some ⟨[.nils, .nils], 0⟩, some ⟨[.lst false 1 (fl (encS false) v5.1.Sectors) v5.1.Sectors.length, .lst false 2 (fl (enc_TWrite false) v5.1.Cache) v5.1.Cache.length], 0⟩, some ⟨fl (encS true) v7.Sectors, 1⟩, some ⟨fl (enc_TWrite true) v7.Cache, 2⟩]) ok_impl_cloneDisk (law_impl_cloneDisk e7) (.cons (DFL.agg (.cons (.lst ekS) (.cons (.lst ek_TWrite) .nil))) .nil) (ek_TDisk.own _) rfl ?_)
    refine rl.run 2 rfl (rl.done (RW.ret ?_))
    cases h12
    exact RRet.mk rfl (OutT.tup (.cons (OutL.agg (.cons (OutR.ownq ekS rfl rfl) rfl (.cons (OutR.ownq ek_TWrite rfl rfl) rfl .nil))) (.cons .bool .nil))) (by first | decide | simp)
  ·have h13 := iteBT h5 hb
   refine RW.cond_t rfl (RW.sreg (rl.run 1 rfl ?_))
   obtain ⟨v8, e8, h14⟩ := bindS h13
   refine rl.call rfl rfl rfl (CallW.own (r' := .agg [.sl 3 0 v8.Sectors.length, .sl 4 0 v8.Cache.length]) (H' := [some ⟨[.lst false 1 (fl (encS false) x0.Sectors) x0.Sectors.length, .lst false 2 (fl (enc_TWrite false) x0.Cache) x0.Cache.length], 0⟩, some ⟨[.int .i64 x1.Stamp, .int .i64 x1.NextGen, .int .i64 x1.NextSeq, .int .i64 x1.NextValid, .lst false 2 (fl (enc_TRef false) x1.Refs) x1.Refs.length], 0⟩, some ⟨[.nils, .nils], 0⟩, some ⟨fl (encS true) v8.Sectors, 1⟩, some ⟨fl (enc_TWrite true) v8.Cache, 2⟩]) ok_impl_cloneDisk (law_impl_cloneDisk e8) (.cons (DFL.agg (.cons (.lst ekS) (.cons (.lst ek_TWrite) .nil))) .nil) (ek_TDisk.own _) rfl ?_)
   refine rl.run 2 rfl (rl.done (RW.ret ?_))
   cases h14
   exact RRet.mk rfl (OutT.tup (.cons (OutL.agg (.cons (OutR.ownq ekS rfl rfl) rfl (.cons (OutR.ownq ek_TWrite rfl rfl) rfl .nil))) (.cons .bool .nil))) (by first | decide | simp)
theorem law_laws_heldStringS {x0 : List (List UInt8)} {x1 : Int} {r : Int} (hF : F_laws_heldStringS x0 x1 = some r) : PCalls Try.prog 106 [.lst false 1 (fl (encS false) x0) x0.length, .int .i64 x1] (.int .i64 r) := by
 refine PCalls.of_r k_laws_heldStringS rfl ?_
 unfold F_laws_heldStringS at hF
 refine RW.sreg (rl.run 1 rfl (rl.done (RW.seq (RW.sreg (rl.run 1 rfl (rl.done ?_))))))
 obtain ⟨y5, ey5, h2⟩ := bindS hF
 refine RW.cutq (σ := Int) (fun y2 => [(1, .int .i64 y2)]) (fun y2 => []) (fun y => y5 = .inr y) (fun _ _ _ _ g h => RW.gh g h) ?_ ?_
 ·refine RW.blk ?_
  refine RW.iter (σ := Int × Int) ey5 (fun s1 => [(0, .lst false 1 (fl (encS false) x0) x0.length), (1, .int .i64 s1.1), (5, .int .i64 s1.2)]) (fun s1 => []) (Gh.ren0 [] .nil rfl (.cons rfl (.dat (ekS.rlst)) (.cons rfl (.dat .int) (.cons rfl (.dat .int) .nil)))) (fun s1 B o hS1 hB1 hE1 => ?_)
  unfold S_laws_heldStringS_1 at hS1
  refine RW.seq (RW.sreg (rl.run 3 rfl ?_))
  refine rl.gen rfl rfl fun b hb => ?_
  cases b
  ·have h3 := iteBF hS1 hb
   refine rl.done (RW.cond_f rfl (RW.exit (blkA_eq ?_)))
   cases h3
   exact ⟨_, (hE1 _ rfl).symm, (Gh.ren0 [] .nil rfl (.cons rfl (.dat .int) .nil))⟩
  ·have h4 := iteBT hS1 hb
   refine rl.done (RW.cond_t rfl (RW.skip (RW.seq (RW.blk (RW.seq (RW.sdrw (rdraw.op rfl rfl (rdraw.op rfl rfl ?_))))))))
   obtain ⟨v3, e3, h5⟩ := bindS h4
   refine rdraw.op rfl (x_ia_lst (enc := encS) (o := false) rfl rfl rfl e3) ?_
   refine rdraw.op rfl (x_ld_el (off' := 0) ekS rfl e3 rfl rfl rfl) ?_
   refine rdraw.op rfl rfl ?_
   obtain ⟨v4, e4, h6⟩ := bindS h5
   refine rdraw.call rfl rfl rfl (CallW.val (r' := .str v4) ok_laws_markText (law_laws_markText e4) (.cons .int .nil) .refl ⟨rfl, ?_⟩)
   refine rdraw.gen rfl rfl fun b hb => ?_
   cases b
   ·have h7 := iteBF h6 hb
    refine rdraw.done (RW.cond_f rfl (RW.skip (RW.reg (rl.run 3 rfl (rl.done (RW.reg (rl.run 3 rfl (rl.done ?_))))))))
    cases h7
    exact hB1 _ rfl _ _ (Gh.ren0 [] .nil rfl (.cons rfl (.dat (ekS.rlst)) (.cons rfl (.dat .int) (.cons rfl (.dat .int) .nil))))
   ·have h8 := iteBT h6 hb
    refine rdraw.done (RW.cond_t rfl (RW.sreg (rl.run 1 rfl (rl.done ?_))))
    refine RW.keep [4] (a' := [(4, .int .i64 (-1))]) (H' := []) rfl rfl ?_
    refine RW.ret ?_
    cases h8
    have h9 := elimL h2 (hE1 _ rfl)
    cases h9
    exact RRet.mk rfl .int (by first | decide | simp)
 ·intro y2 hC
  have h2 := elimR h2 hC
  refine RW.sreg (rl.run 2 rfl (rl.done (RW.ret ?_)))
  cases h2
  exact RRet.mk rfl .int (by first | decide | simp)
theorem law_laws_heldWriteS {x0 : List TWrite} {x1 : Int} {r : Int} (hF : F_laws_heldWriteS x0 x1 = some r) : PCalls Try.prog 107 [.lst false 2 (fl (enc_TWrite false) x0) x0.length, .int .i64 x1] (.int .i64 r) := by
 refine PCalls.of_r k_laws_heldWriteS rfl ?_
 unfold F_laws_heldWriteS at hF
 refine RW.sreg (rl.run 1 rfl (rl.done (RW.seq (RW.sreg (rl.run 1 rfl (rl.done ?_))))))
 obtain ⟨y6, ey6, h2⟩ := bindS hF
 refine RW.cutq (σ := Int) (fun y2 => [(1, .int .i64 y2)]) (fun y2 => []) (fun y => y6 = .inr y) (fun _ _ _ _ g h => RW.gh g h) ?_ ?_
 ·refine RW.blk ?_
  refine RW.iter (σ := Int × Int) ey6 (fun s1 => [(0, .lst false 2 (fl (enc_TWrite false) x0) x0.length), (1, .int .i64 s1.1), (5, .int .i64 s1.2)]) (fun s1 => []) (Gh.ren0 [] .nil rfl (.cons rfl (.dat (ek_TWrite.rlst)) (.cons rfl (.dat .int) (.cons rfl (.dat .int) .nil)))) (fun s1 B o hS1 hB1 hE1 => ?_)
  unfold S_laws_heldWriteS_1 at hS1
  refine RW.seq (RW.sreg (rl.run 3 rfl ?_))
  refine rl.gen rfl rfl fun b hb => ?_
  cases b
  ·have h3 := iteBF hS1 hb
   refine rl.done (RW.cond_f rfl (RW.exit (blkA_eq ?_)))
   cases h3
   exact ⟨_, (hE1 _ rfl).symm, (Gh.ren0 [] .nil rfl (.cons rfl (.dat .int) .nil))⟩
  ·have h4 := iteBT hS1 hb
   refine rl.done (RW.cond_t rfl (RW.skip (RW.seq (RW.blk (RW.seq (RW.sreg (rl.run 2 rfl ?_)))))))
   obtain ⟨v3, e3, h5⟩ := bindS h4
   refine rl.op (x_ia_lst (enc := enc_TWrite) (o := false) rfl rfl rfl e3) ?_
   refine rl.run 1 rfl ?_
   refine rl.op (x_ld_el (off' := 0) ek_TWrite rfl e3 rfl rfl rfl) ?_
   refine rl.run 1 rfl ?_
   refine rl.gen rfl rfl fun b hb => ?_
   cases b
   ·have h6 := iteBF h5 hb
    refine rl.done (RW.cond_f rfl (RW.skip (RW.sreg (rl.run 3 rfl (rl.done ?_)))))
    refine RW.keep [0, 1, 5] (a' := [(0, .lst false 2 (fl (enc_TWrite false) x0) x0.length), (1, .int .i64 (w64 (s1.1 + 1))), (5, .int .i64 s1.2)]) (H' := []) rfl rfl ?_
    refine RW.seq (RW.sdrw (rdraw.op rfl rfl (rdraw.op rfl rfl ?_)))
    obtain ⟨v4, e4, h7⟩ := bindS h6
    refine rdraw.op rfl (x_ia_lst (enc := enc_TWrite) (o := false) rfl rfl rfl e4) ?_
    refine rdraw.op rfl rfl ?_
    refine rdraw.op rfl (x_ld_el (off' := 1) ek_TWrite rfl e4 rfl rfl rfl) ?_
    refine rdraw.op rfl rfl ?_
    obtain ⟨v5, e5, h8⟩ := bindS h7
    refine rdraw.call rfl rfl rfl (CallW.val (r' := .str v5) ok_laws_markText (law_laws_markText e5) (.cons .int .nil) .refl ⟨rfl, ?_⟩)
    refine rdraw.gen rfl rfl fun b hb => ?_
    cases b
    ·have h9 := iteBF h8 hb
     refine rdraw.done (RW.cond_f rfl (RW.skip (RW.reg (rl.run 3 rfl (rl.done (RW.reg (rl.run 3 rfl (rl.done ?_))))))))
     cases h9
     exact hB1 _ rfl _ _ (Gh.ren0 [] .nil rfl (.cons rfl (.dat (ek_TWrite.rlst)) (.cons rfl (.dat .int) (.cons rfl (.dat .int) .nil))))
    ·have h10 := iteBT h8 hb
     refine rdraw.done (RW.cond_t rfl (RW.sreg (rl.run 1 rfl (rl.done ?_))))
     refine RW.keep [4] (a' := [(4, .int .i64 (-1))]) (H' := []) rfl rfl ?_
     refine RW.ret ?_
     cases h10
     have h11 := elimL h2 (hE1 _ rfl)
     cases h11
     exact RRet.mk rfl .int (by first | decide | simp)
   ·have h12 := iteBT h5 hb
    refine rl.done (RW.cond_t rfl (RW.sreg (rl.run 1 rfl (rl.done ?_))))
    refine RW.keep [4] (a' := [(4, .int .i64 (-1))]) (H' := []) rfl rfl ?_
    refine RW.ret ?_
    cases h12
    have h13 := elimL h2 (hE1 _ rfl)
    cases h13
    exact RRet.mk rfl .int (by first | decide | simp)
 ·intro y2 hC
  have h2 := elimR h2 hC
  refine RW.sreg (rl.run 2 rfl (rl.done (RW.ret ?_)))
  cases h2
  exact RRet.mk rfl .int (by first | decide | simp)
theorem law_laws_heldDisk {x0 : TDisk} {x1 : Int} {r : Int} (hF : F_laws_heldDisk x0 x1 = some r) : PCalls Try.prog 50 [.agg (enc_TDisk false x0), .int .i64 x1] (.int .i64 r) := by
 refine PCalls.of_r k_laws_heldDisk rfl ?_
 unfold F_laws_heldDisk at hF
 refine RW.sreg (rl.run 2 rfl (rl.done (RW.sreg (rl.run 3 rfl ?_))))
 obtain ⟨v1, e1, h1⟩ := bindS hF
 refine rl.call rfl rfl rfl (CallW.val (r' := .int .i64 v1) ok_laws_heldStringS (law_laws_heldStringS e1) (.cons (.lst ekS) (.cons .int .nil)) .refl ?_)
 refine rl.run 1 rfl (rl.done (RW.seq (RW.sreg (rl.run 1 rfl ?_))))
 refine rl.gen rfl rfl fun b hb => ?_
 cases b
 ·have h2 := iteBF h1 hb
  refine rl.done (RW.cond_f rfl (RW.skip (RW.sreg (rl.run 3 rfl ?_))))
  obtain ⟨v2, e2, h3⟩ := bindS h2
  refine rl.call rfl rfl rfl (CallW.val (r' := .int .i64 v2) ok_laws_heldWriteS (law_laws_heldWriteS e2) (.cons (.lst ek_TWrite) (.cons .int .nil)) .refl ?_)
  refine rl.run 1 rfl (rl.done ?_)
  refine RW.keep [1] (a' := [(1, .int .i64 v2)]) (H' := [some ⟨[.lst false 1 (fl (encS false) x0.Sectors) x0.Sectors.length, .lst false 2 (fl (enc_TWrite false) x0.Cache) x0.Cache.length], 0⟩]) rfl rfl ?_
  refine RW.seq (RW.sreg (rl.run 1 rfl ?_))
  refine rl.gen rfl rfl fun b hb => ?_
  cases b
  ·have h4 := iteBF h3 hb
   refine rl.done (RW.cond_f rfl (RW.skip (RW.sreg (rl.run 2 rfl (rl.done (RW.ret ?_))))))
   cases h4
   exact RRet.mk rfl .int (by first | decide | simp)
  ·have h5 := iteBT h3 hb
   refine rl.done (RW.cond_t rfl (RW.sreg (rl.run 1 rfl (rl.done (RW.ret ?_)))))
   cases h5
   exact RRet.mk rfl .int (by first | decide | simp)
 ·have h6 := iteBT h1 hb
  refine rl.done (RW.cond_t rfl (RW.sreg (rl.run 1 rfl (rl.done (RW.ret ?_)))))
  cases h6
  exact RRet.mk rfl .int (by first | decide | simp)
set_option maxHeartbeats 2000000 in
theorem law_laws_FnExactWriteCheck {x0 : TDisk} {x1 : TCheck} {r : Bool} (hF : F_laws_FnExactWriteCheck x0 x1 = some r) : PCalls Try.prog 9 [.agg (enc_TDisk false x0), .agg (enc_TCheck false x1)] (.bool r) := by
 refine PCalls.of_r k_laws_FnExactWriteCheck rfl ?_
 unfold F_laws_FnExactWriteCheck at hF
 refine RW.sreg (rl.run 3 rfl (rl.done (RW.sreg (rl.run 1 rfl (rl.done (RW.sreg (rl.run 2 rfl ?_)))))))
 obtain ⟨v1, e1, h1⟩ := bindS hF
 refine rl.call rfl rfl rfl (CallW.val (r' := .int .i64 v1) ok_laws_szDisk (law_laws_szDisk e1) (.cons (DFL.agg (.cons (.lst ekS) (.cons (.lst ek_TWrite) .nil))) (.cons .int .nil)) .refl ?_)
 refine rl.run 1 rfl (rl.done (RW.seq (RW.sreg (rl.run 1 rfl ?_))))
 refine rl.gen rfl rfl fun b hb => ?_
 cases b
 ·have h2 := iteBF h1 hb
  refine rl.done (RW.cond_f rfl (RW.skip (RW.sreg (rl.run 2 rfl ?_))))
  obtain ⟨v2, e2, h3⟩ := bindS h2
  refine rl.call rfl rfl rfl (CallW.val (r' := .int .i64 v2) ok_laws_szCheck (law_laws_szCheck e2) (.cons (DFL.agg (.cons .int (.cons .int (.cons .int (.cons .int (.cons (.lst ek_TRef) .nil)))))) (.cons .int .nil)) .refl ?_)
  refine rl.run 1 rfl (rl.done ?_)
  refine RW.keep [2, 3, 5] (a' := [(2, .ptr 0 0), (3, .ptr 1 0), (5, .int .i64 v2)]) (H' := [some ⟨[.lst false 1 (fl (encS false) x0.Sectors) x0.Sectors.length, .lst false 2 (fl (enc_TWrite false) x0.Cache) x0.Cache.length], 0⟩, some ⟨[.int .i64 x1.Stamp, .int .i64 x1.NextGen, .int .i64 x1.NextSeq, .int .i64 x1.NextValid, .lst false 2 (fl (enc_TRef false) x1.Refs) x1.Refs.length], 0⟩]) rfl rfl ?_
  refine RW.seq (RW.sreg (rl.run 1 rfl ?_))
  refine rl.gen rfl rfl fun b hb => ?_
  cases b
  ·have h4 := iteBF h3 hb
   refine rl.done (RW.cond_f rfl (RW.skip (RW.sdrw (rdraw.op rfl rfl ?_))))
   obtain ⟨v3, e3, h5⟩ := bindS h4
   refine rdraw.call rfl rfl rfl (CallW.val (r' := .agg (enc_TDisk false v3)) ok_laws_toDisk (law_laws_toDisk e3) (.cons (DFL.agg (.cons (.lst ekS) (.cons (.lst ek_TWrite) .nil))) .nil) (ek_TDisk.flag _).agg ⟨rfl, ?_⟩)
   refine rdraw.op rfl rfl ?_
   obtain ⟨v4, e4, h6⟩ := bindS h5
   refine rdraw.call rfl rfl rfl (CallW.val (r' := .agg (enc_TCheck false v4)) ok_laws_toCheck (law_laws_toCheck e4) (.cons (DFL.agg (.cons .int (.cons .int (.cons .int (.cons .int (.cons (.lst ek_TRef) .nil)))))) .nil) (ek_TCheck.flag _).agg ⟨rfl, ?_⟩)
   obtain ⟨v5, e5, h7⟩ := bindS h6
   refine rdraw.call rfl rfl rfl (CallW.val (r' := .tup [.agg (enc_TDisk false v5.1), .bool v5.2]) ok_spec_WriteCheck (law_spec_WriteCheck e5) (.cons (.dat (.agg (ek_TDisk.dat false _))) (.cons (.dat (.agg (ek_TCheck.dat false _))) .nil)) (FlL.tup (.cons (ek_TDisk.flag _).agg (.cons .refl .nil))) ⟨rfl, ?_⟩)
   refine rdraw.op rfl rfl (rdraw.op rfl rfl (rdraw.op rfl rfl ?_))
   refine rdraw.chnB rfl rfl (.here (.rx rfl) (.here (.rx rfl) (.here (.rx rfl) (.here (.cl rfl rfl (CallW.val (r' := .tup [.agg (enc_TDisk false v5.1), .bool v5.2]) ok_spec_WriteCheck (law_spec_WriteCheck e5) (.cons (.dat (.agg (ek_TDisk.dat false _))) (.cons (.dat (.agg (ek_TCheck.dat false _))) .nil)) (FlL.tup (.cons (ek_TDisk.flag _).agg (.cons .refl .nil))) ⟨rfl, rfl⟩)) (.here (.cl rfl rfl (CallW.val (r' := .agg (enc_TCheck false v4)) ok_laws_toCheck (law_laws_toCheck e4) (.cons (DFL.agg (.cons .int (.cons .int (.cons .int (.cons .int (.cons (.lst ek_TRef) .nil)))))) .nil) (ek_TCheck.flag _).agg ⟨rfl, rfl⟩)) (.here (.rx rfl) (.here (.cl rfl rfl (CallW.val (r' := .agg (enc_TDisk false v3)) ok_laws_toDisk (law_laws_toDisk e3) (.cons (DFL.agg (.cons (.lst ekS) (.cons (.lst ek_TWrite) .nil))) .nil) (ek_TDisk.flag _).agg ⟨rfl, rfl⟩)) (.here (.rx rfl) .nil)))))))) ?_
   refine rdraw.chnB rfl rfl (.here (.rx rfl) (.skip rfl (.skip rfl (.skip rfl (.skip rfl (.skip rfl (.skip rfl (.skip rfl .nil)))))))) ?_
   refine rdraw.op rfl rfl (rdraw.done ?_)
   refine RW.keep [2, 3, 6, 7] (a' := [(2, .ptr 0 0), (3, .ptr 1 0), (6, .ptr 2 0), (7, .bool v5.2)]) (H' := [some ⟨[.lst false 1 (fl (encS false) x0.Sectors) x0.Sectors.length, .lst false 2 (fl (enc_TWrite false) x0.Cache) x0.Cache.length], 0⟩, some ⟨[.int .i64 x1.Stamp, .int .i64 x1.NextGen, .int .i64 x1.NextSeq, .int .i64 x1.NextValid, .lst false 2 (fl (enc_TRef false) x1.Refs) x1.Refs.length], 0⟩, some ⟨[.lst false 1 (fl (encS false) v5.1.Sectors) v5.1.Sectors.length, .lst false 2 (fl (enc_TWrite false) v5.1.Cache) v5.1.Cache.length], 0⟩]) rfl rfl ?_
   refine RW.sreg (rl.run 1 rfl ?_)
   obtain ⟨v6, e6, h8⟩ := bindS h7
   refine rl.call rfl rfl rfl (CallW.own (r' := .agg [.sl 3 0 v6.Sectors.length, .sl 4 0 v6.Cache.length]) (H' := [some ⟨[.lst false 1 (fl (encS false) x0.Sectors) x0.Sectors.length, .lst false 2 (fl (enc_TWrite false) x0.Cache) x0.Cache.length], 0⟩, some ⟨[.int .i64 x1.Stamp, .int .i64 x1.NextGen, .int .i64 x1.NextSeq, .int .i64 x1.NextValid, .lst false 2 (fl (enc_TRef false) x1.Refs) x1.Refs.length], 0⟩, some ⟨[.lst false 1 (fl (encS false) v5.1.Sectors) v5.1.Sectors.length, .lst false 2 (fl (enc_TWrite false) v5.1.Cache) v5.1.Cache.length], 0⟩, some ⟨fl (encS true) v6.Sectors, 1⟩, some ⟨fl (enc_TWrite true) v6.Cache, 2⟩]) ok_laws_toDisk (law_laws_toDisk e6) (.cons (DFL.agg (.cons (.lst ekS) (.cons (.lst ek_TWrite) .nil))) .nil) (ek_TDisk.own _) rfl ?_)
   refine rl.run 2 rfl (rl.done (RW.sreg (rl.run 1 rfl ?_)))
   obtain ⟨v7, e7, h9⟩ := bindS h8
   refine rl.call rfl rfl rfl (CallW.own (r' := .agg [.int .i64 v7.Stamp, .int .i64 v7.NextGen, .int .i64 v7.NextSeq, .int .i64 v7.NextValid, .sl 6 0 v7.Refs.length]) (H' := [some ⟨[.lst false 1 (fl (encS false) x0.Sectors) x0.Sectors.length, .lst false 2 (fl (enc_TWrite false) x0.Cache) x0.Cache.length], 0⟩, some ⟨[.int .i64 x1.Stamp, .int .i64 x1.NextGen, .int .i64 x1.NextSeq, .int .i64 x1.NextValid, .lst false 2 (fl (enc_TRef false) x1.Refs) x1.Refs.length], 0⟩, some ⟨[.lst false 1 (fl (encS false) v5.1.Sectors) v5.1.Sectors.length, .lst false 2 (fl (enc_TWrite false) v5.1.Cache) v5.1.Cache.length], 0⟩, some ⟨fl (encS true) v6.Sectors, 1⟩, some ⟨fl (enc_TWrite true) v6.Cache, 2⟩, some ⟨[.sl 3 0 v6.Sectors.length, .sl 4 0 v6.Cache.length], 0⟩, some ⟨fl (enc_TRef true) v7.Refs, 2⟩]) ok_laws_toCheck (law_laws_toCheck e7) (.cons (DFL.agg (.cons .int (.cons .int (.cons .int (.cons .int (.cons (.lst ek_TRef) .nil)))))) .nil) (ek_TCheck.own _) rfl ?_)
   refine rl.run 2 rfl (rl.done (RW.sreg (rl.run 2 rfl ?_)))
   obtain ⟨v8, e8, h10⟩ := bindS h9
   refine rl.call rfl rfl rfl (CallW.own (r' := .tup [.agg [.sl 8 0 v8.1.Sectors.length, .sl 9 0 v8.1.Cache.length], .bool v8.2]) (H' := [some ⟨[.lst false 1 (fl (encS false) x0.Sectors) x0.Sectors.length, .lst false 2 (fl (enc_TWrite false) x0.Cache) x0.Cache.length], 0⟩, some ⟨[.int .i64 x1.Stamp, .int .i64 x1.NextGen, .int .i64 x1.NextSeq, .int .i64 x1.NextValid, .lst false 2 (fl (enc_TRef false) x1.Refs) x1.Refs.length], 0⟩, some ⟨[.lst false 1 (fl (encS false) v5.1.Sectors) v5.1.Sectors.length, .lst false 2 (fl (enc_TWrite false) v5.1.Cache) v5.1.Cache.length], 0⟩, some ⟨fl (encS true) v6.Sectors, 1⟩, some ⟨fl (enc_TWrite true) v6.Cache, 2⟩, some ⟨[.sl 3 0 v6.Sectors.length, .sl 4 0 v6.Cache.length], 0⟩, some ⟨fl (enc_TRef true) v7.Refs, 2⟩, some ⟨[.int .i64 v7.Stamp, .int .i64 v7.NextGen, .int .i64 v7.NextSeq, .int .i64 v7.NextValid, .sl 6 0 v7.Refs.length], 0⟩, some ⟨fl (encS true) v8.1.Sectors, 1⟩, some ⟨fl (enc_TWrite true) v8.1.Cache, 2⟩]) ok_impl_WriteCheck (law_impl_WriteCheck e8) (.cons (DFL.agg (.cons (.slq ekS rfl rfl) (.cons (.slq ek_TWrite rfl rfl) .nil))) (.cons (DFL.agg (.cons .int (.cons .int (.cons .int (.cons .int (.cons (.slq ek_TRef rfl rfl) .nil)))))) .nil)) (fac (ek_TDisk.own _) (fac .bool fan)) rfl ?_)
   refine rl.run 6 rfl (rl.done (RW.seq (RW.seq ?_)))
   obtain ⟨y9, ey9, h11⟩ := bindS h10
   refine RW.cutq (σ := Bool) (fun y9 => [(2, .ptr 0 0), (3, .ptr 1 0), (6, .ptr 2 0), (7, .bool v5.2), (8, .ptr 3 0), (9, .ptr 4 0), (10, .ptr 5 0), (11, .bool v8.2), (53, .bool y9)]) (fun y9 => [some ⟨[.lst false 1 (fl (encS false) x0.Sectors) x0.Sectors.length, .lst false 2 (fl (enc_TWrite false) x0.Cache) x0.Cache.length], 0⟩, some ⟨[.int .i64 x1.Stamp, .int .i64 x1.NextGen, .int .i64 x1.NextSeq, .int .i64 x1.NextValid, .lst false 2 (fl (enc_TRef false) x1.Refs) x1.Refs.length], 0⟩, some ⟨[.lst false 1 (fl (encS false) v5.1.Sectors) v5.1.Sectors.length, .lst false 2 (fl (enc_TWrite false) v5.1.Cache) v5.1.Cache.length], 0⟩, some ⟨[.sl 6 0 v6.Sectors.length, .sl 7 0 v6.Cache.length], 0⟩, some ⟨[.int .i64 v7.Stamp, .int .i64 v7.NextGen, .int .i64 v7.NextSeq, .int .i64 v7.NextValid, .sl 8 0 v7.Refs.length], 0⟩, some ⟨[.sl 9 0 v8.1.Sectors.length, .sl 10 0 v8.1.Cache.length], 0⟩, some ⟨fl (encS true) v6.Sectors, 1⟩, some ⟨fl (enc_TWrite true) v6.Cache, 2⟩, some ⟨fl (enc_TRef true) v7.Refs, 2⟩, some ⟨fl (encS true) v8.1.Sectors, 1⟩, some ⟨fl (enc_TWrite true) v8.1.Cache, 2⟩]) (fun y => y9 = y) (fun _ _ _ _ g h => RW.gh g h) ?_ ?_
   ·refine RW.reg ?_
    refine rl.run 2 rfl ?_
    obtain ⟨v10, e10, h12⟩ := bindS ey9
    refine rl.call rfl rfl rfl (CallW.val (r' := .bool v10) ok_laws_eqDisk (law_laws_eqDisk e10) (.cons (DFL.agg (.cons (.slq ekS rfl rfl) (.cons (.slq ek_TWrite rfl rfl) .nil))) (.cons (DFL.agg (.cons (.lst ekS) (.cons (.lst ek_TWrite) .nil))) .nil)) .refl ?_)
    cases hb : v10
    ·have h13 := iteBF h12 hb
     refine rl.run 6 rfl (rl.done ?_)
     cases h13
     exact ⟨_, rfl, (Gh.ren0 [0, 1, 2, 5, 7, 10, 3, 4, 6, 8, 9] (.cells rfl rfl (.keep (ekS.rlst) (.keep (ek_TWrite.rlst) .nil)) (.cells rfl rfl (.keep .int (.keep .int (.keep .int (.keep .int (.keep (ek_TRef.rlst) .nil))))) (.cells rfl rfl (.keep (ekS.rlst) (.keep (ek_TWrite.rlst) .nil)) (.cells rfl rfl (.slq rfl rfl (.slq rfl rfl .nil)) (.cells rfl rfl (.keep .int (.keep .int (.keep .int (.keep .int (.slq rfl rfl .nil))))) (.cells rfl rfl (.slq rfl rfl (.slq rfl rfl .nil)) (.same rfl (ekS.fref _ _) (.same rfl (ek_TWrite.fref _ _) (.same rfl (ek_TRef.fref _ _) (.same rfl (ekS.fref _ _) (.same rfl (ek_TWrite.fref _ _) .nil))))))))))) rfl (.cons rfl (.ptr rfl) (.cons rfl (.ptr rfl) (.cons rfl (.ptr rfl) (.cons rfl (.dat .bool) (.cons rfl (.ptr rfl) (.cons rfl (.ptr rfl) (.cons rfl (.ptr rfl) (.cons rfl (.dat .bool) (.cons rfl (.dat .bool) .nil))))))))))⟩
    ·have h14 := iteBT h12 hb
     refine rl.run 4 rfl ?_
     refine rl.gen rfl rfl fun b hb => ?_
     cases b
     ·have h15 := iteBF h14 hb
      refine rl.run 1 rfl (rl.done ?_)
      cases h15
      exact ⟨_, rfl, (Gh.ren0 [0, 1, 2, 5, 7, 10, 3, 4, 6, 8, 9] (.cells rfl rfl (.keep (ekS.rlst) (.keep (ek_TWrite.rlst) .nil)) (.cells rfl rfl (.keep .int (.keep .int (.keep .int (.keep .int (.keep (ek_TRef.rlst) .nil))))) (.cells rfl rfl (.keep (ekS.rlst) (.keep (ek_TWrite.rlst) .nil)) (.cells rfl rfl (.slq rfl rfl (.slq rfl rfl .nil)) (.cells rfl rfl (.keep .int (.keep .int (.keep .int (.keep .int (.slq rfl rfl .nil))))) (.cells rfl rfl (.slq rfl rfl (.slq rfl rfl .nil)) (.same rfl (ekS.fref _ _) (.same rfl (ek_TWrite.fref _ _) (.same rfl (ek_TRef.fref _ _) (.same rfl (ekS.fref _ _) (.same rfl (ek_TWrite.fref _ _) .nil))))))))))) rfl (.cons rfl (.ptr rfl) (.cons rfl (.ptr rfl) (.cons rfl (.ptr rfl) (.cons rfl (.dat .bool) (.cons rfl (.ptr rfl) (.cons rfl (.ptr rfl) (.cons rfl (.ptr rfl) (.cons rfl (.dat .bool) (.cons rfl (.dat .bool) .nil))))))))))⟩
     ·have h16 := iteBT h14 hb
      refine rl.run 1 rfl (rl.done ?_)
      cases h16
      exact ⟨_, rfl, (Gh.ren0 [0, 1, 2, 5, 7, 10, 3, 4, 6, 8, 9] (.cells rfl rfl (.keep (ekS.rlst) (.keep (ek_TWrite.rlst) .nil)) (.cells rfl rfl (.keep .int (.keep .int (.keep .int (.keep .int (.keep (ek_TRef.rlst) .nil))))) (.cells rfl rfl (.keep (ekS.rlst) (.keep (ek_TWrite.rlst) .nil)) (.cells rfl rfl (.slq rfl rfl (.slq rfl rfl .nil)) (.cells rfl rfl (.keep .int (.keep .int (.keep .int (.keep .int (.slq rfl rfl .nil))))) (.cells rfl rfl (.slq rfl rfl (.slq rfl rfl .nil)) (.same rfl (ekS.fref _ _) (.same rfl (ek_TWrite.fref _ _) (.same rfl (ek_TRef.fref _ _) (.same rfl (ekS.fref _ _) (.same rfl (ek_TWrite.fref _ _) .nil))))))))))) rfl (.cons rfl (.ptr rfl) (.cons rfl (.ptr rfl) (.cons rfl (.ptr rfl) (.cons rfl (.dat .bool) (.cons rfl (.ptr rfl) (.cons rfl (.ptr rfl) (.cons rfl (.ptr rfl) (.cons rfl (.dat .bool) (.cons rfl (.dat .bool) .nil))))))))))⟩
   ·intro y hC
    subst hC
    cases hb : y9
    ·have h17 := iteBF h11 hb
     refine RW.cond_f rfl (RW.skip (RW.seq (RW.sdrw (rdraw.op rfl rfl (rdraw.op rfl rfl ?_)))))
     obtain ⟨v11, e11, h18⟩ := bindS h17
     refine rdraw.call rfl rfl rfl (CallW.val (r' := .agg (enc_TDisk false v11)) ok_laws_toDisk (law_laws_toDisk e11) (.cons (DFL.agg (.cons (.lst ekS) (.cons (.lst ek_TWrite) .nil))) .nil) (ek_TDisk.flag _).agg ⟨rfl, ?_⟩)
     obtain ⟨v12, e12, h19⟩ := bindS h18
     refine rdraw.call rfl rfl rfl (CallW.val (r' := .bool v12) ok_laws_eqDisk (law_laws_eqDisk e12) (.cons (DFL.agg (.cons (.slq ekS rfl rfl) (.cons (.slq ek_TWrite rfl rfl) .nil))) (.cons (.dat (.agg (ek_TDisk.dat false _))) .nil)) .refl ⟨rfl, ?_⟩)
     cases hb : v12
     ·have h20 := iteBF h19 hb
      refine rdraw.op rfl rfl (rdraw.done (RW.cond_t rfl (RW.sreg (rl.run 1 rfl (rl.done ?_)))))
      refine RW.keep [4] (a' := [(4, .bool false)]) (H' := [some ⟨[.lst false 1 (fl (encS false) x0.Sectors) x0.Sectors.length, .lst false 2 (fl (enc_TWrite false) x0.Cache) x0.Cache.length], 0⟩, some ⟨[.int .i64 x1.Stamp, .int .i64 x1.NextGen, .int .i64 x1.NextSeq, .int .i64 x1.NextValid, .lst false 2 (fl (enc_TRef false) x1.Refs) x1.Refs.length], 0⟩, some ⟨[.lst false 1 (fl (encS false) v5.1.Sectors) v5.1.Sectors.length, .lst false 2 (fl (enc_TWrite false) v5.1.Cache) v5.1.Cache.length], 0⟩, some ⟨[.sl 6 0 v6.Sectors.length, .sl 7 0 v6.Cache.length], 0⟩, some ⟨[.int .i64 v7.Stamp, .int .i64 v7.NextGen, .int .i64 v7.NextSeq, .int .i64 v7.NextValid, .sl 8 0 v7.Refs.length], 0⟩, some ⟨[.sl 9 0 v8.1.Sectors.length, .sl 10 0 v8.1.Cache.length], 0⟩, some ⟨fl (encS true) v6.Sectors, 1⟩, some ⟨fl (enc_TWrite true) v6.Cache, 2⟩, some ⟨fl (enc_TRef true) v7.Refs, 2⟩, some ⟨fl (encS true) v8.1.Sectors, 1⟩, some ⟨fl (enc_TWrite true) v8.1.Cache, 2⟩]) rfl rfl ?_
      refine RW.ret ?_
      cases h20
      exact RRet.mk rfl .bool (by first | decide | simp)
     ·have h21 := iteBT h19 hb
      refine rdraw.op rfl rfl (rdraw.done (RW.cond_f rfl (RW.skip (RW.seq (RW.sdrw (rdraw.op rfl rfl (rdraw.op rfl rfl ?_)))))))
      obtain ⟨v13, e13, h22⟩ := bindS h21
      refine rdraw.call rfl rfl rfl (CallW.val (r' := .agg (enc_TCheck false v13)) ok_laws_toCheck (law_laws_toCheck e13) (.cons (DFL.agg (.cons .int (.cons .int (.cons .int (.cons .int (.cons (.lst ek_TRef) .nil)))))) .nil) (ek_TCheck.flag _).agg ⟨rfl, ?_⟩)
      obtain ⟨v14, e14, h23⟩ := bindS h22
      refine rdraw.call rfl rfl rfl (CallW.val (r' := .bool v14) ok_laws_eqCheck (law_laws_eqCheck e14) (.cons (DFL.agg (.cons .int (.cons .int (.cons .int (.cons .int (.cons (.slq ek_TRef rfl rfl) .nil)))))) (.cons (.dat (.agg (ek_TCheck.dat false _))) .nil)) .refl ⟨rfl, ?_⟩)
      cases hb : v14
      ·have h24 := iteBF h23 hb
       refine rdraw.op rfl rfl (rdraw.done (RW.cond_t rfl (RW.sreg (rl.run 1 rfl (rl.done ?_)))))
       refine RW.keep [4] (a' := [(4, .bool false)]) (H' := [some ⟨[.lst false 1 (fl (encS false) x0.Sectors) x0.Sectors.length, .lst false 2 (fl (enc_TWrite false) x0.Cache) x0.Cache.length], 0⟩, some ⟨[.int .i64 x1.Stamp, .int .i64 x1.NextGen, .int .i64 x1.NextSeq, .int .i64 x1.NextValid, .lst false 2 (fl (enc_TRef false) x1.Refs) x1.Refs.length], 0⟩, some ⟨[.lst false 1 (fl (encS false) v5.1.Sectors) v5.1.Sectors.length, .lst false 2 (fl (enc_TWrite false) v5.1.Cache) v5.1.Cache.length], 0⟩, some ⟨[.sl 6 0 v6.Sectors.length, .sl 7 0 v6.Cache.length], 0⟩, some ⟨[.int .i64 v7.Stamp, .int .i64 v7.NextGen, .int .i64 v7.NextSeq, .int .i64 v7.NextValid, .sl 8 0 v7.Refs.length], 0⟩, some ⟨[.sl 9 0 v8.1.Sectors.length, .sl 10 0 v8.1.Cache.length], 0⟩, some ⟨fl (encS true) v6.Sectors, 1⟩, some ⟨fl (enc_TWrite true) v6.Cache, 2⟩, some ⟨fl (enc_TRef true) v7.Refs, 2⟩, some ⟨fl (encS true) v8.1.Sectors, 1⟩, some ⟨fl (enc_TWrite true) v8.1.Cache, 2⟩]) rfl rfl ?_
       refine RW.ret ?_
       cases h24
       exact RRet.mk rfl .bool (by first | decide | simp)
      ·have h25 := iteBT h23 hb
       refine rdraw.op rfl rfl (rdraw.done (RW.cond_f rfl (RW.skip (RW.sreg (rl.run 1 rfl (rl.done ?_))))))
       refine RW.keep [2, 3, 6, 7, 8, 9, 10, 11, 12] (a' := [(2, .ptr 0 0), (3, .ptr 1 0), (6, .ptr 2 0), (7, .bool v5.2), (8, .ptr 3 0), (9, .ptr 4 0), (10, .ptr 5 0), (11, .bool v8.2), (12, .int .i64 1)]) (H' := [some ⟨[.lst false 1 (fl (encS false) x0.Sectors) x0.Sectors.length, .lst false 2 (fl (enc_TWrite false) x0.Cache) x0.Cache.length], 0⟩, some ⟨[.int .i64 x1.Stamp, .int .i64 x1.NextGen, .int .i64 x1.NextSeq, .int .i64 x1.NextValid, .lst false 2 (fl (enc_TRef false) x1.Refs) x1.Refs.length], 0⟩, some ⟨[.lst false 1 (fl (encS false) v5.1.Sectors) v5.1.Sectors.length, .lst false 2 (fl (enc_TWrite false) v5.1.Cache) v5.1.Cache.length], 0⟩, some ⟨[.sl 6 0 v6.Sectors.length, .sl 7 0 v6.Cache.length], 0⟩, some ⟨[.int .i64 v7.Stamp, .int .i64 v7.NextGen, .int .i64 v7.NextSeq, .int .i64 v7.NextValid, .sl 8 0 v7.Refs.length], 0⟩, some ⟨[.sl 9 0 v8.1.Sectors.length, .sl 10 0 v8.1.Cache.length], 0⟩, some ⟨fl (encS true) v6.Sectors, 1⟩, some ⟨fl (enc_TWrite true) v6.Cache, 2⟩, some ⟨fl (enc_TRef true) v7.Refs, 2⟩, some ⟨fl (encS true) v8.1.Sectors, 1⟩, some ⟨fl (enc_TWrite true) v8.1.Cache, 2⟩]) rfl rfl ?_
       refine RW.sreg (rl.run 2 rfl ?_)
       obtain ⟨v15, e15, h26⟩ := bindS h25
       refine rl.call rfl rfl rfl (CallW.embW (r0 := .int .i64 v15.1) (H' := [some ⟨[.lst false 1 (fl (encS false) x0.Sectors) x0.Sectors.length, .lst false 2 (fl (enc_TWrite false) x0.Cache) x0.Cache.length], 0⟩, some ⟨[.int .i64 x1.Stamp, .int .i64 x1.NextGen, .int .i64 x1.NextSeq, .int .i64 x1.NextValid, .lst false 2 (fl (enc_TRef false) x1.Refs) x1.Refs.length], 0⟩, some ⟨[.lst false 1 (fl (encS false) v5.1.Sectors) v5.1.Sectors.length, .lst false 2 (fl (enc_TWrite false) v5.1.Cache) v5.1.Cache.length], 0⟩, some ⟨[.sl 6 0 v6.Sectors.length, .sl 7 0 v6.Cache.length], 0⟩, some ⟨[.int .i64 v7.Stamp, .int .i64 v7.NextGen, .int .i64 v7.NextSeq, .int .i64 v7.NextValid, .sl 8 0 v7.Refs.length], 0⟩, some ⟨[.sl 9 0 v8.1.Sectors.length, .sl 10 0 v8.1.Cache.length], 0⟩, some ⟨fl (encS true) v15.2.1, 1⟩, some ⟨fl (enc_TWrite true) v15.2.2, 2⟩, some ⟨fl (enc_TRef true) v7.Refs, 2⟩, some ⟨fl (encS true) v8.1.Sectors, 1⟩, some ⟨fl (enc_TWrite true) v8.1.Cache, 2⟩]) [⟨fl (encS true) v6.Sectors, 1⟩, ⟨fl (enc_TWrite true) v6.Cache, 2⟩] [⟨fl (encS true) v15.2.1, 1⟩, ⟨fl (enc_TWrite true) v15.2.2, 2⟩] [6, 7] ok_laws_markDisk (law_laws_markDisk_w (guardO_s e15)) (.cons rfl (ekS.fref _ _) (ekS.fown _) (.cons rfl (ek_TWrite.fref _ _) (ek_TWrite.fown _) .nil)) rfl (.cons (RnL.agg (.cons (.slq rfl rfl) (.cons (.slq rfl rfl) .nil))) (.cons (.dat .int) .nil)) .int rfl rfl ?_)
       refine rl.run 1 rfl (rl.done (RW.sreg (rl.run 2 rfl ?_)))
       obtain ⟨v16, e16, h27⟩ := bindS h26
       refine rl.call rfl rfl rfl (CallW.embW (r0 := .int .i64 v16.1) (H' := [some ⟨[.lst false 1 (fl (encS false) x0.Sectors) x0.Sectors.length, .lst false 2 (fl (enc_TWrite false) x0.Cache) x0.Cache.length], 0⟩, some ⟨[.int .i64 x1.Stamp, .int .i64 x1.NextGen, .int .i64 x1.NextSeq, .int .i64 x1.NextValid, .lst false 2 (fl (enc_TRef false) x1.Refs) x1.Refs.length], 0⟩, some ⟨[.lst false 1 (fl (encS false) v5.1.Sectors) v5.1.Sectors.length, .lst false 2 (fl (enc_TWrite false) v5.1.Cache) v5.1.Cache.length], 0⟩, some ⟨[.sl 6 0 v6.Sectors.length, .sl 7 0 v6.Cache.length], 0⟩, some ⟨[.int .i64 v7.Stamp, .int .i64 v7.NextGen, .int .i64 v7.NextSeq, .int .i64 v7.NextValid, .sl 8 0 v7.Refs.length], 0⟩, some ⟨[.sl 9 0 v8.1.Sectors.length, .sl 10 0 v8.1.Cache.length], 0⟩, some ⟨fl (encS true) v15.2.1, 1⟩, some ⟨fl (enc_TWrite true) v15.2.2, 2⟩, some ⟨fl (enc_TRef true) v16.2, 2⟩, some ⟨fl (encS true) v8.1.Sectors, 1⟩, some ⟨fl (enc_TWrite true) v8.1.Cache, 2⟩]) [⟨fl (enc_TRef true) v7.Refs, 2⟩] [⟨fl (enc_TRef true) v16.2, 2⟩] [8] ok_laws_markCheck (law_laws_markCheck_w (guardO_s e16)) (.cons rfl (ek_TRef.fref _ _) (ek_TRef.fown _) .nil) rfl (.cons (RnL.agg (.cons (.dat .int) (.cons (.dat .int) (.cons (.dat .int) (.cons (.dat .int) (.cons (.slq rfl rfl) .nil)))))) (.cons (.dat .int) .nil)) .int rfl rfl ?_)
       refine rl.run 1 rfl (rl.done (RW.seq (RW.seq ?_)))
       obtain ⟨y17, ey17, h28⟩ := bindS h27
       refine RW.cutq (σ := Bool) (fun y17 => [(2, .ptr 0 0), (3, .ptr 1 0), (6, .ptr 2 0), (7, .bool v5.2), (10, .ptr 3 0), (82, .bool y17)]) (fun y17 => [some ⟨[.lst false 1 (fl (encS false) x0.Sectors) x0.Sectors.length, .lst false 2 (fl (enc_TWrite false) x0.Cache) x0.Cache.length], 0⟩, some ⟨[.int .i64 x1.Stamp, .int .i64 x1.NextGen, .int .i64 x1.NextSeq, .int .i64 x1.NextValid, .lst false 2 (fl (enc_TRef false) x1.Refs) x1.Refs.length], 0⟩, some ⟨[.lst false 1 (fl (encS false) v5.1.Sectors) v5.1.Sectors.length, .lst false 2 (fl (enc_TWrite false) v5.1.Cache) v5.1.Cache.length], 0⟩, some ⟨[.sl 4 0 v8.1.Sectors.length, .sl 5 0 v8.1.Cache.length], 0⟩, some ⟨fl (encS true) v8.1.Sectors, 1⟩, some ⟨fl (enc_TWrite true) v8.1.Cache, 2⟩]) (fun y => y17 = y) (fun _ _ _ _ g h => RW.gh g h) ?_ ?_
       ·refine RW.reg ?_
        refine rl.run 1 rfl ?_
        refine rl.gen rfl rfl fun b hb => ?_
        cases b
        ·have h29 := iteBF ey17 hb
         refine rl.run 3 rfl ?_
         obtain ⟨v18, e18, h30⟩ := bindS h29
         refine rl.call rfl rfl rfl (CallW.val (r' := .bool v18) ok_laws_eqDisk (law_laws_eqDisk e18) (.cons (DFL.agg (.cons (.slq ekS rfl rfl) (.cons (.slq ek_TWrite rfl rfl) .nil))) (.cons (DFL.agg (.cons (.lst ekS) (.cons (.lst ek_TWrite) .nil))) .nil)) .refl ?_)
         cases hb : v18
         ·have h31 := iteBF h30 hb
          refine rl.run 7 rfl (rl.done ?_)
          cases h31
          exact ⟨_, rfl, (Gh.ren0 [0, 1, 2, 5, 9, 10] (.cells rfl rfl (.keep (ekS.rlst) (.keep (ek_TWrite.rlst) .nil)) (.cells rfl rfl (.keep .int (.keep .int (.keep .int (.keep .int (.keep (ek_TRef.rlst) .nil))))) (.cells rfl rfl (.keep (ekS.rlst) (.keep (ek_TWrite.rlst) .nil)) (.cells rfl rfl (.slq rfl rfl (.slq rfl rfl .nil)) (.same rfl (ekS.fref _ _) (.same rfl (ek_TWrite.fref _ _) .nil)))))) rfl (.cons rfl (.ptr rfl) (.cons rfl (.ptr rfl) (.cons rfl (.ptr rfl) (.cons rfl (.dat .bool) (.cons rfl (.ptr rfl) (.cons rfl (.dat .bool) .nil)))))))⟩
         ·have h32 := iteBT h30 hb
          refine rl.run 5 rfl ?_
          refine rl.gen rfl rfl fun b hb => ?_
          cases b
          ·have h33 := iteBF h32 hb
           refine rl.run 1 rfl (rl.done ?_)
           cases h33
           exact ⟨_, rfl, (Gh.ren0 [0, 1, 2, 5, 9, 10] (.cells rfl rfl (.keep (ekS.rlst) (.keep (ek_TWrite.rlst) .nil)) (.cells rfl rfl (.keep .int (.keep .int (.keep .int (.keep .int (.keep (ek_TRef.rlst) .nil))))) (.cells rfl rfl (.keep (ekS.rlst) (.keep (ek_TWrite.rlst) .nil)) (.cells rfl rfl (.slq rfl rfl (.slq rfl rfl .nil)) (.same rfl (ekS.fref _ _) (.same rfl (ek_TWrite.fref _ _) .nil)))))) rfl (.cons rfl (.ptr rfl) (.cons rfl (.ptr rfl) (.cons rfl (.ptr rfl) (.cons rfl (.dat .bool) (.cons rfl (.ptr rfl) (.cons rfl (.dat .bool) .nil)))))))⟩
          ·have h34 := iteBT h32 hb
           refine rl.run 1 rfl (rl.done ?_)
           cases h34
           exact ⟨_, rfl, (Gh.ren0 [0, 1, 2, 5, 9, 10] (.cells rfl rfl (.keep (ekS.rlst) (.keep (ek_TWrite.rlst) .nil)) (.cells rfl rfl (.keep .int (.keep .int (.keep .int (.keep .int (.keep (ek_TRef.rlst) .nil))))) (.cells rfl rfl (.keep (ekS.rlst) (.keep (ek_TWrite.rlst) .nil)) (.cells rfl rfl (.slq rfl rfl (.slq rfl rfl .nil)) (.same rfl (ekS.fref _ _) (.same rfl (ek_TWrite.fref _ _) .nil)))))) rfl (.cons rfl (.ptr rfl) (.cons rfl (.ptr rfl) (.cons rfl (.ptr rfl) (.cons rfl (.dat .bool) (.cons rfl (.ptr rfl) (.cons rfl (.dat .bool) .nil)))))))⟩
        ·have h35 := iteBT ey17 hb
         refine rl.run 11 rfl (rl.done ?_)
         cases h35
         exact ⟨_, rfl, (Gh.ren0 [0, 1, 2, 5, 9, 10] (.cells rfl rfl (.keep (ekS.rlst) (.keep (ek_TWrite.rlst) .nil)) (.cells rfl rfl (.keep .int (.keep .int (.keep .int (.keep .int (.keep (ek_TRef.rlst) .nil))))) (.cells rfl rfl (.keep (ekS.rlst) (.keep (ek_TWrite.rlst) .nil)) (.cells rfl rfl (.slq rfl rfl (.slq rfl rfl .nil)) (.same rfl (ekS.fref _ _) (.same rfl (ek_TWrite.fref _ _) .nil)))))) rfl (.cons rfl (.ptr rfl) (.cons rfl (.ptr rfl) (.cons rfl (.ptr rfl) (.cons rfl (.dat .bool) (.cons rfl (.ptr rfl) (.cons rfl (.dat .bool) .nil)))))))⟩
       ·intro y hC
        subst hC
        cases hb : y17
        ·have h36 := iteBF h28 hb
         refine RW.cond_f rfl (RW.skip (RW.sreg (rl.run 1 rfl (rl.done (RW.sreg (rl.run 2 rfl ?_))))))
         obtain ⟨v19, e19, h37⟩ := bindS h36
         refine rl.call rfl rfl rfl (CallW.embW (r0 := .int .i64 v19.1) (H' := [some ⟨[.lst false 1 (fl (encS false) x0.Sectors) x0.Sectors.length, .lst false 2 (fl (enc_TWrite false) x0.Cache) x0.Cache.length], 0⟩, some ⟨[.int .i64 x1.Stamp, .int .i64 x1.NextGen, .int .i64 x1.NextSeq, .int .i64 x1.NextValid, .lst false 2 (fl (enc_TRef false) x1.Refs) x1.Refs.length], 0⟩, some ⟨[.lst false 1 (fl (encS false) v5.1.Sectors) v5.1.Sectors.length, .lst false 2 (fl (enc_TWrite false) v5.1.Cache) v5.1.Cache.length], 0⟩, some ⟨[.sl 4 0 v8.1.Sectors.length, .sl 5 0 v8.1.Cache.length], 0⟩, some ⟨fl (encS true) v19.2.1, 1⟩, some ⟨fl (enc_TWrite true) v19.2.2, 2⟩]) [⟨fl (encS true) v8.1.Sectors, 1⟩, ⟨fl (enc_TWrite true) v8.1.Cache, 2⟩] [⟨fl (encS true) v19.2.1, 1⟩, ⟨fl (enc_TWrite true) v19.2.2, 2⟩] [4, 5] ok_laws_markDisk (law_laws_markDisk_w (guardO_s e19)) (.cons rfl (ekS.fref _ _) (ekS.fown _) (.cons rfl (ek_TWrite.fref _ _) (ek_TWrite.fown _) .nil)) rfl (.cons (RnL.agg (.cons (.slq rfl rfl) (.cons (.slq rfl rfl) .nil))) (.cons (.dat .int) .nil)) .int rfl rfl ?_)
         refine rl.run 1 rfl (rl.done (RW.sreg (rl.run 1 rfl (rl.done (RW.sreg (rl.run 2 rfl ?_))))))
         obtain ⟨v20, e20, h38⟩ := bindS h37
         refine rl.call rfl rfl rfl (CallW.val (r' := .int .i64 v20) ok_laws_heldDisk (law_laws_heldDisk e20) (.cons (DFL.agg (.cons (.slq ekS rfl (guardO_p (p := fun r : Int × (List (List UInt8)) × (List TWrite) => v8.1.Sectors.length = r.2.1.length ∧ v8.1.Cache.length = r.2.2.length) e19).1) (.cons (.slq ek_TWrite rfl (guardO_p (p := fun r : Int × (List (List UInt8)) × (List TWrite) => v8.1.Sectors.length = r.2.1.length ∧ v8.1.Cache.length = r.2.2.length) e19).2) .nil))) (.cons .int .nil)) .refl ?_)
         refine rl.run 1 rfl (rl.done (RW.seq (RW.sreg (rl.run 1 rfl ?_))))
         refine rl.gen rfl rfl fun b hb => ?_
         cases b
         ·have h39 := iteBF h38 hb
          refine rl.done (RW.cond_f rfl (RW.skip (RW.seq (RW.sreg (rl.run 2 rfl ?_)))))
          refine rl.gen rfl rfl fun b hb => ?_
          cases b
          ·have h40 := iteBF h39 hb
           refine rl.done ?_
           refine RW.keep [2, 3, 6, 7, 10, 13, 93] (a' := [(2, .ptr 0 0), (3, .ptr 1 0), (6, .ptr 2 0), (7, .bool v5.2), (10, .ptr 3 0), (13, .int .i64 v19.1), (93, .bool false)]) (H' := [some ⟨[.lst false 1 (fl (encS false) x0.Sectors) x0.Sectors.length, .lst false 2 (fl (enc_TWrite false) x0.Cache) x0.Cache.length], 0⟩, some ⟨[.int .i64 x1.Stamp, .int .i64 x1.NextGen, .int .i64 x1.NextSeq, .int .i64 x1.NextValid, .lst false 2 (fl (enc_TRef false) x1.Refs) x1.Refs.length], 0⟩, some ⟨[.lst false 1 (fl (encS false) v5.1.Sectors) v5.1.Sectors.length, .lst false 2 (fl (enc_TWrite false) v5.1.Cache) v5.1.Cache.length], 0⟩, some ⟨[.sl 4 0 v8.1.Sectors.length, .sl 5 0 v8.1.Cache.length], 0⟩, some ⟨fl (encS true) v19.2.1, 1⟩, some ⟨fl (enc_TWrite true) v19.2.2, 2⟩]) rfl rfl ?_
           refine RW.cond_f rfl (RW.skip (RW.sdrw (rdraw.op rfl rfl ?_)))
           obtain ⟨v21, e21, h41⟩ := bindS h40
           refine rdraw.call rfl rfl rfl (CallW.val (r' := .agg (enc_TDisk false v21)) ok_laws_toDisk (law_laws_toDisk e21) (.cons (DFL.agg (.cons (.lst ekS) (.cons (.lst ek_TWrite) .nil))) .nil) (ek_TDisk.flag _).agg ⟨rfl, ?_⟩)
           refine rdraw.op rfl rfl ?_
           obtain ⟨v22, e22, h42⟩ := bindS h41
           refine rdraw.call rfl rfl rfl (CallW.val (r' := .agg (enc_TCheck false v22)) ok_laws_toCheck (law_laws_toCheck e22) (.cons (DFL.agg (.cons .int (.cons .int (.cons .int (.cons .int (.cons (.lst ek_TRef) .nil)))))) .nil) (ek_TCheck.flag _).agg ⟨rfl, ?_⟩)
           obtain ⟨v23, e23, h43⟩ := bindS h42
           refine rdraw.call rfl rfl rfl (CallW.val (r' := .tup [.agg (enc_TDisk false v23.1), .bool v23.2]) ok_impl_WriteCheck (law_impl_WriteCheck e23) (.cons (.dat (.agg (ek_TDisk.dat false _))) (.cons (.dat (.agg (ek_TCheck.dat false _))) .nil)) (FlL.tup (.cons (ek_TDisk.flag _).agg (.cons .refl .nil))) ⟨rfl, ?_⟩)
           refine rdraw.op rfl rfl (rdraw.op rfl rfl (rdraw.op rfl rfl ?_))
           refine rdraw.chnB rfl rfl (.here (.rx rfl) (.here (.rx rfl) (.here (.rx rfl) (.here (.cl rfl rfl (CallW.val (r' := .tup [.agg (enc_TDisk false v23.1), .bool v23.2]) ok_impl_WriteCheck (law_impl_WriteCheck e23) (.cons (.dat (.agg (ek_TDisk.dat false _))) (.cons (.dat (.agg (ek_TCheck.dat false _))) .nil)) (FlL.tup (.cons (ek_TDisk.flag _).agg (.cons .refl .nil))) ⟨rfl, rfl⟩)) (.here (.cl rfl rfl (CallW.val (r' := .agg (enc_TCheck false v22)) ok_laws_toCheck (law_laws_toCheck e22) (.cons (DFL.agg (.cons .int (.cons .int (.cons .int (.cons .int (.cons (.lst ek_TRef) .nil)))))) .nil) (ek_TCheck.flag _).agg ⟨rfl, rfl⟩)) (.here (.rx rfl) (.here (.cl rfl rfl (CallW.val (r' := .agg (enc_TDisk false v21)) ok_laws_toDisk (law_laws_toDisk e21) (.cons (DFL.agg (.cons (.lst ekS) (.cons (.lst ek_TWrite) .nil))) .nil) (ek_TDisk.flag _).agg ⟨rfl, rfl⟩)) (.here (.rx rfl) .nil)))))))) ?_
           refine rdraw.chnB rfl rfl (.here (.rx rfl) (.skip rfl (.skip rfl (.skip rfl (.skip rfl (.skip rfl (.skip rfl (.skip rfl .nil)))))))) ?_
           refine rdraw.op rfl rfl (rdraw.done ?_)
           refine RW.keep [6, 7, 10, 13, 15, 16] (a' := [(6, .ptr 2 0), (7, .bool v5.2), (10, .ptr 3 0), (13, .int .i64 v19.1), (15, .ptr 6 0), (16, .bool v23.2)]) (H' := [some ⟨[.lst false 1 (fl (encS false) x0.Sectors) x0.Sectors.length, .lst false 2 (fl (enc_TWrite false) x0.Cache) x0.Cache.length], 0⟩, some ⟨[.int .i64 x1.Stamp, .int .i64 x1.NextGen, .int .i64 x1.NextSeq, .int .i64 x1.NextValid, .lst false 2 (fl (enc_TRef false) x1.Refs) x1.Refs.length], 0⟩, some ⟨[.lst false 1 (fl (encS false) v5.1.Sectors) v5.1.Sectors.length, .lst false 2 (fl (enc_TWrite false) v5.1.Cache) v5.1.Cache.length], 0⟩, some ⟨[.sl 4 0 v8.1.Sectors.length, .sl 5 0 v8.1.Cache.length], 0⟩, some ⟨fl (encS true) v19.2.1, 1⟩, some ⟨fl (enc_TWrite true) v19.2.2, 2⟩, some ⟨[.lst false 1 (fl (encS false) v23.1.Sectors) v23.1.Sectors.length, .lst false 2 (fl (enc_TWrite false) v23.1.Cache) v23.1.Cache.length], 0⟩]) rfl rfl ?_
           refine RW.seq (RW.seq ?_)
           obtain ⟨y24, ey24, h44⟩ := bindS h43
           refine RW.cutq (σ := Bool) (fun y24 => [(10, .ptr 0 0), (13, .int .i64 v19.1), (110, .bool y24)]) (fun y24 => [some ⟨[.sl 1 0 v19.2.1.length, .sl 2 0 v19.2.2.length], 0⟩, some ⟨fl (encS true) v19.2.1, 1⟩, some ⟨fl (enc_TWrite true) v19.2.2, 2⟩]) (fun y => y24 = y) (fun _ _ _ _ g h => RW.gh g h) ?_ ?_
           ·refine RW.reg ?_
            refine rl.run 2 rfl ?_
            obtain ⟨v25, e25, h45⟩ := bindS ey24
            refine rl.call rfl rfl rfl (CallW.val (r' := .bool v25) ok_laws_eqDisk (law_laws_eqDisk e25) (.cons (DFL.agg (.cons (.lst ekS) (.cons (.lst ek_TWrite) .nil))) (.cons (DFL.agg (.cons (.lst ekS) (.cons (.lst ek_TWrite) .nil))) .nil)) .refl ?_)
            cases hb : v25
            ·have h46 := iteBF h45 hb
             refine rl.run 6 rfl (rl.done ?_)
             cases h46
             exact ⟨_, rfl, (Gh.ren0 [3, 4, 5] (.cells rfl rfl (.slq rfl (guardO_p (p := fun r : Int × (List (List UInt8)) × (List TWrite) => v8.1.Sectors.length = r.2.1.length ∧ v8.1.Cache.length = r.2.2.length) e19).1 (.slq rfl (guardO_p (p := fun r : Int × (List (List UInt8)) × (List TWrite) => v8.1.Sectors.length = r.2.1.length ∧ v8.1.Cache.length = r.2.2.length) e19).2 .nil)) (.same rfl (ekS.fref _ _) (.same rfl (ek_TWrite.fref _ _) .nil))) rfl (.cons rfl (.ptr rfl) (.cons rfl (.dat .int) (.cons rfl (.dat .bool) .nil))))⟩
            ·have h47 := iteBT h45 hb
             refine rl.run 4 rfl ?_
             refine rl.gen rfl rfl fun b hb => ?_
             cases b
             ·have h48 := iteBF h47 hb
              refine rl.run 1 rfl (rl.done ?_)
              cases h48
              exact ⟨_, rfl, (Gh.ren0 [3, 4, 5] (.cells rfl rfl (.slq rfl (guardO_p (p := fun r : Int × (List (List UInt8)) × (List TWrite) => v8.1.Sectors.length = r.2.1.length ∧ v8.1.Cache.length = r.2.2.length) e19).1 (.slq rfl (guardO_p (p := fun r : Int × (List (List UInt8)) × (List TWrite) => v8.1.Sectors.length = r.2.1.length ∧ v8.1.Cache.length = r.2.2.length) e19).2 .nil)) (.same rfl (ekS.fref _ _) (.same rfl (ek_TWrite.fref _ _) .nil))) rfl (.cons rfl (.ptr rfl) (.cons rfl (.dat .int) (.cons rfl (.dat .bool) .nil))))⟩
             ·have h49 := iteBT h47 hb
              refine rl.run 1 rfl (rl.done ?_)
              cases h49
              exact ⟨_, rfl, (Gh.ren0 [3, 4, 5] (.cells rfl rfl (.slq rfl (guardO_p (p := fun r : Int × (List (List UInt8)) × (List TWrite) => v8.1.Sectors.length = r.2.1.length ∧ v8.1.Cache.length = r.2.2.length) e19).1 (.slq rfl (guardO_p (p := fun r : Int × (List (List UInt8)) × (List TWrite) => v8.1.Sectors.length = r.2.1.length ∧ v8.1.Cache.length = r.2.2.length) e19).2 .nil)) (.same rfl (ekS.fref _ _) (.same rfl (ek_TWrite.fref _ _) .nil))) rfl (.cons rfl (.ptr rfl) (.cons rfl (.dat .int) (.cons rfl (.dat .bool) .nil))))⟩
           ·intro y hC
            subst hC
            cases hb : y24
            ·have h50 := iteBF h44 hb
             refine RW.cond_f rfl (RW.skip (RW.sreg (rl.run 1 rfl (rl.done (RW.sreg (rl.run 2 rfl ?_))))))
             obtain ⟨v26, e26, h51⟩ := bindS h50
             refine rl.call rfl rfl rfl (CallW.val (r' := .int .i64 v26) ok_laws_heldDisk (law_laws_heldDisk e26) (.cons (DFL.agg (.cons (.slq ekS rfl rfl) (.cons (.slq ek_TWrite rfl rfl) .nil))) (.cons .int .nil)) .refl ?_)
             refine rl.run 1 rfl (rl.done (RW.seq (RW.sreg (rl.run 1 rfl ?_))))
             refine rl.gen rfl rfl fun b hb => ?_
             cases b
             ·have h52 := iteBF h51 hb
              refine rl.done (RW.cond_f rfl (RW.skip (RW.seq (RW.sreg (rl.run 2 rfl ?_)))))
              refine rl.gen rfl rfl fun b hb => ?_
              cases b
              ·have h53 := iteBF h52 hb
               refine rl.done ?_
               refine RW.keep [118] (a' := [(118, .bool false)]) (H' := [some ⟨[.sl 1 0 v19.2.1.length, .sl 2 0 v19.2.2.length], 0⟩, some ⟨fl (encS true) v19.2.1, 1⟩, some ⟨fl (enc_TWrite true) v19.2.2, 2⟩]) rfl rfl ?_
               refine RW.cond_f rfl (RW.skip (RW.sreg (rl.run 1 rfl (rl.done (RW.ret ?_)))))
               cases h53
               exact RRet.mk rfl .bool (by first | decide | simp)
              ·have h54 := iteBT h52 hb
               refine rl.done ?_
               refine RW.keep [118] (a' := [(118, .bool true)]) (H' := [some ⟨[.sl 1 0 v19.2.1.length, .sl 2 0 v19.2.2.length], 0⟩, some ⟨fl (encS true) v19.2.1, 1⟩, some ⟨fl (enc_TWrite true) v19.2.2, 2⟩]) rfl rfl ?_
               refine RW.cond_t rfl (RW.sreg (rl.run 1 rfl (rl.done (RW.ret ?_))))
               cases h54
               exact RRet.mk rfl .bool (by first | decide | simp)
             ·have h55 := iteBT h51 hb
              refine rl.done (RW.cond_t rfl (RW.sreg (rl.run 1 rfl (rl.done (RW.ret ?_)))))
              cases h55
              exact RRet.mk rfl .bool (by first | decide | simp)
            ·have h56 := iteBT h44 hb
             refine RW.cond_t rfl (RW.sreg (rl.run 1 rfl (rl.done (RW.ret ?_))))
             cases h56
             exact RRet.mk rfl .bool (by first | decide | simp)
          ·have h57 := iteBT h39 hb
           refine rl.done ?_
           refine RW.keep [2, 3, 6, 7, 10, 13, 93] (a' := [(2, .ptr 0 0), (3, .ptr 1 0), (6, .ptr 2 0), (7, .bool v5.2), (10, .ptr 3 0), (13, .int .i64 v19.1), (93, .bool true)]) (H' := [some ⟨[.lst false 1 (fl (encS false) x0.Sectors) x0.Sectors.length, .lst false 2 (fl (enc_TWrite false) x0.Cache) x0.Cache.length], 0⟩, some ⟨[.int .i64 x1.Stamp, .int .i64 x1.NextGen, .int .i64 x1.NextSeq, .int .i64 x1.NextValid, .lst false 2 (fl (enc_TRef false) x1.Refs) x1.Refs.length], 0⟩, some ⟨[.lst false 1 (fl (encS false) v5.1.Sectors) v5.1.Sectors.length, .lst false 2 (fl (enc_TWrite false) v5.1.Cache) v5.1.Cache.length], 0⟩, some ⟨[.sl 4 0 v8.1.Sectors.length, .sl 5 0 v8.1.Cache.length], 0⟩, some ⟨fl (encS true) v19.2.1, 1⟩, some ⟨fl (enc_TWrite true) v19.2.2, 2⟩]) rfl rfl ?_
           refine RW.cond_t rfl (RW.sreg (rl.run 1 rfl (rl.done (RW.ret ?_))))
           cases h57
           exact RRet.mk rfl .bool (by first | decide | simp)
         ·have h58 := iteBT h38 hb
          refine rl.done (RW.cond_t rfl (RW.sreg (rl.run 1 rfl (rl.done ?_))))
          refine RW.keep [4] (a' := [(4, .bool false)]) (H' := [some ⟨[.lst false 1 (fl (encS false) x0.Sectors) x0.Sectors.length, .lst false 2 (fl (enc_TWrite false) x0.Cache) x0.Cache.length], 0⟩, some ⟨[.int .i64 x1.Stamp, .int .i64 x1.NextGen, .int .i64 x1.NextSeq, .int .i64 x1.NextValid, .lst false 2 (fl (enc_TRef false) x1.Refs) x1.Refs.length], 0⟩, some ⟨[.lst false 1 (fl (encS false) v5.1.Sectors) v5.1.Sectors.length, .lst false 2 (fl (enc_TWrite false) v5.1.Cache) v5.1.Cache.length], 0⟩, some ⟨[.sl 4 0 v8.1.Sectors.length, .sl 5 0 v8.1.Cache.length], 0⟩, some ⟨fl (encS true) v19.2.1, 1⟩, some ⟨fl (enc_TWrite true) v19.2.2, 2⟩]) rfl rfl ?_
          refine RW.ret ?_
          cases h58
          exact RRet.mk rfl .bool (by first | decide | simp)
        ·have h59 := iteBT h28 hb
         refine RW.cond_t rfl (RW.sreg (rl.run 1 rfl (rl.done (RW.ret ?_))))
         cases h59
         exact RRet.mk rfl .bool (by first | decide | simp)
    ·have h60 := iteBT h11 hb
     refine RW.cond_t rfl (RW.sreg (rl.run 1 rfl (rl.done (RW.ret ?_))))
     cases h60
     exact RRet.mk rfl .bool (by first | decide | simp)
  ·have h61 := iteBT h3 hb
   refine rl.done (RW.cond_t rfl (RW.sreg (rl.run 1 rfl (rl.done (RW.ret ?_)))))
   cases h61
   exact RRet.mk rfl .bool (by first | decide | simp)
 ·have h62 := iteBT h1 hb
  refine rl.done (RW.cond_t rfl (RW.sreg (rl.run 1 rfl (rl.done (RW.ret ?_)))))
  cases h62
  exact RRet.mk rfl .bool (by first | decide | simp)
end Go.Proofs.Ytgdcbjoaoagbpaa.V
