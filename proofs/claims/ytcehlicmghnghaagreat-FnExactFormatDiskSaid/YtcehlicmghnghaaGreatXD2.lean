/- What a call comes to. -/
import Derived.Test.YtcehlicmghnghaaGreatXD1
namespace Go.Proofs.YtcehlicmghnghaaGreat.V
open Go Go.Proofs Go.RowKit
set_option maxRecDepth 100000
set_option maxHeartbeats 2000000 in
theorem law_laws_FnExactFormatDisk {x0 : Int} {r : Bool} (hF : F_laws_FnExactFormatDisk x0 = some r) : PCalls Tryz.prog 3 [.int .i64 x0] (.bool r) := by
 refine PCalls.of_r k_laws_FnExactFormatDisk rfl ?_
 unfold F_laws_FnExactFormatDisk at hF
 refine RW.sreg (rl.run 1 rfl (rl.done (RW.sreg (rl.run 1 rfl ?_))))
 obtain ⟨v1, e1, h1⟩ := bindS hF
 refine rl.call rfl rfl rfl (CallW.val (r' := .tup [.agg (enc_TLog false v1.1), .bool v1.2]) ok_spec_FormatDisk (law_spec_FormatDisk e1) (.cons .int .nil) (FlL.tup (.cons (ek_TLog.flag _).agg (.cons .refl .nil))) ?_)
 refine rl.run 6 rfl (rl.done (RW.sreg (rl.run 1 rfl ?_)))
 obtain ⟨v2, e2, h2⟩ := bindS h1
 refine rl.call rfl rfl rfl (CallW.own (r' := .tup [.agg [.sl 1 0 v2.1.Disk.Sectors.length, .sl 2 0 v2.1.Disk.Cache.length, .int .i64 v2.1.Segs, .sl 3 0 v2.1.Used.length, .int .i64 v2.1.NextGen, .int .i64 v2.1.NextSeq, .int .i64 v2.1.Stamp, .int .i64 v2.1.NextValid], .bool v2.2]) (H' := [some ⟨[.lst false 1 (fl (encS false) v1.1.Disk.Sectors) v1.1.Disk.Sectors.length, .lst false 2 (fl (enc_TWrite false) v1.1.Disk.Cache) v1.1.Disk.Cache.length, .int .i64 v1.1.Segs, .lst false 4 (fl (enc_TSeg false) v1.1.Used) v1.1.Used.length, .int .i64 v1.1.NextGen, .int .i64 v1.1.NextSeq, .int .i64 v1.1.Stamp, .int .i64 v1.1.NextValid], 0⟩, some ⟨fl (encS true) v2.1.Disk.Sectors, 1⟩, some ⟨fl (enc_TWrite true) v2.1.Disk.Cache, 2⟩, some ⟨fl (enc_TSeg true) v2.1.Used, 4⟩]) ok_impl_FormatDisk (law_impl_FormatDisk e2) (.cons .int .nil) (fac (ek_TLog.own _) (fac .bool fan)) rfl ?_)
 refine rl.run 6 rfl (rl.done ?_)
 refine RW.keep [0, 3, 4, 5, 6] (a' := [(0, .int .i64 x0), (3, .ptr 0 0), (4, .bool v1.2), (5, .ptr 4 0), (6, .bool v2.2)]) (H' := [some ⟨[.lst false 1 (fl (encS false) v1.1.Disk.Sectors) v1.1.Disk.Sectors.length, .lst false 2 (fl (enc_TWrite false) v1.1.Disk.Cache) v1.1.Disk.Cache.length, .int .i64 v1.1.Segs, .lst false 4 (fl (enc_TSeg false) v1.1.Used) v1.1.Used.length, .int .i64 v1.1.NextGen, .int .i64 v1.1.NextSeq, .int .i64 v1.1.Stamp, .int .i64 v1.1.NextValid], 0⟩, some ⟨fl (encS true) v2.1.Disk.Sectors, 1⟩, some ⟨fl (enc_TWrite true) v2.1.Disk.Cache, 2⟩, some ⟨fl (enc_TSeg true) v2.1.Used, 4⟩, some ⟨[.sl 1 0 v2.1.Disk.Sectors.length, .sl 2 0 v2.1.Disk.Cache.length, .int .i64 v2.1.Segs, .sl 3 0 v2.1.Used.length, .int .i64 v2.1.NextGen, .int .i64 v2.1.NextSeq, .int .i64 v2.1.Stamp, .int .i64 v2.1.NextValid], 0⟩]) rfl rfl ?_
 refine RW.seq (RW.seq ?_)
 obtain ⟨y3, ey3, h3⟩ := bindS h2
 refine RW.cutq (σ := Bool) (fun y3 => [(0, .int .i64 x0), (3, .ptr 0 0), (4, .bool v1.2), (5, .ptr 1 0), (29, .bool y3)]) (fun y3 => [some ⟨[.lst false 1 (fl (encS false) v1.1.Disk.Sectors) v1.1.Disk.Sectors.length, .lst false 2 (fl (enc_TWrite false) v1.1.Disk.Cache) v1.1.Disk.Cache.length, .int .i64 v1.1.Segs, .lst false 4 (fl (enc_TSeg false) v1.1.Used) v1.1.Used.length, .int .i64 v1.1.NextGen, .int .i64 v1.1.NextSeq, .int .i64 v1.1.Stamp, .int .i64 v1.1.NextValid], 0⟩, some ⟨[.sl 2 0 v2.1.Disk.Sectors.length, .sl 3 0 v2.1.Disk.Cache.length, .int .i64 v2.1.Segs, .sl 4 0 v2.1.Used.length, .int .i64 v2.1.NextGen, .int .i64 v2.1.NextSeq, .int .i64 v2.1.Stamp, .int .i64 v2.1.NextValid], 0⟩, some ⟨fl (encS true) v2.1.Disk.Sectors, 1⟩, some ⟨fl (enc_TWrite true) v2.1.Disk.Cache, 2⟩, some ⟨fl (enc_TSeg true) v2.1.Used, 4⟩]) (fun y => y3 = y) (fun _ _ _ _ g h => RW.gh g h) ?_ ?_
 ·refine RW.reg ?_
  refine rl.run 2 rfl ?_
  obtain ⟨v4, e4, h4⟩ := bindS ey3
  refine rl.call rfl rfl rfl (CallW.val (r' := .bool v4) ok_laws_eqLog (law_laws_eqLog e4) (.cons (DFL.agg (.cons (.slq ekS rfl rfl) (.cons (.slq ek_TWrite rfl rfl) (.cons .int (.cons (.slq ek_TSeg rfl rfl) (.cons .int (.cons .int (.cons .int (.cons .int .nil))))))))) (.cons (DFL.agg (.cons (.lst ekS) (.cons (.lst ek_TWrite) (.cons .int (.cons (.lst ek_TSeg) (.cons .int (.cons .int (.cons .int (.cons .int .nil))))))))) .nil)) .refl ?_)
  cases hb : v4
  ·have h5 := iteBF h4 hb
   refine rl.run 6 rfl (rl.done ?_)
   cases h5
   exact ⟨_, rfl, (Gh.ren0 [0, 4, 1, 2, 3] (.cells rfl rfl (.keep (ekS.rlst) (.keep (ek_TWrite.rlst) (.keep .int (.keep (ek_TSeg.rlst) (.keep .int (.keep .int (.keep .int (.keep .int .nil)))))))) (.cells rfl rfl (.slq rfl rfl (.slq rfl rfl (.keep .int (.slq rfl rfl (.keep .int (.keep .int (.keep .int (.keep .int .nil)))))))) (.same rfl (ekS.fref _ _) (.same rfl (ek_TWrite.fref _ _) (.same rfl (ek_TSeg.fref _ _) .nil))))) rfl (.cons rfl (.dat .int) (.cons rfl (.ptr rfl) (.cons rfl (.dat .bool) (.cons rfl (.ptr rfl) (.cons rfl (.dat .bool) .nil))))))⟩
  ·have h6 := iteBT h4 hb
   refine rl.run 4 rfl ?_
   refine rl.gen rfl rfl fun b hb => ?_
   cases b
   ·have h7 := iteBF h6 hb
    refine rl.run 1 rfl (rl.done ?_)
    cases h7
    exact ⟨_, rfl, (Gh.ren0 [0, 4, 1, 2, 3] (.cells rfl rfl (.keep (ekS.rlst) (.keep (ek_TWrite.rlst) (.keep .int (.keep (ek_TSeg.rlst) (.keep .int (.keep .int (.keep .int (.keep .int .nil)))))))) (.cells rfl rfl (.slq rfl rfl (.slq rfl rfl (.keep .int (.slq rfl rfl (.keep .int (.keep .int (.keep .int (.keep .int .nil)))))))) (.same rfl (ekS.fref _ _) (.same rfl (ek_TWrite.fref _ _) (.same rfl (ek_TSeg.fref _ _) .nil))))) rfl (.cons rfl (.dat .int) (.cons rfl (.ptr rfl) (.cons rfl (.dat .bool) (.cons rfl (.ptr rfl) (.cons rfl (.dat .bool) .nil))))))⟩
   ·have h8 := iteBT h6 hb
    refine rl.run 1 rfl (rl.done ?_)
    cases h8
    exact ⟨_, rfl, (Gh.ren0 [0, 4, 1, 2, 3] (.cells rfl rfl (.keep (ekS.rlst) (.keep (ek_TWrite.rlst) (.keep .int (.keep (ek_TSeg.rlst) (.keep .int (.keep .int (.keep .int (.keep .int .nil)))))))) (.cells rfl rfl (.slq rfl rfl (.slq rfl rfl (.keep .int (.slq rfl rfl (.keep .int (.keep .int (.keep .int (.keep .int .nil)))))))) (.same rfl (ekS.fref _ _) (.same rfl (ek_TWrite.fref _ _) (.same rfl (ek_TSeg.fref _ _) .nil))))) rfl (.cons rfl (.dat .int) (.cons rfl (.ptr rfl) (.cons rfl (.dat .bool) (.cons rfl (.ptr rfl) (.cons rfl (.dat .bool) .nil))))))⟩
 ·intro y hC
  subst hC
  cases hb : y3
  ·have h9 := iteBF h3 hb
   refine RW.cond_f rfl (RW.skip (RW.sreg (rl.run 1 rfl (rl.done (RW.sreg (rl.run 2 rfl ?_))))))
   obtain ⟨v5, e5, h10⟩ := bindS h9
   refine rl.call rfl rfl rfl (CallW.embW (r0 := .int .i64 v5.1) (H' := [some ⟨[.lst false 1 (fl (encS false) v1.1.Disk.Sectors) v1.1.Disk.Sectors.length, .lst false 2 (fl (enc_TWrite false) v1.1.Disk.Cache) v1.1.Disk.Cache.length, .int .i64 v1.1.Segs, .lst false 4 (fl (enc_TSeg false) v1.1.Used) v1.1.Used.length, .int .i64 v1.1.NextGen, .int .i64 v1.1.NextSeq, .int .i64 v1.1.Stamp, .int .i64 v1.1.NextValid], 0⟩, some ⟨[.sl 2 0 v2.1.Disk.Sectors.length, .sl 3 0 v2.1.Disk.Cache.length, .int .i64 v2.1.Segs, .sl 4 0 v2.1.Used.length, .int .i64 v2.1.NextGen, .int .i64 v2.1.NextSeq, .int .i64 v2.1.Stamp, .int .i64 v2.1.NextValid], 0⟩, some ⟨fl (encS true) v5.2.1, 1⟩, some ⟨fl (enc_TWrite true) v5.2.2.1, 2⟩, some ⟨fl (enc_TSeg true) v5.2.2.2, 4⟩]) [⟨fl (encS true) v2.1.Disk.Sectors, 1⟩, ⟨fl (enc_TWrite true) v2.1.Disk.Cache, 2⟩, ⟨fl (enc_TSeg true) v2.1.Used, 4⟩] [⟨fl (encS true) v5.2.1, 1⟩, ⟨fl (enc_TWrite true) v5.2.2.1, 2⟩, ⟨fl (enc_TSeg true) v5.2.2.2, 4⟩] [2, 3, 4] ok_laws_markLog (law_laws_markLog_w (guardO_s e5)) (.cons rfl (ekS.fref _ _) (ekS.fown _) (.cons rfl (ek_TWrite.fref _ _) (ek_TWrite.fown _) (.cons rfl (ek_TSeg.fref _ _) (ek_TSeg.fown _) .nil))) rfl (.cons (RnL.agg (.cons (.slq rfl rfl) (.cons (.slq rfl rfl) (.cons (.dat .int) (.cons (.slq rfl rfl) (.cons (.dat .int) (.cons (.dat .int) (.cons (.dat .int) (.cons (.dat .int) .nil))))))))) (.cons (.dat .int) .nil)) .int rfl rfl ?_)
   refine rl.run 1 rfl (rl.done (RW.sreg (rl.run 1 rfl (rl.done (RW.sreg (rl.run 2 rfl ?_))))))
   obtain ⟨v6, e6, h11⟩ := bindS h10
   refine rl.call rfl rfl rfl (CallW.val (r' := .int .i64 v6) ok_laws_heldLog (law_laws_heldLog e6) (.cons (DFL.agg (.cons (.slq ekS rfl (guardO_p (p := fun r : Int × (List (List UInt8)) × (List TWrite) × (List TSeg) => v2.1.Disk.Sectors.length = r.2.1.length ∧ v2.1.Disk.Cache.length = r.2.2.1.length ∧ v2.1.Used.length = r.2.2.2.length) e5).1) (.cons (.slq ek_TWrite rfl (guardO_p (p := fun r : Int × (List (List UInt8)) × (List TWrite) × (List TSeg) => v2.1.Disk.Sectors.length = r.2.1.length ∧ v2.1.Disk.Cache.length = r.2.2.1.length ∧ v2.1.Used.length = r.2.2.2.length) e5).2.1) (.cons .int (.cons (.slq ek_TSeg rfl (guardO_p (p := fun r : Int × (List (List UInt8)) × (List TWrite) × (List TSeg) => v2.1.Disk.Sectors.length = r.2.1.length ∧ v2.1.Disk.Cache.length = r.2.2.1.length ∧ v2.1.Used.length = r.2.2.2.length) e5).2.2) (.cons .int (.cons .int (.cons .int (.cons .int .nil))))))))) (.cons .int .nil)) .refl ?_)
   refine rl.run 1 rfl (rl.done (RW.seq (RW.sreg (rl.run 1 rfl ?_))))
   refine rl.gen rfl rfl fun b hb => ?_
   cases b
   ·have h12 := iteBF h11 hb
    refine rl.done (RW.cond_f rfl (RW.skip (RW.seq (RW.sreg (rl.run 2 rfl ?_)))))
    refine rl.gen rfl rfl fun b hb => ?_
    cases b
    ·have h13 := iteBF h12 hb
     refine rl.done ?_
     refine RW.keep [0, 3, 4, 5, 7, 40] (a' := [(0, .int .i64 x0), (3, .ptr 0 0), (4, .bool v1.2), (5, .ptr 1 0), (7, .int .i64 v5.1), (40, .bool false)]) (H' := [some ⟨[.lst false 1 (fl (encS false) v1.1.Disk.Sectors) v1.1.Disk.Sectors.length, .lst false 2 (fl (enc_TWrite false) v1.1.Disk.Cache) v1.1.Disk.Cache.length, .int .i64 v1.1.Segs, .lst false 4 (fl (enc_TSeg false) v1.1.Used) v1.1.Used.length, .int .i64 v1.1.NextGen, .int .i64 v1.1.NextSeq, .int .i64 v1.1.Stamp, .int .i64 v1.1.NextValid], 0⟩, some ⟨[.sl 2 0 v2.1.Disk.Sectors.length, .sl 3 0 v2.1.Disk.Cache.length, .int .i64 v2.1.Segs, .sl 4 0 v2.1.Used.length, .int .i64 v2.1.NextGen, .int .i64 v2.1.NextSeq, .int .i64 v2.1.Stamp, .int .i64 v2.1.NextValid], 0⟩, some ⟨fl (encS true) v5.2.1, 1⟩, some ⟨fl (enc_TWrite true) v5.2.2.1, 2⟩, some ⟨fl (enc_TSeg true) v5.2.2.2, 4⟩]) rfl rfl ?_
     refine RW.cond_f rfl (RW.skip (RW.sreg (rl.run 1 rfl ?_)))
     obtain ⟨v7, e7, h14⟩ := bindS h13
     refine rl.call rfl rfl rfl (CallW.val (r' := .tup [.agg (enc_TLog false v7.1), .bool v7.2]) ok_impl_FormatDisk (law_impl_FormatDisk e7) (.cons .int .nil) (FlL.tup (.cons (ek_TLog.flag _).agg (.cons .refl .nil))) ?_)
     refine rl.run 6 rfl (rl.done (RW.seq (RW.seq ?_)))
     obtain ⟨y8, ey8, h15⟩ := bindS h14
     refine RW.cutq (σ := Bool) (fun y8 => [(5, .ptr 0 0), (7, .int .i64 v5.1), (54, .bool y8)]) (fun y8 => [some ⟨[.sl 1 0 v5.2.1.length, .sl 2 0 v5.2.2.1.length, .int .i64 v2.1.Segs, .sl 3 0 v5.2.2.2.length, .int .i64 v2.1.NextGen, .int .i64 v2.1.NextSeq, .int .i64 v2.1.Stamp, .int .i64 v2.1.NextValid], 0⟩, some ⟨fl (encS true) v5.2.1, 1⟩, some ⟨fl (enc_TWrite true) v5.2.2.1, 2⟩, some ⟨fl (enc_TSeg true) v5.2.2.2, 4⟩]) (fun y => y8 = y) (fun _ _ _ _ g h => RW.gh g h) ?_ ?_
     ·refine RW.reg ?_
      refine rl.run 2 rfl ?_
      obtain ⟨v9, e9, h16⟩ := bindS ey8
      refine rl.call rfl rfl rfl (CallW.val (r' := .bool v9) ok_laws_eqLog (law_laws_eqLog e9) (.cons (DFL.agg (.cons (.lst ekS) (.cons (.lst ek_TWrite) (.cons .int (.cons (.lst ek_TSeg) (.cons .int (.cons .int (.cons .int (.cons .int .nil))))))))) (.cons (DFL.agg (.cons (.lst ekS) (.cons (.lst ek_TWrite) (.cons .int (.cons (.lst ek_TSeg) (.cons .int (.cons .int (.cons .int (.cons .int .nil))))))))) .nil)) .refl ?_)
      cases hb : v9
      ·have h17 := iteBF h16 hb
       refine rl.run 6 rfl (rl.done ?_)
       cases h17
       exact ⟨_, rfl, (Gh.ren0 [1, 2, 3, 4] (.cells rfl rfl (.slq rfl (guardO_p (p := fun r : Int × (List (List UInt8)) × (List TWrite) × (List TSeg) => v2.1.Disk.Sectors.length = r.2.1.length ∧ v2.1.Disk.Cache.length = r.2.2.1.length ∧ v2.1.Used.length = r.2.2.2.length) e5).1 (.slq rfl (guardO_p (p := fun r : Int × (List (List UInt8)) × (List TWrite) × (List TSeg) => v2.1.Disk.Sectors.length = r.2.1.length ∧ v2.1.Disk.Cache.length = r.2.2.1.length ∧ v2.1.Used.length = r.2.2.2.length) e5).2.1 (.keep .int (.slq rfl (guardO_p (p := fun r : Int × (List (List UInt8)) × (List TWrite) × (List TSeg) => v2.1.Disk.Sectors.length = r.2.1.length ∧ v2.1.Disk.Cache.length = r.2.2.1.length ∧ v2.1.Used.length = r.2.2.2.length) e5).2.2 (.keep .int (.keep .int (.keep .int (.keep .int .nil)))))))) (.same rfl (ekS.fref _ _) (.same rfl (ek_TWrite.fref _ _) (.same rfl (ek_TSeg.fref _ _) .nil)))) rfl (.cons rfl (.ptr rfl) (.cons rfl (.dat .int) (.cons rfl (.dat .bool) .nil))))⟩
      ·have h18 := iteBT h16 hb
       refine rl.run 4 rfl ?_
       refine rl.gen rfl rfl fun b hb => ?_
       cases b
       ·have h19 := iteBF h18 hb
        refine rl.run 1 rfl (rl.done ?_)
        cases h19
        exact ⟨_, rfl, (Gh.ren0 [1, 2, 3, 4] (.cells rfl rfl (.slq rfl (guardO_p (p := fun r : Int × (List (List UInt8)) × (List TWrite) × (List TSeg) => v2.1.Disk.Sectors.length = r.2.1.length ∧ v2.1.Disk.Cache.length = r.2.2.1.length ∧ v2.1.Used.length = r.2.2.2.length) e5).1 (.slq rfl (guardO_p (p := fun r : Int × (List (List UInt8)) × (List TWrite) × (List TSeg) => v2.1.Disk.Sectors.length = r.2.1.length ∧ v2.1.Disk.Cache.length = r.2.2.1.length ∧ v2.1.Used.length = r.2.2.2.length) e5).2.1 (.keep .int (.slq rfl (guardO_p (p := fun r : Int × (List (List UInt8)) × (List TWrite) × (List TSeg) => v2.1.Disk.Sectors.length = r.2.1.length ∧ v2.1.Disk.Cache.length = r.2.2.1.length ∧ v2.1.Used.length = r.2.2.2.length) e5).2.2 (.keep .int (.keep .int (.keep .int (.keep .int .nil)))))))) (.same rfl (ekS.fref _ _) (.same rfl (ek_TWrite.fref _ _) (.same rfl (ek_TSeg.fref _ _) .nil)))) rfl (.cons rfl (.ptr rfl) (.cons rfl (.dat .int) (.cons rfl (.dat .bool) .nil))))⟩
       ·have h20 := iteBT h18 hb
        refine rl.run 1 rfl (rl.done ?_)
        cases h20
        exact ⟨_, rfl, (Gh.ren0 [1, 2, 3, 4] (.cells rfl rfl (.slq rfl (guardO_p (p := fun r : Int × (List (List UInt8)) × (List TWrite) × (List TSeg) => v2.1.Disk.Sectors.length = r.2.1.length ∧ v2.1.Disk.Cache.length = r.2.2.1.length ∧ v2.1.Used.length = r.2.2.2.length) e5).1 (.slq rfl (guardO_p (p := fun r : Int × (List (List UInt8)) × (List TWrite) × (List TSeg) => v2.1.Disk.Sectors.length = r.2.1.length ∧ v2.1.Disk.Cache.length = r.2.2.1.length ∧ v2.1.Used.length = r.2.2.2.length) e5).2.1 (.keep .int (.slq rfl (guardO_p (p := fun r : Int × (List (List UInt8)) × (List TWrite) × (List TSeg) => v2.1.Disk.Sectors.length = r.2.1.length ∧ v2.1.Disk.Cache.length = r.2.2.1.length ∧ v2.1.Used.length = r.2.2.2.length) e5).2.2 (.keep .int (.keep .int (.keep .int (.keep .int .nil)))))))) (.same rfl (ekS.fref _ _) (.same rfl (ek_TWrite.fref _ _) (.same rfl (ek_TSeg.fref _ _) .nil)))) rfl (.cons rfl (.ptr rfl) (.cons rfl (.dat .int) (.cons rfl (.dat .bool) .nil))))⟩
     ·intro y hC
      subst hC
      cases hb : y8
      ·have h21 := iteBF h15 hb
       refine RW.cond_f rfl (RW.skip (RW.sreg (rl.run 1 rfl (rl.done (RW.sreg (rl.run 2 rfl ?_))))))
       obtain ⟨v10, e10, h22⟩ := bindS h21
       refine rl.call rfl rfl rfl (CallW.val (r' := .int .i64 v10) ok_laws_heldLog (law_laws_heldLog e10) (.cons (DFL.agg (.cons (.slq ekS rfl rfl) (.cons (.slq ek_TWrite rfl rfl) (.cons .int (.cons (.slq ek_TSeg rfl rfl) (.cons .int (.cons .int (.cons .int (.cons .int .nil))))))))) (.cons .int .nil)) .refl ?_)
       refine rl.run 1 rfl (rl.done (RW.seq (RW.sreg (rl.run 1 rfl ?_))))
       refine rl.gen rfl rfl fun b hb => ?_
       cases b
       ·have h23 := iteBF h22 hb
        refine rl.done (RW.cond_f rfl (RW.skip (RW.seq (RW.sreg (rl.run 2 rfl ?_)))))
        refine rl.gen rfl rfl fun b hb => ?_
        cases b
        ·have h24 := iteBF h23 hb
         refine rl.done ?_
         refine RW.keep [62] (a' := [(62, .bool false)]) (H' := [some ⟨[.sl 1 0 v5.2.1.length, .sl 2 0 v5.2.2.1.length, .int .i64 v2.1.Segs, .sl 3 0 v5.2.2.2.length, .int .i64 v2.1.NextGen, .int .i64 v2.1.NextSeq, .int .i64 v2.1.Stamp, .int .i64 v2.1.NextValid], 0⟩, some ⟨fl (encS true) v5.2.1, 1⟩, some ⟨fl (enc_TWrite true) v5.2.2.1, 2⟩, some ⟨fl (enc_TSeg true) v5.2.2.2, 4⟩]) rfl rfl ?_
         refine RW.cond_f rfl (RW.skip (RW.sreg (rl.run 1 rfl (rl.done (RW.ret ?_)))))
         cases h24
         exact RRet.mk rfl .bool (by first | decide | simp)
        ·have h25 := iteBT h23 hb
         refine rl.done ?_
         refine RW.keep [62] (a' := [(62, .bool true)]) (H' := [some ⟨[.sl 1 0 v5.2.1.length, .sl 2 0 v5.2.2.1.length, .int .i64 v2.1.Segs, .sl 3 0 v5.2.2.2.length, .int .i64 v2.1.NextGen, .int .i64 v2.1.NextSeq, .int .i64 v2.1.Stamp, .int .i64 v2.1.NextValid], 0⟩, some ⟨fl (encS true) v5.2.1, 1⟩, some ⟨fl (enc_TWrite true) v5.2.2.1, 2⟩, some ⟨fl (enc_TSeg true) v5.2.2.2, 4⟩]) rfl rfl ?_
         refine RW.cond_t rfl (RW.sreg (rl.run 1 rfl (rl.done (RW.ret ?_))))
         cases h25
         exact RRet.mk rfl .bool (by first | decide | simp)
       ·have h26 := iteBT h22 hb
        refine rl.done (RW.cond_t rfl (RW.sreg (rl.run 1 rfl (rl.done (RW.ret ?_)))))
        cases h26
        exact RRet.mk rfl .bool (by first | decide | simp)
      ·have h27 := iteBT h15 hb
       refine RW.cond_t rfl (RW.sreg (rl.run 1 rfl (rl.done (RW.ret ?_))))
       cases h27
       exact RRet.mk rfl .bool (by first | decide | simp)
    ·have h28 := iteBT h12 hb
     refine rl.done ?_
     refine RW.keep [0, 3, 4, 5, 7, 40] (a' := [(0, .int .i64 x0), (3, .ptr 0 0), (4, .bool v1.2), (5, .ptr 1 0), (7, .int .i64 v5.1), (40, .bool true)]) (H' := [some ⟨[.lst false 1 (fl (encS false) v1.1.Disk.Sectors) v1.1.Disk.Sectors.length, .lst false 2 (fl (enc_TWrite false) v1.1.Disk.Cache) v1.1.Disk.Cache.length, .int .i64 v1.1.Segs, .lst false 4 (fl (enc_TSeg false) v1.1.Used) v1.1.Used.length, .int .i64 v1.1.NextGen, .int .i64 v1.1.NextSeq, .int .i64 v1.1.Stamp, .int .i64 v1.1.NextValid], 0⟩, some ⟨[.sl 2 0 v2.1.Disk.Sectors.length, .sl 3 0 v2.1.Disk.Cache.length, .int .i64 v2.1.Segs, .sl 4 0 v2.1.Used.length, .int .i64 v2.1.NextGen, .int .i64 v2.1.NextSeq, .int .i64 v2.1.Stamp, .int .i64 v2.1.NextValid], 0⟩, some ⟨fl (encS true) v5.2.1, 1⟩, some ⟨fl (enc_TWrite true) v5.2.2.1, 2⟩, some ⟨fl (enc_TSeg true) v5.2.2.2, 4⟩]) rfl rfl ?_
     refine RW.cond_t rfl (RW.sreg (rl.run 1 rfl (rl.done (RW.ret ?_))))
     cases h28
     exact RRet.mk rfl .bool (by first | decide | simp)
   ·have h29 := iteBT h11 hb
    refine rl.done (RW.cond_t rfl (RW.sreg (rl.run 1 rfl (rl.done ?_))))
    refine RW.keep [2] (a' := [(2, .bool false)]) (H' := [some ⟨[.lst false 1 (fl (encS false) v1.1.Disk.Sectors) v1.1.Disk.Sectors.length, .lst false 2 (fl (enc_TWrite false) v1.1.Disk.Cache) v1.1.Disk.Cache.length, .int .i64 v1.1.Segs, .lst false 4 (fl (enc_TSeg false) v1.1.Used) v1.1.Used.length, .int .i64 v1.1.NextGen, .int .i64 v1.1.NextSeq, .int .i64 v1.1.Stamp, .int .i64 v1.1.NextValid], 0⟩, some ⟨[.sl 2 0 v2.1.Disk.Sectors.length, .sl 3 0 v2.1.Disk.Cache.length, .int .i64 v2.1.Segs, .sl 4 0 v2.1.Used.length, .int .i64 v2.1.NextGen, .int .i64 v2.1.NextSeq, .int .i64 v2.1.Stamp, .int .i64 v2.1.NextValid], 0⟩, some ⟨fl (encS true) v5.2.1, 1⟩, some ⟨fl (enc_TWrite true) v5.2.2.1, 2⟩, some ⟨fl (enc_TSeg true) v5.2.2.2, 4⟩]) rfl rfl ?_
    refine RW.ret ?_
    cases h29
    exact RRet.mk rfl .bool (by first | decide | simp)
  ·have h30 := iteBT h3 hb
   refine RW.cond_t rfl (RW.sreg (rl.run 1 rfl (rl.done (RW.ret ?_))))
   cases h30
   exact RRet.mk rfl .bool (by first | decide | simp)
end Go.Proofs.YtcehlicmghnghaaGreat.V
