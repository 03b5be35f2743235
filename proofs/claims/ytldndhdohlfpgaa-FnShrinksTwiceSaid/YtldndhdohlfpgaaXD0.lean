/- What a call comes to. -/
import Derived.Test.YtldndhdohlfpgaaXT
import Derived.Test.YtldndhdohlfpgaaXU
namespace Go.Proofs.Ytldndhdohlfpgaa.V
open Go Go.Proofs Go.RowKit
set_option maxRecDepth 100000
theorem law_spec_l01New_w {x0 : List Int} {B0_ o0_ : Nat} {r : TL01Cur} (hF : F_spec_l01New_w x0 = some r) : ACalls Try.prog 0 47 [pvB B0_ o0_ x0] [] (.ptr 0 0) [some ⟨[pvB B0_ o0_ x0, .j r.mI, .j r.mH], 0⟩] := by
 refine ACalls.of_m k_spec_l01New rfl ?_
 unfold F_spec_l01New_w at hF
 refine RW.sreg (rl.run 1 rfl (rl.done (RW.sreg (rl.run 4 rfl (rl.done (RW.seq (RW.sreg (rl.run 1 rfl (rl.done ?_)))))))))
 obtain ⟨y5, ey5, h2⟩ := bindS hF
 refine RW.cutq (σ := Int) (fun y2 => [(0, pvB B0_ o0_ x0), (3, .j y2)]) (fun y2 => []) (fun y => y5 = y) (fun _ _ _ _ g h => RW.gh g h) ?_ ?_
 ·refine RW.blk ?_
  refine RW.iter (σ := Int × Int) ey5 (fun s1 => [(0, pvB B0_ o0_ x0), (3, .j s1.1), (4, .j s1.2)]) (fun s1 => []) (Gh.ren0 [] .nil rfl (.cons rfl (.dat (.pv ekB.rlst)) (.cons rfl (.dat .int) (.cons rfl (.dat .int) .nil)))) (fun s1 B o hS1 hB1 hE1 => ?_)
  unfold S_spec_l01New_w_1 at hS1
  refine RW.seq (RW.seq ?_)
  obtain ⟨y3, ey3, h3⟩ := bindS hS1
  refine RW.cutq (σ := Bool) (fun y3 => [(0, pvB B0_ o0_ x0), (3, .j s1.1), (4, .j s1.2), (15, .bool y3)]) (fun y3 => []) (fun y => y3 = y) (fun _ _ _ _ g h => RW.gh g h) ?_ ?_
  ·refine RW.reg ?_
   refine rl.run 3 rfl ?_
   refine rl.gen rfl rfl fun b hb => ?_
   cases b
   ·have h4 := iteBF ey3 hb
    refine rl.run 4 rfl (rl.done ?_)
    cases h4
    exact ⟨_, rfl, (Gh.ren0 [] .nil rfl (.cons rfl (.dat (.pv ekB.rlst)) (.cons rfl (.dat .int) (.cons rfl (.dat .int) (.cons rfl (.dat .bool) .nil)))))⟩
   ·have h5 := iteBT ey3 hb
    refine rl.run 2 rfl ?_
    refine rl.gen rfl rfl fun b hb => ?_
    cases b
    ·have h6 := iteBF h5 hb
     refine rl.run 1 rfl (rl.done ?_)
     cases h6
     exact ⟨_, rfl, (Gh.ren0 [] .nil rfl (.cons rfl (.dat (.pv ekB.rlst)) (.cons rfl (.dat .int) (.cons rfl (.dat .int) (.cons rfl (.dat .bool) .nil)))))⟩
    ·have h7 := iteBT h5 hb
     refine rl.run 1 rfl (rl.done ?_)
     cases h7
     exact ⟨_, rfl, (Gh.ren0 [] .nil rfl (.cons rfl (.dat (.pv ekB.rlst)) (.cons rfl (.dat .int) (.cons rfl (.dat .int) (.cons rfl (.dat .bool) .nil)))))⟩
  ·intro y hC
   subst hC
   cases hb : y3
   ·have h8 := iteBF h3 hb
    refine RW.cond_f rfl (RW.exit (blkA_eq ?_))
    cases h8
    exact ⟨_, (hE1 _ rfl).symm, (Gh.ren0 [] .nil rfl (.cons rfl (.dat (.pv ekB.rlst)) (.cons rfl (.dat .int) .nil)))⟩
   ·have h9 := iteBT h3 hb
    refine RW.cond_t rfl (RW.skip (RW.seq (RW.blk (RW.reg (rl.run 4 rfl ?_)))))
    obtain ⟨v4, e4, h10⟩ := bindS h9
    refine rl.op (x_ia_pv (enc := encB) (o := false) rfl rfl rfl e4) ?_
    refine rl.op (x_ld_el (off' := 0) ekB rfl e4 rfl rfl rfl) ?_
    refine rl.run 5 rfl (rl.done (RW.reg (rl.run 3 rfl (rl.done ?_))))
    cases h10
    exact hB1 _ rfl _ _ (Gh.ren0 [] .nil rfl (.cons rfl (.dat (.pv ekB.rlst)) (.cons rfl (.dat .int) (.cons rfl (.dat .int) .nil))))
 ·intro y2 hC
  subst hC
  refine RW.sreg (rl.run 5 rfl (rl.done (RW.ret ?_)))
  cases h2
  exact RRetM.mk [0] Gh.refl rfl (.cells rfl rfl (.keep (.pv ekB.rlst) (.keep .int (.keep .int .nil))) .nil) rfl rfl rfl (.ptr rfl)
theorem law_spec_l01Byte_w {x0 : TL01Cur} {B0_ o0_ : Nat} {r : Int × TL01Cur} (hF : F_spec_l01Byte_w x0 = some r) : ACalls Try.prog 0 71 [.ptr 0 0] [some ⟨[pvB B0_ o0_ x0.mB, .j x0.mI, .j x0.mH], 0⟩] (.j r.1) [some ⟨[pvB B0_ o0_ x0.mB, .j r.2.mI, .j r.2.mH], 0⟩] := by
 refine ACalls.of_s k_spec_l01Byte rfl ?_
 unfold F_spec_l01Byte_w at hF
 refine RW.sreg (rl.run 1 rfl (rl.done (RW.sreg (rl.run 10 rfl (rl.done (RW.sdrw (rdraw.op rfl rfl (rdraw.op rfl rfl (rdraw.op rfl rfl (rdraw.op rfl rfl (rdraw.op rfl rfl ?_)))))))))))
 refine rdraw.op rfl rfl (rdraw.op rfl rfl (rdraw.op rfl rfl (rdraw.op rfl rfl (rdraw.op rfl rfl (rdraw.op rfl rfl (rdraw.op rfl rfl (rdraw.op rfl rfl (rdraw.done ?_))))))))
 refine RW.kp [0, 3] [(0, .ptr 0 0), (3, .j (andv .i64 (xorv .i64 (shrv .i64 (w64 ((w64 (x0.mH * 6364136223846793005)) + 1442695040888963407)) 33) (shrv .i64 (w64 ((w64 (x0.mH * 6364136223846793005)) + 1442695040888963407)) 45)) 255))] [some ⟨[pvB B0_ o0_ x0.mB, .j x0.mI, .j (w64 ((w64 (x0.mH * 6364136223846793005)) + 1442695040888963407))], 0⟩] rfl rfl ?_
 refine RW.seq (RW.sdrw (rdraw.op rfl rfl (rdraw.op rfl rfl (rdraw.op rfl rfl (rdraw.op rfl rfl (rdraw.op rfl rfl (rdraw.op rfl rfl (rdraw.op rfl rfl (rdraw.op rfl rfl (rdraw.op rfl rfl ?_))))))))))
 refine rdraw.gen rfl rfl fun b hb => ?_
 cases b
 ·have h1 := iteBF hF hb
  refine rdraw.done (RW.cond_f rfl (RW.skip (RW.sreg (rl.run 2 rfl (rl.done ?_)))))
  refine RW.kp [2] [(2, .j (andv .i64 (xorv .i64 (shrv .i64 (w64 ((w64 (x0.mH * 6364136223846793005)) + 1442695040888963407)) 33) (shrv .i64 (w64 ((w64 (x0.mH * 6364136223846793005)) + 1442695040888963407)) 45)) 255))] [some ⟨[pvB B0_ o0_ x0.mB, .j x0.mI, .j (w64 ((w64 (x0.mH * 6364136223846793005)) + 1442695040888963407))], 0⟩] rfl rfl ?_
  refine RW.ret ?_
  cases h1
  exact RRetS.mk rfl .int (Gh.renN [0] (.cells rfl rfl (.keep (.pv ekB.rlst) (.keep .int (.keep .int .nil))) .nil) rfl rfl rfl .nil)
 ·have h2 := iteBT hF hb
  refine rdraw.done (RW.cond_t rfl (RW.sdrw (rdraw.op rfl rfl (rdraw.op rfl rfl (rdraw.op rfl rfl (rdraw.op rfl rfl (rdraw.op rfl rfl (rdraw.op rfl rfl (rdraw.op rfl rfl (rdraw.op rfl rfl (rdraw.op rfl rfl ?_)))))))))))
  obtain ⟨v1, e1, h3⟩ := bindS h2
  refine rdraw.op rfl (x_ia_lst (enc := encB) (o := false) rfl rfl rfl e1) ?_
  refine rdraw.op rfl (x_ld_el (off' := 0) ekB rfl e1 rfl rfl rfl) ?_
  refine rdraw.op rfl rfl (rdraw.op rfl rfl (rdraw.op rfl rfl (rdraw.op rfl rfl (rdraw.done ?_))))
  refine RW.kp [0, 3] [(0, .ptr 0 0), (3, .j (andv .i64 (w64 ((andv .i64 (xorv .i64 (shrv .i64 (w64 ((w64 (x0.mH * 6364136223846793005)) + 1442695040888963407)) 33) (shrv .i64 (w64 ((w64 (x0.mH * 6364136223846793005)) + 1442695040888963407)) 45)) 255) + (w64 v1))) 255))] [some ⟨[pvB B0_ o0_ x0.mB, .j x0.mI, .j (w64 ((w64 (x0.mH * 6364136223846793005)) + 1442695040888963407))], 0⟩] rfl rfl ?_
  refine RW.reg (rl.run 9 rfl (rl.done (RW.sreg (rl.run 2 rfl (rl.done ?_)))))
  refine RW.kp [2] [(2, .j (andv .i64 (w64 ((andv .i64 (xorv .i64 (shrv .i64 (w64 ((w64 (x0.mH * 6364136223846793005)) + 1442695040888963407)) 33) (shrv .i64 (w64 ((w64 (x0.mH * 6364136223846793005)) + 1442695040888963407)) 45)) 255) + (w64 v1))) 255))] [some ⟨[pvB B0_ o0_ x0.mB, .j (w64 (x0.mI + 1)), .j (w64 ((w64 (x0.mH * 6364136223846793005)) + 1442695040888963407))], 0⟩] rfl rfl ?_
  refine RW.ret ?_
  cases h3
  exact RRetS.mk rfl .int (Gh.renN [0] (.cells rfl rfl (.keep (.pv ekB.rlst) (.keep .int (.keep .int .nil))) .nil) rfl rfl rfl .nil)
theorem law_spec_l01Below_w {x0 : TL01Cur} {x1 : Int} {B0_ o0_ : Nat} {r : Int × TL01Cur} (hF : F_spec_l01Below_w x0 x1 = some r) : ACalls Try.prog 0 72 [.ptr 0 0, .j x1] [some ⟨[pvB B0_ o0_ x0.mB, .j x0.mI, .j x0.mH], 0⟩] (.j r.1) [some ⟨[pvB B0_ o0_ x0.mB, .j r.2.mI, .j r.2.mH], 0⟩] := by
 refine ACalls.of_s k_spec_l01Below rfl ?_
 unfold F_spec_l01Below_w at hF
 refine RW.sreg (rl.run 1 rfl (rl.done (RW.seq (RW.sreg (rl.run 1 rfl ?_)))))
 refine rl.gen rfl rfl fun b hb => ?_
 cases b
 ·have h1 := iteBF hF hb
  refine rl.done (RW.cond_f rfl (RW.skip (RW.seq (RW.sreg (rl.run 1 rfl ?_)))))
  refine rl.gen rfl rfl fun b hb => ?_
  cases b
  ·have h2 := iteBF h1 hb
   refine rl.done (RW.cond_f rfl (RW.skip (RW.sreg (rl.run 1 rfl ?_))))
   obtain ⟨v1, e1, h3⟩ := bindS h2
   refine rl.call rfl rfl rfl (CallW.embN (r0 := .j v1.1) (H' := [some ⟨[pvB B0_ o0_ x0.mB, .j v1.2.mI, .j v1.2.mH], 0⟩]) [⟨[pvB B0_ o0_ x0.mB, .j x0.mI, .j x0.mH], 0⟩] [⟨[pvB B0_ o0_ x0.mB, .j v1.2.mI, .j v1.2.mH], 0⟩] [] [0] [pvB B0_ o0_ x0.mB] ok_spec_l01Byte (law_spec_l01Byte_w e1) (.cons rfl (fac (.pv ekB.rlst) (fac .int (fac .int fan))) (fac (.inr (.head _)) (fac (.inl .int) (fac (.inl .int) fan))) .nil) .nil (.blk 0 0 0 0 0 rfl rfl rfl rfl scalB .nil) rfl (.cons (.ptr rfl) .nil) .int rfl ?_)
   refine rl.run 1 rfl (rl.done (RW.sreg (rl.run 1 rfl ?_)))
   obtain ⟨v2, e2, h4⟩ := bindS h3
   refine rl.call rfl rfl rfl (CallW.embN (r0 := .j v2.1) (H' := [some ⟨[pvB B0_ o0_ x0.mB, .j v2.2.mI, .j v2.2.mH], 0⟩]) [⟨[pvB B0_ o0_ x0.mB, .j v1.2.mI, .j v1.2.mH], 0⟩] [⟨[pvB B0_ o0_ x0.mB, .j v2.2.mI, .j v2.2.mH], 0⟩] [] [0] [pvB B0_ o0_ x0.mB] ok_spec_l01Byte (law_spec_l01Byte_w e2) (.cons rfl (fac (.pv ekB.rlst) (fac .int (fac .int fan))) (fac (.inr (.head _)) (fac (.inl .int) (fac (.inl .int) fan))) .nil) .nil (.blk 0 0 0 0 0 rfl rfl rfl rfl scalB .nil) rfl (.cons (.ptr rfl) .nil) .int rfl ?_)
   refine rl.run 1 rfl (rl.done (RW.sreg (rl.run 1 rfl ?_)))
   obtain ⟨v3, e3, h5⟩ := bindS h4
   refine rl.call rfl rfl rfl (CallW.embN (r0 := .j v3.1) (H' := [some ⟨[pvB B0_ o0_ x0.mB, .j v3.2.mI, .j v3.2.mH], 0⟩]) [⟨[pvB B0_ o0_ x0.mB, .j v2.2.mI, .j v2.2.mH], 0⟩] [⟨[pvB B0_ o0_ x0.mB, .j v3.2.mI, .j v3.2.mH], 0⟩] [] [0] [pvB B0_ o0_ x0.mB] ok_spec_l01Byte (law_spec_l01Byte_w e3) (.cons rfl (fac (.pv ekB.rlst) (fac .int (fac .int fan))) (fac (.inr (.head _)) (fac (.inl .int) (fac (.inl .int) fan))) .nil) .nil (.blk 0 0 0 0 0 rfl rfl rfl rfl scalB .nil) rfl (.cons (.ptr rfl) .nil) .int rfl ?_)
   refine rl.run 1 rfl (rl.done ?_)
   refine RW.kp [0, 1, 5, 6, 7] [(0, .ptr 0 0), (1, .j x1), (5, .j v1.1), (6, .j v2.1), (7, .j v3.1)] [some ⟨[pvB B0_ o0_ x0.mB, .j v3.2.mI, .j v3.2.mH], 0⟩] rfl rfl ?_
   refine RW.sreg (rl.run 1 rfl ?_)
   obtain ⟨v4, e4, h6⟩ := bindS h5
   refine rl.call rfl rfl rfl (CallW.embN (r0 := .j v4.1) (H' := [some ⟨[pvB B0_ o0_ x0.mB, .j v4.2.mI, .j v4.2.mH], 0⟩]) [⟨[pvB B0_ o0_ x0.mB, .j v3.2.mI, .j v3.2.mH], 0⟩] [⟨[pvB B0_ o0_ x0.mB, .j v4.2.mI, .j v4.2.mH], 0⟩] [] [0] [pvB B0_ o0_ x0.mB] ok_spec_l01Byte (law_spec_l01Byte_w e4) (.cons rfl (fac (.pv ekB.rlst) (fac .int (fac .int fan))) (fac (.inr (.head _)) (fac (.inl .int) (fac (.inl .int) fan))) .nil) .nil (.blk 0 0 0 0 0 rfl rfl rfl rfl scalB .nil) rfl (.cons (.ptr rfl) .nil) .int rfl ?_)
   refine rl.run 1 rfl (rl.done (RW.sreg (rl.run 11 rfl ?_)))
   obtain ⟨v5, e5, h7⟩ := bindS h6
   refine rl.op (x_rem rfl rfl e5) ?_
   refine rl.run 1 rfl (rl.done ?_)
   refine RW.kp [4] [(4, .j v5)] [some ⟨[pvB B0_ o0_ x0.mB, .j v4.2.mI, .j v4.2.mH], 0⟩] rfl rfl ?_
   refine RW.ret ?_
   cases h7
   exact RRetS.mk rfl .int (Gh.renN [0] (.cells rfl rfl (.keep (.pv ekB.rlst) (.keep .int (.keep .int .nil))) .nil) rfl rfl rfl .nil)
  ·have h8 := iteBT h1 hb
   refine rl.done (RW.cond_t rfl (RW.sreg (rl.run 1 rfl ?_)))
   obtain ⟨v6, e6, h9⟩ := bindS h8
   refine rl.call rfl rfl rfl (CallW.embN (r0 := .j v6.1) (H' := [some ⟨[pvB B0_ o0_ x0.mB, .j v6.2.mI, .j v6.2.mH], 0⟩]) [⟨[pvB B0_ o0_ x0.mB, .j x0.mI, .j x0.mH], 0⟩] [⟨[pvB B0_ o0_ x0.mB, .j v6.2.mI, .j v6.2.mH], 0⟩] [] [0] [pvB B0_ o0_ x0.mB] ok_spec_l01Byte (law_spec_l01Byte_w e6) (.cons rfl (fac (.pv ekB.rlst) (fac .int (fac .int fan))) (fac (.inr (.head _)) (fac (.inl .int) (fac (.inl .int) fan))) .nil) .nil (.blk 0 0 0 0 0 rfl rfl rfl rfl scalB .nil) rfl (.cons (.ptr rfl) .nil) .int rfl ?_)
   refine rl.run 1 rfl ?_
   obtain ⟨v7, e7, h10⟩ := bindS h9
   refine rl.op (x_rem rfl rfl e7) ?_
   refine rl.run 1 rfl (rl.done (RW.ret ?_))
   cases h10
   exact RRetS.mk rfl .int (Gh.renN [0] (.cells rfl rfl (.keep (.pv ekB.rlst) (.keep .int (.keep .int .nil))) .nil) rfl rfl rfl .nil)
 ·have h11 := iteBT hF hb
  refine rl.done (RW.cond_t rfl (RW.sreg (rl.run 1 rfl (rl.done (RW.ret ?_)))))
  cases h11
  exact RRetS.mk rfl .int (Gh.renN [0] (.cells rfl rfl (.keep (.pv ekB.rlst) (.keep .int (.keep .int .nil))) .nil) rfl rfl rfl .nil)
theorem law_spec_DrawPlaces {x0 : List Int} {r : List Int} (hF : F_spec_DrawPlaces x0 = some r) : PCalls Try.prog 20 [L_B x0] (.lst true 1 (fl (encI true) r) r.length) := by
 refine PCalls.of_r k_spec_DrawPlaces rfl ?_
 unfold F_spec_DrawPlaces at hF
 refine RW.sreg (rl.run 1 rfl (rl.done ?_))
 refine RW.pin 0 rfl fun B1 o1 => ?_
 refine RW.sreg (rl.run 1 rfl ?_)
 obtain ⟨v2, e2, h1⟩ := bindS hF
 refine rl.call rfl rfl rfl (CallW.embN (r0 := .ptr 0 0) (H' := [some ⟨[pvB B1 o1 x0, .j v2.mI, .j v2.mH], 0⟩]) [] [] [⟨[pvB B1 o1 x0, .j v2.mI, .j v2.mH], 0⟩] [] [pvB B1 o1 x0] ok_spec_l01New (law_spec_l01New_w e2) .nil (.cons (fac (.inr (.head _)) (fac (.inl .int) (fac (.inl .int) fan))) .nil) (.arg 0 rfl scalB .nil) rfl (.cons (.dat (.pv ekB.rlst)) .nil) (.ptr rfl) rfl ?_)
 refine rl.run 1 rfl (rl.done (RW.sreg (rl.run 1 rfl ?_)))
 obtain ⟨v3, e3, h2⟩ := bindS h1
 refine rl.call rfl rfl rfl (CallW.embN (r0 := .j v3.1) (H' := [some ⟨[pvB B1 o1 x0, .j v3.2.mI, .j v3.2.mH], 0⟩]) [⟨[pvB B1 o1 x0, .j v2.mI, .j v2.mH], 0⟩] [⟨[pvB B1 o1 x0, .j v3.2.mI, .j v3.2.mH], 0⟩] [] [0] [pvB B1 o1 x0] ok_spec_l01Byte (law_spec_l01Byte_w e3) (.cons rfl (fac (.pv ekB.rlst) (fac .int (fac .int fan))) (fac (.inr (.head _)) (fac (.inl .int) (fac (.inl .int) fan))) .nil) .nil (.blk 0 0 0 0 0 rfl rfl rfl rfl scalB .nil) rfl (.cons (.ptr rfl) .nil) .int rfl ?_)
 refine rl.done (RW.sreg (rl.run 2 rfl (rl.done (RW.seq (RW.sreg (rl.run 1 rfl (rl.done ?_)))))))
 refine RW.gh (Gh.nil_t 4 1 rfl) ?_
 obtain ⟨y8, ey8, h4⟩ := bindS h2
 refine RW.cutq (σ := (List Int)) (fun y5 => [(4, .sl 0 0 y5.length)]) (fun y5 => [some ⟨fl (encI true) y5, 1⟩]) (fun y => y8 = y) (fun _ _ _ _ g h => RW.gh g h) ?_ ?_
 ·refine RW.blk ?_
  refine RW.iter (σ := Int × Int × Int × (List Int)) ey8 (fun s4 => [(3, .ptr 0 0), (4, .sl 1 0 s4.2.2.2.length), (5, .j s4.1)]) (fun s4 => [some ⟨[pvB B1 o1 x0, .j s4.2.1, .j s4.2.2.1], 0⟩, some ⟨fl (encI true) s4.2.2.2, 1⟩]) (Gh.ren0 [0, 1] (.cells rfl rfl (.keep (.pv ekB.rlst) (.keep .int (.keep .int .nil))) (.same rfl (ekI.fref _ _) .nil)) rfl (.cons rfl (.ptr rfl) (.cons rfl (.slq rfl rfl) (.cons rfl (.dat .int) .nil)))) (fun s4 B o hS3 hB3 hE3 => ?_)
  unfold S_spec_DrawPlaces_1 at hS3
  refine RW.seq (RW.sreg (rl.run 1 rfl ?_))
  refine rl.gen rfl rfl fun b hb => ?_
  cases b
  ·have h5 := iteBF hS3 hb
   refine rl.done (RW.cond_f rfl (RW.exit (blkA_eq ?_)))
   cases h5
   exact ⟨_, (hE3 _ rfl).symm, (Gh.ren0 [1] (.same rfl (ekI.fref _ _) .nil) rfl (.cons rfl (.slq rfl rfl) .nil))⟩
  ·have h6 := iteBT hS3 hb
   refine rl.done (RW.cond_t rfl (RW.skip (RW.seq (RW.blk (RW.reg (rl.run 2 rfl ?_))))))
   obtain ⟨v6, e6, h7⟩ := bindS h6
   refine rl.call rfl rfl rfl (CallW.embN (r0 := .j v6.1) (H' := [some ⟨[pvB B1 o1 x0, .j v6.2.mI, .j v6.2.mH], 0⟩, some ⟨fl (encI true) s4.2.2.2, 1⟩]) [⟨[pvB B1 o1 x0, .j s4.2.1, .j s4.2.2.1], 0⟩] [⟨[pvB B1 o1 x0, .j v6.2.mI, .j v6.2.mH], 0⟩] [] [0] [pvB B1 o1 x0] ok_spec_l01Below (law_spec_l01Below_w e6) (.cons rfl (fac (.pv ekB.rlst) (fac .int (fac .int fan))) (fac (.inr (.head _)) (fac (.inl .int) (fac (.inl .int) fan))) .nil) .nil (.blk 0 0 0 0 0 rfl rfl rfl rfl scalB .nil) rfl (.cons (.ptr rfl) (.cons (.dat .int) .nil)) .int rfl ?_)
   refine rl.run 1 rfl ?_
   obtain ⟨v7, e7, h8⟩ := bindS h7
   refine rl.op (x_app rfl rfl (rapp_sl (l := s4.2.2.2) (m := [v6.1]) (o := true) ekI rfl rfl (acont_slq (m := [v6.1]) (o := true) fkI rfl rfl) rfl (fkI.fst _ _) e7)) ?_
   refine rl.run 1 rfl (rl.done (RW.reg (rl.run 3 rfl (rl.done ?_))))
   cases h8
   exact hB3 _ rfl _ _ (Gh.ren0 [0, 3] (.cells rfl rfl (.keep (.pv ekB.rlst) (.keep .int (.keep .int .nil))) (.same rfl (ekI.fref _ _) .nil)) rfl (.cons rfl (.ptr rfl) (.cons rfl (.slq rfl rfl) (.cons rfl (.dat .int) .nil))))
 ·intro y5 hC
  subst hC
  refine RW.sreg (rl.run 2 rfl (rl.done (RW.ret ?_)))
  cases h4
  exact RRet.mk rfl (OutR.ownq ekI rfl rfl) (by first | decide | simp)
theorem law_spec_l01Once_w {x0 : TL01Cur} {x1 : Int} {B0_ o0_ : Nat} {r : Bool × TL01Cur} (hF : F_spec_l01Once_w x0 x1 = some r) : ACalls Try.prog 0 111 [.ptr 0 0, .j x1] [some ⟨[pvB B0_ o0_ x0.mB, .j x0.mI, .j x0.mH], 0⟩] (.bool r.1) [some ⟨[pvB B0_ o0_ x0.mB, .j r.2.mI, .j r.2.mH], 0⟩] := by
 refine ACalls.of_s k_spec_l01Once rfl ?_
 unfold F_spec_l01Once_w at hF
 refine RW.sreg (rl.run 1 rfl (rl.done (RW.sreg (rl.run 2 rfl ?_))))
 obtain ⟨v1, e1, h1⟩ := bindS hF
 refine rl.call rfl rfl rfl (CallW.embN (r0 := .j v1.1) (H' := [some ⟨[pvB B0_ o0_ x0.mB, .j v1.2.mI, .j v1.2.mH], 0⟩]) [⟨[pvB B0_ o0_ x0.mB, .j x0.mI, .j x0.mH], 0⟩] [⟨[pvB B0_ o0_ x0.mB, .j v1.2.mI, .j v1.2.mH], 0⟩] [] [0] [pvB B0_ o0_ x0.mB] ok_spec_l01Below (law_spec_l01Below_w e1) (.cons rfl (fac (.pv ekB.rlst) (fac .int (fac .int fan))) (fac (.inr (.head _)) (fac (.inl .int) (fac (.inl .int) fan))) .nil) .nil (.blk 0 0 0 0 0 rfl rfl rfl rfl scalB .nil) rfl (.cons (.ptr rfl) (.cons (.dat .int) .nil)) .int rfl ?_)
 refine rl.run 2 rfl (rl.done (RW.ret ?_))
 cases h1
 exact RRetS.mk rfl .bool (Gh.renN [0] (.cells rfl rfl (.keep (.pv ekB.rlst) (.keep .int (.keep .int .nil))) .nil) rfl rfl rfl .nil)
theorem law_spec_l01PickInt_w {x0 : TL01Cur} {x1 : List Int} {B0_ o0_ : Nat} {r : Int × TL01Cur} (hF : F_spec_l01PickInt_w x0 x1 = some r) : ACalls Try.prog 0 125 [.ptr 0 0, .sl 1 0 x1.length] [some ⟨[pvB B0_ o0_ x0.mB, .j x0.mI, .j x0.mH], 0⟩, some ⟨fl (encI true) x1, 1⟩] (.j r.1) [some ⟨[pvB B0_ o0_ x0.mB, .j r.2.mI, .j r.2.mH], 0⟩, some ⟨fl (encI true) x1, 1⟩] := by
 refine ACalls.of_s k_spec_l01PickInt rfl ?_
 unfold F_spec_l01PickInt_w at hF
 refine RW.sreg (rl.run 1 rfl (rl.done (RW.sreg (rl.run 4 rfl ?_))))
 obtain ⟨v1, e1, h1⟩ := bindS hF
 refine rl.call rfl rfl rfl (CallW.embN (r0 := .j v1.1) (H' := [some ⟨[pvB B0_ o0_ x0.mB, .j v1.2.mI, .j v1.2.mH], 0⟩, some ⟨fl (encI true) x1, 1⟩]) [⟨[pvB B0_ o0_ x0.mB, .j x0.mI, .j x0.mH], 0⟩] [⟨[pvB B0_ o0_ x0.mB, .j v1.2.mI, .j v1.2.mH], 0⟩] [] [0] [pvB B0_ o0_ x0.mB] ok_spec_l01Below (law_spec_l01Below_w e1) (.cons rfl (fac (.pv ekB.rlst) (fac .int (fac .int fan))) (fac (.inr (.head _)) (fac (.inl .int) (fac (.inl .int) fan))) .nil) .nil (.blk 0 0 0 0 0 rfl rfl rfl rfl scalB .nil) rfl (.cons (.ptr rfl) (.cons (.dat .int) .nil)) .int rfl ?_)
 obtain ⟨v2, e2, h2⟩ := bindS h1
 refine rl.op (x_ia_sl rfl rfl rfl rfl e2) ?_
 refine rl.op (x_ld_sl (o := true) (off' := 0) ekI rfl rfl e2 rfl rfl rfl) ?_
 refine rl.run 1 rfl (rl.done (RW.ret ?_))
 cases h2
 exact RRetS.mk rfl .int (Gh.renN [0, 1] (.cells rfl rfl (.keep (.pv ekB.rlst) (.keep .int (.keep .int .nil))) (.same rfl (ekI.fref _ _) .nil)) rfl rfl rfl .nil)
theorem law_spec_l01Pick_w {x0 : TL01Cur} {x1 : List (List UInt8)} {B0_ o0_ : Nat} {r : (List UInt8) × TL01Cur} (hF : F_spec_l01Pick_w x0 x1 = some r) : ACalls Try.prog 0 137 [.ptr 0 0, .sl 1 0 x1.length] [some ⟨[pvB B0_ o0_ x0.mB, .j x0.mI, .j x0.mH], 0⟩, some ⟨fl (encS true) x1, 1⟩] (.str r.1) [some ⟨[pvB B0_ o0_ x0.mB, .j r.2.mI, .j r.2.mH], 0⟩, some ⟨fl (encS true) x1, 1⟩] := by
 refine ACalls.of_s k_spec_l01Pick rfl ?_
 unfold F_spec_l01Pick_w at hF
 refine RW.sreg (rl.run 1 rfl (rl.done (RW.sreg (rl.run 4 rfl ?_))))
 obtain ⟨v1, e1, h1⟩ := bindS hF
 refine rl.call rfl rfl rfl (CallW.embN (r0 := .j v1.1) (H' := [some ⟨[pvB B0_ o0_ x0.mB, .j v1.2.mI, .j v1.2.mH], 0⟩, some ⟨fl (encS true) x1, 1⟩]) [⟨[pvB B0_ o0_ x0.mB, .j x0.mI, .j x0.mH], 0⟩] [⟨[pvB B0_ o0_ x0.mB, .j v1.2.mI, .j v1.2.mH], 0⟩] [] [0] [pvB B0_ o0_ x0.mB] ok_spec_l01Below (law_spec_l01Below_w e1) (.cons rfl (fac (.pv ekB.rlst) (fac .int (fac .int fan))) (fac (.inr (.head _)) (fac (.inl .int) (fac (.inl .int) fan))) .nil) .nil (.blk 0 0 0 0 0 rfl rfl rfl rfl scalB .nil) rfl (.cons (.ptr rfl) (.cons (.dat .int) .nil)) .int rfl ?_)
 obtain ⟨v2, e2, h2⟩ := bindS h1
 refine rl.op (x_ia_sl rfl rfl rfl rfl e2) ?_
 refine rl.op (x_ld_sl (o := true) (off' := 0) ekS rfl rfl e2 rfl rfl rfl) ?_
 refine rl.run 1 rfl (rl.done (RW.ret ?_))
 cases h2
 exact RRetS.mk rfl .str (Gh.renN [0, 1] (.cells rfl rfl (.keep (.pv ekB.rlst) (.keep .int (.keep .int .nil))) (.same rfl (ekS.fref _ _) .nil)) rfl rfl rfl .nil)
theorem law_spec_l06Text_w {x0 : TL01Cur} {B0_ o0_ : Nat} {r : (List UInt8) × TL01Cur} (hF : F_spec_l06Text_w x0 = some r) : ACalls Try.prog 0 138 [.ptr 0 0] [some ⟨[pvB B0_ o0_ x0.mB, .j x0.mI, .j x0.mH], 0⟩] (.str r.1) [some ⟨[pvB B0_ o0_ x0.mB, .j r.2.mI, .j r.2.mH], 0⟩] := by
 refine ACalls.of_s k_spec_l06Text rfl ?_
 unfold F_spec_l06Text_w at hF
 refine RW.sreg (rl.run 1 rfl (rl.done (RW.sreg (rl.run 2 rfl ?_))))
 obtain ⟨v1, e1, h1⟩ := bindS hF
 refine rl.call rfl rfl rfl (CallW.embN (r0 := .str v1.1) (H' := [some ⟨[pvB B0_ o0_ x0.mB, .j v1.2.mI, .j v1.2.mH], 0⟩, some ⟨fl (encS true) [[104, 101, 108, 108, 111], [102, 114, 111, 109, 58, 32, 97, 110, 110, 10, 10, 104, 105], [115, 117, 98, 106, 101, 99, 116, 58, 32, 120, 10, 10, 98, 111, 100, 121, 32, 111, 102, 32, 105, 116, 10, 46, 100, 111, 116, 10], [], [120, 10, 46, 46, 10]], 1⟩]) [⟨[pvB B0_ o0_ x0.mB, .j x0.mI, .j x0.mH], 0⟩, ⟨fl (encS true) [[104, 101, 108, 108, 111], [102, 114, 111, 109, 58, 32, 97, 110, 110, 10, 10, 104, 105], [115, 117, 98, 106, 101, 99, 116, 58, 32, 120, 10, 10, 98, 111, 100, 121, 32, 111, 102, 32, 105, 116, 10, 46, 100, 111, 116, 10], [], [120, 10, 46, 46, 10]], 1⟩] [⟨[pvB B0_ o0_ x0.mB, .j v1.2.mI, .j v1.2.mH], 0⟩, ⟨fl (encS true) [[104, 101, 108, 108, 111], [102, 114, 111, 109, 58, 32, 97, 110, 110, 10, 10, 104, 105], [115, 117, 98, 106, 101, 99, 116, 58, 32, 120, 10, 10, 98, 111, 100, 121, 32, 111, 102, 32, 105, 116, 10, 46, 100, 111, 116, 10], [], [120, 10, 46, 46, 10]], 1⟩] [] [0, 1] [pvB B0_ o0_ x0.mB] ok_spec_l01Pick (law_spec_l01Pick_w e1) (.cons rfl (fac (.pv ekB.rlst) (fac .int (fac .int fan))) (fac (.inr (.head _)) (fac (.inl .int) (fac (.inl .int) fan))) (.own rfl (ekS.fref _ _) (ekS.fown _) .nil)) .nil (.blk 0 0 0 0 0 rfl rfl rfl rfl scalB .nil) rfl (.cons (.ptr rfl) (.cons (.slq rfl rfl) .nil)) .str rfl ?_)
 refine rl.run 1 rfl (rl.done (RW.ret ?_))
 cases h1
 exact RRetS.mk rfl .str (Gh.renN [0] (.cells rfl rfl (.keep (.pv ekB.rlst) (.keep .int (.keep .int .nil))) .nil) rfl rfl rfl .nil)
set_option maxHeartbeats 2000000 in
theorem law_spec_l06Rec_w {x0 : TL01Cur} {B0_ o0_ : Nat} {r : TRec × TL01Cur} (hF : F_spec_l06Rec_w x0 = some r) : ACalls Try.prog 0 95 [.ptr 0 0] [some ⟨[pvB B0_ o0_ x0.mB, .j x0.mI, .j x0.mH], 0⟩] (.agg (enc_TRec true r.1)) [some ⟨[pvB B0_ o0_ x0.mB, .j r.2.mI, .j r.2.mH], 0⟩] := by
 refine ACalls.of_s k_spec_l06Rec rfl ?_
 unfold F_spec_l06Rec_w at hF
 refine RW.sreg (rl.run 1 rfl (rl.done (RW.sreg (rl.run 2 rfl ?_))))
 obtain ⟨v1, e1, h1⟩ := bindS hF
 refine rl.call rfl rfl rfl (CallW.embN (r0 := .j v1.1) (H' := [some ⟨[pvB B0_ o0_ x0.mB, .j v1.2.mI, .j v1.2.mH], 0⟩, some ⟨[.j 0, .j 0, .j 0, .j 0, .j 0, .str [], .str [], .str []], 0⟩, some ⟨fl (encI true) ([1, 1, 2, 3, 3, 3, 3, 4, 4, 5, 5] : List Int), 1⟩]) [⟨[pvB B0_ o0_ x0.mB, .j x0.mI, .j x0.mH], 0⟩, ⟨fl (encI true) ([1, 1, 2, 3, 3, 3, 3, 4, 4, 5, 5] : List Int), 1⟩] [⟨[pvB B0_ o0_ x0.mB, .j v1.2.mI, .j v1.2.mH], 0⟩, ⟨fl (encI true) ([1, 1, 2, 3, 3, 3, 3, 4, 4, 5, 5] : List Int), 1⟩] [] [0, 2] [pvB B0_ o0_ x0.mB] ok_spec_l01PickInt (law_spec_l01PickInt_w e1) (.cons rfl (fac (.pv ekB.rlst) (fac .int (fac .int fan))) (fac (.inr (.head _)) (fac (.inl .int) (fac (.inl .int) fan))) (.own rfl (ekI.fref _ _) (ekI.fown _) .nil)) .nil (.blk 0 0 0 0 0 rfl rfl rfl rfl scalB .nil) rfl (.cons (.ptr rfl) (.cons (.slq rfl rfl) .nil)) .int rfl ?_)
 refine rl.run 1 rfl ?_
 obtain ⟨v2, e2, h2⟩ := bindS h1
 refine rl.call rfl rfl rfl (CallW.embN (r0 := .j v2.1) (H' := [some ⟨[pvB B0_ o0_ x0.mB, .j v2.2.mI, .j v2.2.mH], 0⟩, some ⟨[.j 0, .j 0, .j 0, .j 0, .j 0, .str [], .str [], .str []], 0⟩, some ⟨fl (encI true) ([1, 1, 2, 3, 3, 3, 3, 4, 4, 5, 5] : List Int), 1⟩]) [⟨[pvB B0_ o0_ x0.mB, .j v1.2.mI, .j v1.2.mH], 0⟩] [⟨[pvB B0_ o0_ x0.mB, .j v2.2.mI, .j v2.2.mH], 0⟩] [] [0] [pvB B0_ o0_ x0.mB] ok_spec_l01Below (law_spec_l01Below_w e2) (.cons rfl (fac (.pv ekB.rlst) (fac .int (fac .int fan))) (fac (.inr (.head _)) (fac (.inl .int) (fac (.inl .int) fan))) .nil) .nil (.blk 0 0 0 0 0 rfl rfl rfl rfl scalB .nil) rfl (.cons (.ptr rfl) (.cons (.dat .int) .nil)) .int rfl ?_)
 refine rl.run 4 rfl (rl.done (RW.seq (RW.sreg (rl.run 2 rfl (rl.done (RW.blk (RW.sreg ?_)))))))
 refine rl.gen rfl rfl fun b hb => ?_
 cases b
 ·have h3 := iteBF h2 hb
  refine rl.run 1 rfl (rl.done (RW.cond_f rfl (RW.sreg ?_)))
  refine rl.gen rfl rfl fun b hb => ?_
  cases b
  ·have h4 := iteBF h3 hb
   refine rl.run 1 rfl (rl.done ?_)
   refine RW.kp [0, 2, 3, 12, 27] [(0, .ptr 0 0), (2, .ptr 1 0), (3, .ptr 3 0), (12, .j v1.1), (27, .bool false)] [some ⟨[pvB B0_ o0_ x0.mB, .j v2.2.mI, .j v2.2.mH], 0⟩, some ⟨[.j 0, .j 0, .j 0, .j 0, .j 0, .str [], .str [], .str []], 0⟩, some ⟨fl (encI true) ([1, 1, 2, 3, 3, 3, 3, 4, 4, 5, 5] : List Int), 1⟩, some ⟨[.j v1.1, .j (w64 (1 + v2.1)), .j 0, .j 0, .j 0, .str [], .str [], .str []], 0⟩] rfl rfl ?_
   refine RW.cond_f rfl (RW.sreg ?_)
   refine rl.gen rfl rfl fun b hb => ?_
   cases b
   ·have h5 := iteBF h4 hb
    refine rl.run 1 rfl (rl.done (RW.cond_f rfl (RW.sreg ?_)))
    refine rl.gen rfl rfl fun b hb => ?_
    cases b
    ·have h6 := iteBF h5 hb
     refine rl.run 1 rfl (rl.done (RW.cond_f rfl (RW.skip (RW.sreg (rl.run 2 rfl (rl.done (RW.ret ?_)))))))
     cases h6
     exact RRetS.mk rfl (.agg (sc_TRec _ _)) (Gh.renN [0] (.cells rfl rfl (.keep (.pv ekB.rlst) (.keep .int (.keep .int .nil))) .nil) rfl rfl rfl .nil)
    ·have h7 := iteBT h5 hb
     refine rl.run 1 rfl (rl.done (RW.cond_t rfl (RW.reg (rl.run 1 rfl ?_))))
     obtain ⟨v3, e3, h8⟩ := bindS h7
     refine rl.call rfl rfl rfl (CallW.embN (r0 := .j v3.1) (H' := [some ⟨[pvB B0_ o0_ x0.mB, .j v3.2.mI, .j v3.2.mH], 0⟩, some ⟨[.j 0, .j 0, .j 0, .j 0, .j 0, .str [], .str [], .str []], 0⟩, some ⟨fl (encI true) ([1, 1, 2, 3, 3, 3, 3, 4, 4, 5, 5] : List Int), 1⟩, some ⟨[.j v1.1, .j (w64 (1 + v2.1)), .j 0, .j 0, .j 0, .str [], .str [], .str []], 0⟩]) [⟨[pvB B0_ o0_ x0.mB, .j v2.2.mI, .j v2.2.mH], 0⟩] [⟨[pvB B0_ o0_ x0.mB, .j v3.2.mI, .j v3.2.mH], 0⟩] [] [0] [pvB B0_ o0_ x0.mB] ok_spec_l01Below (law_spec_l01Below_w e3) (.cons rfl (fac (.pv ekB.rlst) (fac .int (fac .int fan))) (fac (.inr (.head _)) (fac (.inl .int) (fac (.inl .int) fan))) .nil) .nil (.blk 0 0 0 0 0 rfl rfl rfl rfl scalB .nil) rfl (.cons (.ptr rfl) (.cons (.dat .int) .nil)) .int rfl ?_)
     refine rl.run 3 rfl (rl.done (RW.sreg (rl.run 2 rfl (rl.done ?_))))
     refine RW.kp [2] [(2, .ptr 1 0)] [some ⟨[pvB B0_ o0_ x0.mB, .j v3.2.mI, .j v3.2.mH], 0⟩, some ⟨[.j v1.1, .j (w64 (1 + v2.1)), .j (w64 (1 + v3.1)), .j 0, .j 0, .str [], .str [], .str []], 0⟩, some ⟨fl (encI true) ([1, 1, 2, 3, 3, 3, 3, 4, 4, 5, 5] : List Int), 1⟩, some ⟨[.j v1.1, .j (w64 (1 + v2.1)), .j (w64 (1 + v3.1)), .j 0, .j 0, .str [], .str [], .str []], 0⟩] rfl rfl ?_
     refine RW.ret ?_
     cases h8
     exact RRetS.mk rfl (.agg (sc_TRec _ _)) (Gh.renN [0] (.cells rfl rfl (.keep (.pv ekB.rlst) (.keep .int (.keep .int .nil))) .nil) rfl rfl rfl .nil)
   ·have h9 := iteBT h4 hb
    refine rl.run 1 rfl (rl.done (RW.cond_t rfl (RW.sreg (rl.run 1 rfl ?_))))
    obtain ⟨v4, e4, h10⟩ := bindS h9
    refine rl.call rfl rfl rfl (CallW.embN (r0 := .j v4.1) (H' := [some ⟨[pvB B0_ o0_ x0.mB, .j v4.2.mI, .j v4.2.mH], 0⟩, some ⟨[.j 0, .j 0, .j 0, .j 0, .j 0, .str [], .str [], .str []], 0⟩, some ⟨fl (encI true) ([1, 1, 2, 3, 3, 3, 3, 4, 4, 5, 5] : List Int), 1⟩, some ⟨[.j v1.1, .j (w64 (1 + v2.1)), .j 0, .j 0, .j 0, .str [], .str [], .str []], 0⟩]) [⟨[pvB B0_ o0_ x0.mB, .j v2.2.mI, .j v2.2.mH], 0⟩] [⟨[pvB B0_ o0_ x0.mB, .j v4.2.mI, .j v4.2.mH], 0⟩] [] [0] [pvB B0_ o0_ x0.mB] ok_spec_l01Below (law_spec_l01Below_w e4) (.cons rfl (fac (.pv ekB.rlst) (fac .int (fac .int fan))) (fac (.inr (.head _)) (fac (.inl .int) (fac (.inl .int) fan))) .nil) .nil (.blk 0 0 0 0 0 rfl rfl rfl rfl scalB .nil) rfl (.cons (.ptr rfl) (.cons (.dat .int) .nil)) .int rfl ?_)
    refine rl.run 3 rfl (rl.done (RW.reg (rl.run 1 rfl ?_)))
    obtain ⟨v5, e5, h11⟩ := bindS h10
    refine rl.call rfl rfl rfl (CallW.embN (r0 := .j v5.1) (H' := [some ⟨[pvB B0_ o0_ x0.mB, .j v5.2.mI, .j v5.2.mH], 0⟩, some ⟨[.j 0, .j 0, .j 0, .j 0, .j 0, .str [], .str [], .str []], 0⟩, some ⟨fl (encI true) ([1, 1, 2, 3, 3, 3, 3, 4, 4, 5, 5] : List Int), 1⟩, some ⟨[.j v1.1, .j (w64 (1 + v2.1)), .j (w64 (1 + v4.1)), .j 0, .j 0, .str [], .str [], .str []], 0⟩]) [⟨[pvB B0_ o0_ x0.mB, .j v4.2.mI, .j v4.2.mH], 0⟩] [⟨[pvB B0_ o0_ x0.mB, .j v5.2.mI, .j v5.2.mH], 0⟩] [] [0] [pvB B0_ o0_ x0.mB] ok_spec_l01Below (law_spec_l01Below_w e5) (.cons rfl (fac (.pv ekB.rlst) (fac .int (fac .int fan))) (fac (.inr (.head _)) (fac (.inl .int) (fac (.inl .int) fan))) .nil) .nil (.blk 0 0 0 0 0 rfl rfl rfl rfl scalB .nil) rfl (.cons (.ptr rfl) (.cons (.dat .int) .nil)) .int rfl ?_)
    refine rl.run 2 rfl (rl.done (RW.sreg (rl.run 2 rfl (rl.done ?_))))
    refine RW.kp [2] [(2, .ptr 1 0)] [some ⟨[pvB B0_ o0_ x0.mB, .j v5.2.mI, .j v5.2.mH], 0⟩, some ⟨[.j v1.1, .j (w64 (1 + v2.1)), .j (w64 (1 + v4.1)), .j 0, .j v5.1, .str [], .str [], .str []], 0⟩, some ⟨fl (encI true) ([1, 1, 2, 3, 3, 3, 3, 4, 4, 5, 5] : List Int), 1⟩, some ⟨[.j v1.1, .j (w64 (1 + v2.1)), .j (w64 (1 + v4.1)), .j 0, .j v5.1, .str [], .str [], .str []], 0⟩] rfl rfl ?_
    refine RW.ret ?_
    cases h11
    exact RRetS.mk rfl (.agg (sc_TRec _ _)) (Gh.renN [0] (.cells rfl rfl (.keep (.pv ekB.rlst) (.keep .int (.keep .int .nil))) .nil) rfl rfl rfl .nil)
  ·have h12 := iteBT h3 hb
   refine rl.run 1 rfl (rl.done ?_)
   refine RW.kp [0, 2, 3, 12, 27] [(0, .ptr 0 0), (2, .ptr 1 0), (3, .ptr 3 0), (12, .j v1.1), (27, .bool true)] [some ⟨[pvB B0_ o0_ x0.mB, .j v2.2.mI, .j v2.2.mH], 0⟩, some ⟨[.j 0, .j 0, .j 0, .j 0, .j 0, .str [], .str [], .str []], 0⟩, some ⟨fl (encI true) ([1, 1, 2, 3, 3, 3, 3, 4, 4, 5, 5] : List Int), 1⟩, some ⟨[.j v1.1, .j (w64 (1 + v2.1)), .j 0, .j 0, .j 0, .str [], .str [], .str []], 0⟩] rfl rfl ?_
   refine RW.cond_t rfl (RW.sreg (rl.run 1 rfl ?_))
   obtain ⟨v6, e6, h13⟩ := bindS h12
   refine rl.call rfl rfl rfl (CallW.embN (r0 := .j v6.1) (H' := [some ⟨[pvB B0_ o0_ x0.mB, .j v6.2.mI, .j v6.2.mH], 0⟩, some ⟨[.j 0, .j 0, .j 0, .j 0, .j 0, .str [], .str [], .str []], 0⟩, some ⟨fl (encI true) ([1, 1, 2, 3, 3, 3, 3, 4, 4, 5, 5] : List Int), 1⟩, some ⟨[.j v1.1, .j (w64 (1 + v2.1)), .j 0, .j 0, .j 0, .str [], .str [], .str []], 0⟩]) [⟨[pvB B0_ o0_ x0.mB, .j v2.2.mI, .j v2.2.mH], 0⟩] [⟨[pvB B0_ o0_ x0.mB, .j v6.2.mI, .j v6.2.mH], 0⟩] [] [0] [pvB B0_ o0_ x0.mB] ok_spec_l01Below (law_spec_l01Below_w e6) (.cons rfl (fac (.pv ekB.rlst) (fac .int (fac .int fan))) (fac (.inr (.head _)) (fac (.inl .int) (fac (.inl .int) fan))) .nil) .nil (.blk 0 0 0 0 0 rfl rfl rfl rfl scalB .nil) rfl (.cons (.ptr rfl) (.cons (.dat .int) .nil)) .int rfl ?_)
   refine rl.run 3 rfl (rl.done (RW.sreg (rl.run 1 rfl ?_)))
   obtain ⟨v7, e7, h14⟩ := bindS h13
   refine rl.call rfl rfl rfl (CallW.embN (r0 := .j v7.1) (H' := [some ⟨[pvB B0_ o0_ x0.mB, .j v7.2.mI, .j v7.2.mH], 0⟩, some ⟨[.j 0, .j 0, .j 0, .j 0, .j 0, .str [], .str [], .str []], 0⟩, some ⟨fl (encI true) ([1, 1, 2, 3, 3, 3, 3, 4, 4, 5, 5] : List Int), 1⟩, some ⟨[.j v1.1, .j (w64 (1 + v2.1)), .j (w64 (1 + v6.1)), .j 0, .j 0, .str [], .str [], .str []], 0⟩]) [⟨[pvB B0_ o0_ x0.mB, .j v6.2.mI, .j v6.2.mH], 0⟩] [⟨[pvB B0_ o0_ x0.mB, .j v7.2.mI, .j v7.2.mH], 0⟩] [] [0] [pvB B0_ o0_ x0.mB] ok_spec_l01Below (law_spec_l01Below_w e7) (.cons rfl (fac (.pv ekB.rlst) (fac .int (fac .int fan))) (fac (.inr (.head _)) (fac (.inl .int) (fac (.inl .int) fan))) .nil) .nil (.blk 0 0 0 0 0 rfl rfl rfl rfl scalB .nil) rfl (.cons (.ptr rfl) (.cons (.dat .int) .nil)) .int rfl ?_)
   refine rl.run 2 rfl (rl.done (RW.reg (rl.run 1 rfl ?_)))
   obtain ⟨v8, e8, h15⟩ := bindS h14
   refine rl.call rfl rfl rfl (CallW.embN (r0 := .str v8.1) (H' := [some ⟨[pvB B0_ o0_ x0.mB, .j v8.2.mI, .j v8.2.mH], 0⟩, some ⟨[.j 0, .j 0, .j 0, .j 0, .j 0, .str [], .str [], .str []], 0⟩, some ⟨fl (encI true) ([1, 1, 2, 3, 3, 3, 3, 4, 4, 5, 5] : List Int), 1⟩, some ⟨[.j v1.1, .j (w64 (1 + v2.1)), .j (w64 (1 + v6.1)), .j 0, .j v7.1, .str [], .str [], .str []], 0⟩]) [⟨[pvB B0_ o0_ x0.mB, .j v7.2.mI, .j v7.2.mH], 0⟩] [⟨[pvB B0_ o0_ x0.mB, .j v8.2.mI, .j v8.2.mH], 0⟩] [] [0] [pvB B0_ o0_ x0.mB] ok_spec_l06Text (law_spec_l06Text_w e8) (.cons rfl (fac (.pv ekB.rlst) (fac .int (fac .int fan))) (fac (.inr (.head _)) (fac (.inl .int) (fac (.inl .int) fan))) .nil) .nil (.blk 0 0 0 0 0 rfl rfl rfl rfl scalB .nil) rfl (.cons (.ptr rfl) .nil) .str rfl ?_)
   refine rl.run 2 rfl (rl.done (RW.sreg (rl.run 2 rfl (rl.done ?_))))
   refine RW.kp [2] [(2, .ptr 1 0)] [some ⟨[pvB B0_ o0_ x0.mB, .j v8.2.mI, .j v8.2.mH], 0⟩, some ⟨[.j v1.1, .j (w64 (1 + v2.1)), .j (w64 (1 + v6.1)), .j 0, .j v7.1, .str [], .str [], .str v8.1], 0⟩, some ⟨fl (encI true) ([1, 1, 2, 3, 3, 3, 3, 4, 4, 5, 5] : List Int), 1⟩, some ⟨[.j v1.1, .j (w64 (1 + v2.1)), .j (w64 (1 + v6.1)), .j 0, .j v7.1, .str [], .str [], .str v8.1], 0⟩] rfl rfl ?_
   refine RW.ret ?_
   cases h15
   exact RRetS.mk rfl (.agg (sc_TRec _ _)) (Gh.renN [0] (.cells rfl rfl (.keep (.pv ekB.rlst) (.keep .int (.keep .int .nil))) .nil) rfl rfl rfl .nil)
 ·have h16 := iteBT h2 hb
  refine rl.run 1 rfl (rl.done (RW.cond_t rfl (RW.sreg (rl.run 2 rfl ?_))))
  obtain ⟨v9, e9, h17⟩ := bindS h16
  refine rl.call rfl rfl rfl (CallW.embN (r0 := .str v9.1) (H' := [some ⟨[pvB B0_ o0_ x0.mB, .j v9.2.mI, .j v9.2.mH], 0⟩, some ⟨[.j 0, .j 0, .j 0, .j 0, .j 0, .str [], .str [], .str []], 0⟩, some ⟨fl (encI true) ([1, 1, 2, 3, 3, 3, 3, 4, 4, 5, 5] : List Int), 1⟩, some ⟨[.j v1.1, .j (w64 (1 + v2.1)), .j 0, .j 0, .j 0, .str [], .str [], .str []], 0⟩, some ⟨fl (encS true) [[97, 110, 110], [98, 111, 98]], 1⟩]) [⟨[pvB B0_ o0_ x0.mB, .j v2.2.mI, .j v2.2.mH], 0⟩, ⟨fl (encS true) [[97, 110, 110], [98, 111, 98]], 1⟩] [⟨[pvB B0_ o0_ x0.mB, .j v9.2.mI, .j v9.2.mH], 0⟩, ⟨fl (encS true) [[97, 110, 110], [98, 111, 98]], 1⟩] [] [0, 4] [pvB B0_ o0_ x0.mB] ok_spec_l01Pick (law_spec_l01Pick_w e9) (.cons rfl (fac (.pv ekB.rlst) (fac .int (fac .int fan))) (fac (.inr (.head _)) (fac (.inl .int) (fac (.inl .int) fan))) (.own rfl (ekS.fref _ _) (ekS.fown _) .nil)) .nil (.blk 0 0 0 0 0 rfl rfl rfl rfl scalB .nil) rfl (.cons (.ptr rfl) (.cons (.slq rfl rfl) .nil)) .str rfl ?_)
  refine rl.run 2 rfl (rl.done ?_)
  refine RW.kp [0, 2, 3] [(0, .ptr 0 0), (2, .ptr 1 0), (3, .ptr 3 0)] [some ⟨[pvB B0_ o0_ x0.mB, .j v9.2.mI, .j v9.2.mH], 0⟩, some ⟨[.j 0, .j 0, .j 0, .j 0, .j 0, .str [], .str [], .str []], 0⟩, some ⟨fl (encI true) ([1, 1, 2, 3, 3, 3, 3, 4, 4, 5, 5] : List Int), 1⟩, some ⟨[.j v1.1, .j (w64 (1 + v2.1)), .j 0, .j 0, .j 0, .str v9.1, .str [], .str []], 0⟩, some ⟨fl (encS true) [[97, 110, 110], [98, 111, 98]], 1⟩] rfl rfl ?_
  refine RW.sreg (rl.run 2 rfl ?_)
  obtain ⟨v10, e10, h18⟩ := bindS h17
  refine rl.call rfl rfl rfl (CallW.embN (r0 := .str v10.1) (H' := [some ⟨[pvB B0_ o0_ x0.mB, .j v10.2.mI, .j v10.2.mH], 0⟩, some ⟨[.j 0, .j 0, .j 0, .j 0, .j 0, .str [], .str [], .str []], 0⟩, some ⟨fl (encI true) ([1, 1, 2, 3, 3, 3, 3, 4, 4, 5, 5] : List Int), 1⟩, some ⟨[.j v1.1, .j (w64 (1 + v2.1)), .j 0, .j 0, .j 0, .str v9.1, .str [], .str []], 0⟩, some ⟨fl (encS true) [[97, 110, 110], [98, 111, 98]], 1⟩, some ⟨fl (encS true) [[105, 110, 98, 111, 120], [119, 111, 114, 107]], 1⟩]) [⟨[pvB B0_ o0_ x0.mB, .j v9.2.mI, .j v9.2.mH], 0⟩, ⟨fl (encS true) [[105, 110, 98, 111, 120], [119, 111, 114, 107]], 1⟩] [⟨[pvB B0_ o0_ x0.mB, .j v10.2.mI, .j v10.2.mH], 0⟩, ⟨fl (encS true) [[105, 110, 98, 111, 120], [119, 111, 114, 107]], 1⟩] [] [0, 5] [pvB B0_ o0_ x0.mB] ok_spec_l01Pick (law_spec_l01Pick_w e10) (.cons rfl (fac (.pv ekB.rlst) (fac .int (fac .int fan))) (fac (.inr (.head _)) (fac (.inl .int) (fac (.inl .int) fan))) (.own rfl (ekS.fref _ _) (ekS.fown _) .nil)) .nil (.blk 0 0 0 0 0 rfl rfl rfl rfl scalB .nil) rfl (.cons (.ptr rfl) (.cons (.slq rfl rfl) .nil)) .str rfl ?_)
  refine rl.run 2 rfl (rl.done (RW.reg (rl.run 1 rfl ?_)))
  obtain ⟨v11, e11, h19⟩ := bindS h18
  refine rl.call rfl rfl rfl (CallW.embN (r0 := .j v11.1) (H' := [some ⟨[pvB B0_ o0_ x0.mB, .j v11.2.mI, .j v11.2.mH], 0⟩, some ⟨[.j 0, .j 0, .j 0, .j 0, .j 0, .str [], .str [], .str []], 0⟩, some ⟨fl (encI true) ([1, 1, 2, 3, 3, 3, 3, 4, 4, 5, 5] : List Int), 1⟩, some ⟨[.j v1.1, .j (w64 (1 + v2.1)), .j 0, .j 0, .j 0, .str v9.1, .str v10.1, .str []], 0⟩, some ⟨fl (encS true) [[97, 110, 110], [98, 111, 98]], 1⟩, some ⟨fl (encS true) [[105, 110, 98, 111, 120], [119, 111, 114, 107]], 1⟩]) [⟨[pvB B0_ o0_ x0.mB, .j v10.2.mI, .j v10.2.mH], 0⟩] [⟨[pvB B0_ o0_ x0.mB, .j v11.2.mI, .j v11.2.mH], 0⟩] [] [0] [pvB B0_ o0_ x0.mB] ok_spec_l01Below (law_spec_l01Below_w e11) (.cons rfl (fac (.pv ekB.rlst) (fac .int (fac .int fan))) (fac (.inr (.head _)) (fac (.inl .int) (fac (.inl .int) fan))) .nil) .nil (.blk 0 0 0 0 0 rfl rfl rfl rfl scalB .nil) rfl (.cons (.ptr rfl) (.cons (.dat .int) .nil)) .int rfl ?_)
  refine rl.run 3 rfl (rl.done (RW.sreg (rl.run 2 rfl (rl.done ?_))))
  refine RW.kp [2] [(2, .ptr 1 0)] [some ⟨[pvB B0_ o0_ x0.mB, .j v11.2.mI, .j v11.2.mH], 0⟩, some ⟨[.j v1.1, .j (w64 (1 + v2.1)), .j 0, .j (w64 (1 + v11.1)), .j 0, .str v9.1, .str v10.1, .str []], 0⟩, some ⟨fl (encI true) ([1, 1, 2, 3, 3, 3, 3, 4, 4, 5, 5] : List Int), 1⟩, some ⟨[.j v1.1, .j (w64 (1 + v2.1)), .j 0, .j (w64 (1 + v11.1)), .j 0, .str v9.1, .str v10.1, .str []], 0⟩, some ⟨fl (encS true) [[97, 110, 110], [98, 111, 98]], 1⟩, some ⟨fl (encS true) [[105, 110, 98, 111, 120], [119, 111, 114, 107]], 1⟩] rfl rfl ?_
  refine RW.ret ?_
  cases h19
  exact RRetS.mk rfl (.agg (sc_TRec _ _)) (Gh.renN [0] (.cells rfl rfl (.keep (.pv ekB.rlst) (.keep .int (.keep .int .nil))) .nil) rfl rfl rfl .nil)
theorem law_spec_l07Items_w {x0 : TL01Cur} {B0_ o0_ : Nat} {r : (List TItem) × TL01Cur} (hF : F_spec_l07Items_w x0 = some r) : ACalls Try.prog 0 77 [.ptr 0 0] [some ⟨[pvB B0_ o0_ x0.mB, .j x0.mI, .j x0.mH], 0⟩] (.sl 1 0 r.1.length) [some ⟨[pvB B0_ o0_ x0.mB, .j r.2.mI, .j r.2.mH], 0⟩, some ⟨fl (enc_TItem true) r.1, 9⟩] := by
 refine ACalls.of_m k_spec_l07Items rfl ?_
 unfold F_spec_l07Items_w at hF
 refine RW.sreg (rl.run 1 rfl (rl.done (RW.sreg (rl.run 2 rfl (rl.done (RW.seq (RW.sreg (rl.run 1 rfl (rl.done ?_)))))))))
 refine RW.gh (Gh.nil_t 3 9 rfl) ?_
 obtain ⟨y6, ey6, h2⟩ := bindS hF
 refine RW.cutq (σ := Int × Int × (List TItem)) (fun y2 => [(0, .ptr 0 0), (3, .sl 1 0 y2.2.2.length)]) (fun y2 => [some ⟨[pvB B0_ o0_ x0.mB, .j y2.1, .j y2.2.1], 0⟩, some ⟨fl (enc_TItem true) y2.2.2, 9⟩]) (fun y => y6 = y) (fun _ _ _ _ g h => RW.gh g h) ?_ ?_
 ·refine RW.blk ?_
  refine RW.iter (σ := Int × Int × Int × (List TItem)) ey6 (fun s1 => [(0, .ptr 0 0), (3, .sl 1 0 s1.2.2.2.length), (4, .j s1.1)]) (fun s1 => [some ⟨[pvB B0_ o0_ x0.mB, .j s1.2.1, .j s1.2.2.1], 0⟩, some ⟨fl (enc_TItem true) s1.2.2.2, 9⟩]) (Gh.renN [0, 1] (.cells rfl rfl (.keep (.pv ekB.rlst) (.keep .int (.keep .int .nil))) (.same rfl (ek_TItem.fref _ _) .nil)) rfl rfl rfl (.cons rfl (.ptr rfl) (.cons rfl (.slq rfl rfl) (.cons rfl (.dat .int) .nil)))) (fun s1 B o hS1 hB1 hE1 => ?_)
  unfold S_spec_l07Items_w_1 at hS1
  refine RW.seq (RW.sreg (rl.run 2 rfl ?_))
  obtain ⟨v3, e3, h3⟩ := bindS hS1
  refine rl.call rfl rfl rfl (CallW.embN (r0 := .j v3.1) (H' := [some ⟨[pvB B0_ o0_ x0.mB, .j v3.2.mI, .j v3.2.mH], 0⟩, some ⟨fl (enc_TItem true) s1.2.2.2, 9⟩]) [⟨[pvB B0_ o0_ x0.mB, .j s1.2.1, .j s1.2.2.1], 0⟩] [⟨[pvB B0_ o0_ x0.mB, .j v3.2.mI, .j v3.2.mH], 0⟩] [] [0] [pvB B0_ o0_ x0.mB] ok_spec_l01Below (law_spec_l01Below_w e3) (.cons rfl (fac (.pv ekB.rlst) (fac .int (fac .int fan))) (fac (.inr (.head _)) (fac (.inl .int) (fac (.inl .int) fan))) .nil) .nil (.blk 0 0 0 0 0 rfl rfl rfl rfl scalB .nil) rfl (.cons (.ptr rfl) (.cons (.dat .int) .nil)) .int rfl ?_)
  refine rl.gen rfl rfl fun b hb => ?_
  cases b
  ·have h4 := iteBF h3 hb
   refine rl.done (RW.cond_f rfl (RW.exit (blkA_eq ?_)))
   cases h4
   exact ⟨_, (hE1 _ rfl).symm, (Gh.renN [0, 1] (.cells rfl rfl (.keep (.pv ekB.rlst) (.keep .int (.keep .int .nil))) (.same rfl (ek_TItem.fref _ _) .nil)) rfl rfl rfl (.cons rfl (.ptr rfl) (.cons rfl (.slq rfl rfl) .nil)))⟩
  ·have h5 := iteBT h3 hb
   refine rl.done (RW.cond_t rfl (RW.skip (RW.seq (RW.blk (RW.reg (rl.run 4 rfl ?_))))))
   obtain ⟨v4, e4, h6⟩ := bindS h5
   refine rl.call rfl rfl rfl (CallW.embN (r0 := .agg (enc_TRec false v4.1)) (H' := [some ⟨[pvB B0_ o0_ x0.mB, .j v4.2.mI, .j v4.2.mH], 0⟩, some ⟨fl (enc_TItem true) s1.2.2.2, 9⟩]) [⟨[pvB B0_ o0_ x0.mB, .j v3.2.mI, .j v3.2.mH], 0⟩] [⟨[pvB B0_ o0_ x0.mB, .j v4.2.mI, .j v4.2.mH], 0⟩] [] [0] [pvB B0_ o0_ x0.mB] ok_spec_l06Rec (law_spec_l06Rec_w e4) (.cons rfl (fac (.pv ekB.rlst) (fac .int (fac .int fan))) (fac (.inr (.head _)) (fac (.inl .int) (fac (.inl .int) fan))) .nil) .nil (.blk 0 0 0 0 0 rfl rfl rfl rfl scalB .nil) rfl (.cons (.ptr rfl) .nil) (RtL.agg (.cons .int (.cons .int (.cons .int (.cons .int (.cons .int (.cons .str (.cons .str (.cons .str .nil))))))))) rfl ?_)
   refine rl.run 2 rfl ?_
   obtain ⟨v5, e5, h7⟩ := bindS h6
   refine rl.op (x_app rfl rfl (rapp_sl (l := s1.2.2.2) (m := [({ Seq := w64 (2 + s1.1), Rec := v4.1 } : TItem)]) (o := true) ek_TItem rfl rfl (acont_slq (m := [({ Seq := w64 (2 + s1.1), Rec := v4.1 } : TItem)]) (o := true) fk_TItem rfl rfl) rfl (fk_TItem.fst _ _) e5)) ?_
   refine rl.run 1 rfl (rl.done (RW.reg (rl.run 3 rfl (rl.done ?_))))
   cases h7
   exact hB1 _ rfl _ _ (Gh.renN [0, 3] (.cells rfl rfl (.keep (.pv ekB.rlst) (.keep .int (.keep .int .nil))) (.same rfl (ek_TItem.fref _ _) .nil)) rfl rfl rfl (.cons rfl (.ptr rfl) (.cons rfl (.slq rfl rfl) (.cons rfl (.dat .int) .nil))))
 ·intro y2 hC
  subst hC
  refine RW.seq (RW.seq ?_)
  obtain ⟨y7, ey7, h8⟩ := bindS h2
  refine RW.cutq (σ := Bool × Int × Int) (fun y7 => [(0, .ptr 0 0), (3, .sl 1 0 y6.2.2.length), (26, .bool y7.1)]) (fun y7 => [some ⟨[pvB B0_ o0_ x0.mB, .j y7.2.1, .j y7.2.2], 0⟩, some ⟨fl (enc_TItem true) y6.2.2, 9⟩]) (fun y => y7 = y) (fun _ _ _ _ g h => RW.gh g h) ?_ ?_
  ·refine RW.reg ?_
   refine rl.run 2 rfl ?_
   refine rl.gen rfl rfl fun b hb => ?_
   cases b
   ·have h9 := iteBF ey7 hb
    refine rl.run 4 rfl (rl.done ?_)
    cases h9
    exact ⟨_, rfl, (Gh.renN [0, 1] (.cells rfl rfl (.keep (.pv ekB.rlst) (.keep .int (.keep .int .nil))) (.same rfl (ek_TItem.fref _ _) .nil)) rfl rfl rfl (.cons rfl (.ptr rfl) (.cons rfl (.slq rfl rfl) (.cons rfl (.dat .bool) .nil))))⟩
   ·have h10 := iteBT ey7 hb
    refine rl.run 2 rfl ?_
    obtain ⟨v8, e8, h11⟩ := bindS h10
    refine rl.call rfl rfl rfl (CallW.embN (r0 := .bool v8.1) (H' := [some ⟨[pvB B0_ o0_ x0.mB, .j v8.2.mI, .j v8.2.mH], 0⟩, some ⟨fl (enc_TItem true) y6.2.2, 9⟩]) [⟨[pvB B0_ o0_ x0.mB, .j y6.1, .j y6.2.1], 0⟩] [⟨[pvB B0_ o0_ x0.mB, .j v8.2.mI, .j v8.2.mH], 0⟩] [] [0] [pvB B0_ o0_ x0.mB] ok_spec_l01Once (law_spec_l01Once_w e8) (.cons rfl (fac (.pv ekB.rlst) (fac .int (fac .int fan))) (fac (.inr (.head _)) (fac (.inl .int) (fac (.inl .int) fan))) .nil) .nil (.blk 0 0 0 0 0 rfl rfl rfl rfl scalB .nil) rfl (.cons (.ptr rfl) (.cons (.dat .int) .nil)) .bool rfl ?_)
    cases hb : v8.1
    ·have h12 := iteBF h11 hb
     refine rl.run 1 rfl (rl.done ?_)
     cases h12
     exact ⟨_, rfl, (Gh.renN [0, 1] (.cells rfl rfl (.keep (.pv ekB.rlst) (.keep .int (.keep .int .nil))) (.same rfl (ek_TItem.fref _ _) .nil)) rfl rfl rfl (.cons rfl (.ptr rfl) (.cons rfl (.slq rfl rfl) (.cons rfl (.dat .bool) .nil))))⟩
    ·have h13 := iteBT h11 hb
     refine rl.run 1 rfl (rl.done ?_)
     cases h13
     exact ⟨_, rfl, (Gh.renN [0, 1] (.cells rfl rfl (.keep (.pv ekB.rlst) (.keep .int (.keep .int .nil))) (.same rfl (ek_TItem.fref _ _) .nil)) rfl rfl rfl (.cons rfl (.ptr rfl) (.cons rfl (.slq rfl rfl) (.cons rfl (.dat .bool) .nil))))⟩
  ·intro y hC
   subst hC
   cases hb : y7.1
   ·have h14 := iteBF h8 hb
    refine RW.cond_f rfl (RW.skip (RW.sreg (rl.run 2 rfl (rl.done (RW.ret ?_)))))
    cases h14
    exact RRetM.mk [0, 1] Gh.refl rfl (.cells rfl rfl (.keep (.pv ekB.rlst) (.keep .int (.keep .int .nil))) (.same rfl (ek_TItem.fref _ _) .nil)) rfl rfl rfl (.slq rfl rfl)
   ·have h15 := iteBT h8 hb
    refine RW.cond_t rfl (RW.reg (rl.run 5 rfl ?_))
    obtain ⟨v9, e9, h16⟩ := bindS h15
    refine rl.call rfl rfl rfl (CallW.embN (r0 := .j v9.1) (H' := [some ⟨[pvB B0_ o0_ x0.mB, .j v9.2.mI, .j v9.2.mH], 0⟩, some ⟨fl (enc_TItem true) y6.2.2, 9⟩]) [⟨[pvB B0_ o0_ x0.mB, .j y7.2.1, .j y7.2.2], 0⟩] [⟨[pvB B0_ o0_ x0.mB, .j v9.2.mI, .j v9.2.mH], 0⟩] [] [0] [pvB B0_ o0_ x0.mB] ok_spec_l01Below (law_spec_l01Below_w e9) (.cons rfl (fac (.pv ekB.rlst) (fac .int (fac .int fan))) (fac (.inr (.head _)) (fac (.inl .int) (fac (.inl .int) fan))) .nil) .nil (.blk 0 0 0 0 0 rfl rfl rfl rfl scalB .nil) rfl (.cons (.ptr rfl) (.cons (.dat .int) .nil)) .int rfl ?_)
    obtain ⟨v10, e10, h17⟩ := bindS h16
    refine rl.op (x_ia_sl rfl rfl rfl rfl e10) ?_
    refine rl.op (x_ld_sla (o := true) (off' := 0) (vs := (enc_TItem false v10)) ek_TItem rfl rfl e10 rfl rfl rfl) ?_
    refine rl.run 1 rfl ?_
    obtain ⟨v11, e11, h18⟩ := bindS h17
    refine rl.op (x_app rfl rfl (rapp_sl (l := y6.2.2) (m := [v10]) (o := true) ek_TItem rfl rfl (acont_slq (m := [v10]) (o := true) fk_TItem rfl rfl) rfl (fk_TItem.fst _ _) e11)) ?_
    refine rl.run 1 rfl (rl.done (RW.sreg (rl.run 2 rfl (rl.done ?_))))
    refine RW.kp [2] [(2, .sl 3 0 v11.length)] [some ⟨[pvB B0_ o0_ x0.mB, .j v9.2.mI, .j v9.2.mH], 0⟩, none, some ⟨fl (enc_TItem true) [v10], 9⟩, some ⟨fl (enc_TItem true) v11, 9⟩] rfl rfl ?_
    refine RW.ret ?_
    cases h18
    exact RRetM.mk [0, 3] Gh.refl rfl (.cells rfl rfl (.keep (.pv ekB.rlst) (.keep .int (.keep .int .nil))) (.same rfl (ek_TItem.fref _ _) .nil)) rfl rfl rfl (.slq rfl rfl)
theorem law_spec_DrawItems {x0 : List Int} {r : List TItem} (hF : F_spec_DrawItems x0 = some r) : PCalls Try.prog 26 [L_B x0] (.lst true 9 (fl (enc_TItem true) r) r.length) := by
 refine PCalls.of_r k_spec_DrawItems rfl ?_
 unfold F_spec_DrawItems at hF
 refine RW.sreg (rl.run 1 rfl (rl.done ?_))
 refine RW.pin 0 rfl fun B1 o1 => ?_
 refine RW.sreg (rl.run 1 rfl ?_)
 obtain ⟨v2, e2, h1⟩ := bindS hF
 refine rl.call rfl rfl rfl (CallW.embN (r0 := .ptr 0 0) (H' := [some ⟨[pvB B1 o1 x0, .j v2.mI, .j v2.mH], 0⟩]) [] [] [⟨[pvB B1 o1 x0, .j v2.mI, .j v2.mH], 0⟩] [] [pvB B1 o1 x0] ok_spec_l01New (law_spec_l01New_w e2) .nil (.cons (fac (.inr (.head _)) (fac (.inl .int) (fac (.inl .int) fan))) .nil) (.arg 0 rfl scalB .nil) rfl (.cons (.dat (.pv ekB.rlst)) .nil) (.ptr rfl) rfl ?_)
 obtain ⟨v3, e3, h2⟩ := bindS h1
 refine rl.call rfl rfl rfl (CallW.embN (r0 := .sl 1 0 v3.1.length) (H' := [some ⟨[pvB B1 o1 x0, .j v3.2.mI, .j v3.2.mH], 0⟩, some ⟨fl (enc_TItem true) v3.1, 9⟩]) [⟨[pvB B1 o1 x0, .j v2.mI, .j v2.mH], 0⟩] [⟨[pvB B1 o1 x0, .j v3.2.mI, .j v3.2.mH], 0⟩] [⟨fl (enc_TItem true) v3.1, 9⟩] [0] [pvB B1 o1 x0] ok_spec_l07Items (law_spec_l07Items_w e3) (.cons rfl (fac (.pv ekB.rlst) (fac .int (fac .int fan))) (fac (.inr (.head _)) (fac (.inl .int) (fac (.inl .int) fan))) .nil) (.own (ek_TItem.fown _) .nil) (.blk 0 0 0 0 0 rfl rfl rfl rfl scalB .nil) rfl (.cons (.ptr rfl) .nil) (.sl rfl) rfl ?_)
 refine rl.run 1 rfl (rl.done (RW.ret ?_))
 cases h2
 exact RRet.mk rfl (OutR.ownq ek_TItem rfl rfl) (by first | decide | simp)
theorem law_impl_in {x0 : Int} {x1 : Int} {x2 : Int} {r : Bool} (hF : F_impl_in x0 x1 x2 = some r) : PCalls Try.prog 59 [.j x0, .j x1, .j x2] (.bool r) := by
 refine PCalls.of_r k_impl_in rfl ?_
 unfold F_impl_in at hF
 refine RW.sreg (rl.run 1 rfl (rl.done (RW.sreg (rl.run 2 rfl ?_))))
 refine rl.gen rfl rfl fun b hb => ?_
 cases b
 ·have h1 := iteBF hF hb
  refine rl.run 6 rfl (rl.done ?_)
  refine RW.kp [6] [(6, .bool false)] [] rfl rfl ?_
  refine RW.ret ?_
  cases h1
  exact RRet.mk rfl .bool (by first | decide | simp)
 ·have h2 := iteBT hF hb
  refine rl.run 6 rfl (rl.done ?_)
  refine RW.kp [6] [(6, .bool (decide (x0 ≤ x2)))] [] rfl rfl ?_
  refine RW.ret ?_
  cases h2
  exact RRet.mk rfl .bool (by first | decide | simp)
theorem law_impl_WordOk {x0 : List UInt8} {r : Bool} (hF : F_impl_WordOk x0 = some r) : PCalls Try.prog 148 [.str x0] (.bool r) := by
 refine PCalls.of_r k_impl_WordOk rfl ?_
 unfold F_impl_WordOk at hF
 refine RW.sreg (rl.run 1 rfl (rl.done (RW.seq (RW.sreg (rl.run 2 rfl ?_)))))
 obtain ⟨v1, e1, h1⟩ := bindS hF
 refine rl.call rfl rfl rfl (CallW.val (r' := .bool v1) ok_impl_in (law_impl_in e1) (.cons .int (.cons .int (.cons .int .nil))) .refl ?_)
 cases hb : v1
 ·have h2 := iteBF h1 hb
  refine rl.run 1 rfl (rl.done (RW.cond_t rfl (RW.sreg (rl.run 1 rfl (rl.done (RW.ret ?_))))))
  cases h2
  exact RRet.mk rfl .bool (by first | decide | simp)
 ·have h3 := iteBT h1 hb
  refine rl.run 1 rfl (rl.done (RW.cond_f rfl (RW.skip (RW.seq (RW.sreg (rl.run 3 rfl (rl.done ?_)))))))
  obtain ⟨y7, ey7, h5⟩ := bindS h3
  refine RW.cutq (σ := Unit) (fun y3 => []) (fun y3 => []) (fun y => y7 = .inr y) (fun _ _ _ _ g h => RW.gh g h) ?_ ?_
  ·refine RW.blk ?_
   refine RW.iter (σ := Int) ey7 (fun s2 => [(0, .str x0), (9, .j (x0.length : Int)), (10, .j s2)]) (fun s2 => []) (Gh.ren0 [] .nil rfl (.cons rfl (.dat .str) (.cons rfl (.dat .int) (.cons rfl (.dat .int) .nil)))) (fun s2 B o hS4 hB4 hE4 => ?_)
   unfold S_impl_WordOk_1 at hS4
   refine RW.sreg ?_
   refine rl.gen rfl rfl fun b hb => ?_
   cases b
   ·have h6 := iteBF hS4 hb
    refine rl.done (RW.seq (RW.cond_f rfl (RW.exit (blkA_eq ?_))))
    cases h6
    exact ⟨_, (hE4 _ rfl).symm, (Gh.ren0 [] .nil rfl .nil)⟩
   ·have h7 := iteBT hS4 hb
    refine rl.done (RW.seq (RW.cond_t rfl (RW.skip (RW.seq (RW.blk (RW.sreg (rl.run 2 rfl (rl.done (RW.seq ?_)))))))))
    obtain ⟨y4, ey4, h8⟩ := bindS h7
    refine RW.cutq (σ := Bool) (fun y4 => [(0, .str x0), (9, .j (x0.length : Int)), (10, .j s2), (22, .bool y4)]) (fun y4 => []) (fun y => y4 = y) (fun _ _ _ _ g h => RW.gh g h) ?_ ?_
    ·refine RW.reg ?_
     refine rl.run 2 rfl ?_
     obtain ⟨v5, e5, h9⟩ := bindS ey4
     refine rl.op (x_idx rfl rfl e5) ?_
     refine rl.gen rfl rfl fun b hb => ?_
     cases b
     ·have h10 := iteBF h9 hb
      refine rl.run 3 rfl ?_
      obtain ⟨v6, e6, h11⟩ := bindS h10
      refine rl.gop rfl (x_idx rfl rfl e6) ?_
      refine rl.gen rfl rfl fun b hb => ?_
      cases b
      ·have h12 := iteBF h11 hb
       refine rl.run 1 rfl (rl.done ?_)
       cases h12
       exact ⟨_, rfl, (Gh.ren0 [] .nil rfl (.cons rfl (.dat .str) (.cons rfl (.dat .int) (.cons rfl (.dat .int) (.cons rfl (.dat .bool) .nil)))))⟩
      ·have h13 := iteBT h11 hb
       refine rl.run 1 rfl (rl.done ?_)
       cases h13
       exact ⟨_, rfl, (Gh.ren0 [] .nil rfl (.cons rfl (.dat .str) (.cons rfl (.dat .int) (.cons rfl (.dat .int) (.cons rfl (.dat .bool) .nil)))))⟩
     ·have h14 := iteBT h9 hb
      refine rl.run 6 rfl (rl.done ?_)
      cases h14
      exact ⟨_, rfl, (Gh.ren0 [] .nil rfl (.cons rfl (.dat .str) (.cons rfl (.dat .int) (.cons rfl (.dat .int) (.cons rfl (.dat .bool) .nil)))))⟩
    ·intro y hC
     subst hC
     cases hb : y4
     ·have h15 := iteBF h8 hb
      refine RW.cond_f rfl (RW.skip (RW.reg (rl.run 2 rfl (rl.done ?_))))
      cases h15
      exact hB4 _ rfl _ _ (Gh.ren0 [] .nil rfl (.cons rfl (.dat .str) (.cons rfl (.dat .int) (.cons rfl (.dat .int) .nil))))
     ·have h16 := iteBT h8 hb
      refine RW.cond_t rfl (RW.sreg (rl.run 1 rfl (rl.done (RW.ret ?_))))
      cases h16
      have h17 := elimL h5 (hE4 _ rfl)
      cases h17
      exact RRet.mk rfl .bool (by first | decide | simp)
  ·intro y3 hC
   have h5 := elimR h5 hC
   refine RW.sreg (rl.run 1 rfl (rl.done (RW.ret ?_)))
   cases h5
   exact RRet.mk rfl .bool (by first | decide | simp)
set_option maxHeartbeats 2000000 in
theorem law_impl_RecOk {x0 : TRec} {r : Bool} (hF : F_impl_RecOk x0 = some r) : PCalls Try.prog 112 [.agg (enc_TRec false x0)] (.bool r) := by
 refine PCalls.of_r k_impl_RecOk rfl ?_
 unfold F_impl_RecOk at hF
 refine RW.sreg (rl.run 2 rfl (rl.done (RW.seq (RW.sreg (rl.run 2 rfl ?_)))))
 obtain ⟨v1, e1, h1⟩ := bindS hF
 refine rl.call rfl rfl rfl (CallW.val (r' := .bool v1) ok_impl_in (law_impl_in e1) (.cons .int (.cons .int (.cons .int .nil))) .refl ?_)
 cases hb : v1
 ·have h2 := iteBF h1 hb
  refine rl.run 1 rfl (rl.done (RW.cond_t rfl (RW.sreg (rl.run 1 rfl (rl.done (RW.ret ?_))))))
  cases h2
  exact RRet.mk rfl .bool (by first | decide | simp)
 ·have h3 := iteBT h1 hb
  refine rl.run 1 rfl (rl.done (RW.cond_f rfl (RW.skip (RW.sreg (rl.run 3 rfl (rl.done (RW.sreg (rl.run 4 rfl (rl.done (RW.sreg (rl.run 1 rfl ?_)))))))))))
  refine rl.done (RW.seq (RW.seq ?_))
  obtain ⟨y2, ey2, h4⟩ := bindS h3
  refine RW.cutq (σ := Bool) (fun y2 => [(1, .ptr 0 0), (3, .ptr 1 0), (4, .bool true), (24, .bool y2)]) (fun y2 => [some ⟨[.j x0.Kind, .j x0.Valid, .j x0.Uid, .j x0.Next, .j x0.Flags, .str x0.User, .str x0.Name, .str x0.Text], 0⟩, some ⟨[.j 0, .j 0, .j x0.Uid, .j x0.Next, .j x0.Flags, .str x0.User, .str x0.Name, .str x0.Text], 0⟩]) (fun y => y2 = y) (fun _ _ _ _ g h => RW.gh g h) ?_ ?_
  ·refine RW.reg ?_
   refine rl.run 2 rfl ?_
   refine rl.gen rfl rfl fun b hb => ?_
   cases b
   ·have h5 := iteBF ey2 hb
    refine rl.run 3 rfl ?_
    refine rl.gen rfl rfl fun b hb => ?_
    cases b
    ·have h6 := iteBF h5 hb
     refine rl.run 4 rfl ?_
     refine rl.gen rfl rfl fun b hb => ?_
     cases b
     ·have h7 := iteBF h6 hb
      refine rl.run 1 rfl (rl.done ?_)
      cases h7
      exact ⟨_, rfl, (Gh.ren0 [0, 1] (.cells rfl rfl (.keep .int (.keep .int (.keep .int (.keep .int (.keep .int (.keep .str (.keep .str (.keep .str .nil)))))))) (.cells rfl rfl (.keep .int (.keep .int (.keep .int (.keep .int (.keep .int (.keep .str (.keep .str (.keep .str .nil)))))))) .nil)) rfl (.cons rfl (.ptr rfl) (.cons rfl (.ptr rfl) (.cons rfl (.dat .bool) (.cons rfl (.dat .bool) .nil)))))⟩
     ·have h8 := iteBT h6 hb
      refine rl.run 1 rfl (rl.done ?_)
      cases h8
      exact ⟨_, rfl, (Gh.ren0 [0, 1] (.cells rfl rfl (.keep .int (.keep .int (.keep .int (.keep .int (.keep .int (.keep .str (.keep .str (.keep .str .nil)))))))) (.cells rfl rfl (.keep .int (.keep .int (.keep .int (.keep .int (.keep .int (.keep .str (.keep .str (.keep .str .nil)))))))) .nil)) rfl (.cons rfl (.ptr rfl) (.cons rfl (.ptr rfl) (.cons rfl (.dat .bool) (.cons rfl (.dat .bool) .nil)))))⟩
    ·have h9 := iteBT h5 hb
     refine rl.run 6 rfl (rl.done ?_)
     cases h9
     exact ⟨_, rfl, (Gh.ren0 [0, 1] (.cells rfl rfl (.keep .int (.keep .int (.keep .int (.keep .int (.keep .int (.keep .str (.keep .str (.keep .str .nil)))))))) (.cells rfl rfl (.keep .int (.keep .int (.keep .int (.keep .int (.keep .int (.keep .str (.keep .str (.keep .str .nil)))))))) .nil)) rfl (.cons rfl (.ptr rfl) (.cons rfl (.ptr rfl) (.cons rfl (.dat .bool) (.cons rfl (.dat .bool) .nil)))))⟩
   ·have h10 := iteBT ey2 hb
    refine rl.run 10 rfl (rl.done ?_)
    cases h10
    exact ⟨_, rfl, (Gh.ren0 [0, 1] (.cells rfl rfl (.keep .int (.keep .int (.keep .int (.keep .int (.keep .int (.keep .str (.keep .str (.keep .str .nil)))))))) (.cells rfl rfl (.keep .int (.keep .int (.keep .int (.keep .int (.keep .int (.keep .str (.keep .str (.keep .str .nil)))))))) .nil)) rfl (.cons rfl (.ptr rfl) (.cons rfl (.ptr rfl) (.cons rfl (.dat .bool) (.cons rfl (.dat .bool) .nil)))))⟩
  ·intro y hC
   subst hC
   obtain ⟨y3, ey3, h11⟩ := bindS h4
   refine RW.cutq (σ := Bool × Int) (fun y3 => [(1, .ptr 0 0), (3, .ptr 1 0), (4, .bool y3.1)]) (fun y3 => [some ⟨[.j x0.Kind, .j x0.Valid, .j x0.Uid, .j x0.Next, .j x0.Flags, .str x0.User, .str x0.Name, .str x0.Text], 0⟩, some ⟨[.j 0, .j 0, .j y3.2, .j x0.Next, .j x0.Flags, .str x0.User, .str x0.Name, .str x0.Text], 0⟩]) (fun y => y3 = y) (fun _ _ _ _ g h => RW.gh g h) ?_ ?_
   ·cases hb : y2
    ·have h12 := iteBF ey3 hb
     refine RW.cond_f rfl (RW.skip ?_)
     cases h12
     exact ⟨_, rfl, (Gh.ren0 [0, 1] (.cells rfl rfl (.keep .int (.keep .int (.keep .int (.keep .int (.keep .int (.keep .str (.keep .str (.keep .str .nil)))))))) (.cells rfl rfl (.keep .int (.keep .int (.keep .int (.keep .int (.keep .int (.keep .str (.keep .str (.keep .str .nil)))))))) .nil)) rfl (.cons rfl (.ptr rfl) (.cons rfl (.ptr rfl) (.cons rfl (.dat .bool) .nil))))⟩
    ·have h13 := iteBT ey3 hb
     refine RW.cond_t rfl (RW.sreg (rl.run 2 rfl ?_))
     obtain ⟨v4, e4, h14⟩ := bindS h13
     refine rl.call rfl rfl rfl (CallW.val (r' := .bool v4) ok_impl_in (law_impl_in e4) (.cons .int (.cons .int (.cons .int .nil))) .refl ?_)
     cases hb : v4
     ·have h15 := iteBF h14 hb
      refine rl.run 1 rfl (rl.done (RW.reg (rl.run 2 rfl (rl.done ?_))))
      cases h15
      exact ⟨_, rfl, (Gh.ren0 [0, 1] (.cells rfl rfl (.keep .int (.keep .int (.keep .int (.keep .int (.keep .int (.keep .str (.keep .str (.keep .str .nil)))))))) (.cells rfl rfl (.keep .int (.keep .int (.keep .int (.keep .int (.keep .int (.keep .str (.keep .str (.keep .str .nil)))))))) .nil)) rfl (.cons rfl (.ptr rfl) (.cons rfl (.ptr rfl) (.cons rfl (.dat .bool) .nil))))⟩
     ·have h16 := iteBT h14 hb
      refine rl.run 1 rfl (rl.done (RW.reg (rl.run 2 rfl (rl.done ?_))))
      cases h16
      exact ⟨_, rfl, (Gh.ren0 [0, 1] (.cells rfl rfl (.keep .int (.keep .int (.keep .int (.keep .int (.keep .int (.keep .str (.keep .str (.keep .str .nil)))))))) (.cells rfl rfl (.keep .int (.keep .int (.keep .int (.keep .int (.keep .int (.keep .str (.keep .str (.keep .str .nil)))))))) .nil)) rfl (.cons rfl (.ptr rfl) (.cons rfl (.ptr rfl) (.cons rfl (.dat .bool) .nil))))⟩
   ·intro y hC
    subst hC
    refine RW.seq (RW.seq ?_)
    obtain ⟨y5, ey5, h17⟩ := bindS h11
    refine RW.cutq (σ := Bool) (fun y5 => [(1, .ptr 0 0), (3, .ptr 1 0), (4, .bool y3.1), (36, .bool y5)]) (fun y5 => [some ⟨[.j x0.Kind, .j x0.Valid, .j x0.Uid, .j x0.Next, .j x0.Flags, .str x0.User, .str x0.Name, .str x0.Text], 0⟩, some ⟨[.j 0, .j 0, .j y3.2, .j x0.Next, .j x0.Flags, .str x0.User, .str x0.Name, .str x0.Text], 0⟩]) (fun y => y5 = y) (fun _ _ _ _ g h => RW.gh g h) ?_ ?_
    ·refine RW.reg ?_
     refine rl.run 2 rfl ?_
     refine rl.gen rfl rfl fun b hb => ?_
     cases b
     ·have h18 := iteBF ey5 hb
      refine rl.run 3 rfl ?_
      refine rl.gen rfl rfl fun b hb => ?_
      cases b
      ·have h19 := iteBF h18 hb
       refine rl.run 1 rfl (rl.done ?_)
       cases h19
       exact ⟨_, rfl, (Gh.ren0 [0, 1] (.cells rfl rfl (.keep .int (.keep .int (.keep .int (.keep .int (.keep .int (.keep .str (.keep .str (.keep .str .nil)))))))) (.cells rfl rfl (.keep .int (.keep .int (.keep .int (.keep .int (.keep .int (.keep .str (.keep .str (.keep .str .nil)))))))) .nil)) rfl (.cons rfl (.ptr rfl) (.cons rfl (.ptr rfl) (.cons rfl (.dat .bool) (.cons rfl (.dat .bool) .nil)))))⟩
      ·have h20 := iteBT h18 hb
       refine rl.run 1 rfl (rl.done ?_)
       cases h20
       exact ⟨_, rfl, (Gh.ren0 [0, 1] (.cells rfl rfl (.keep .int (.keep .int (.keep .int (.keep .int (.keep .int (.keep .str (.keep .str (.keep .str .nil)))))))) (.cells rfl rfl (.keep .int (.keep .int (.keep .int (.keep .int (.keep .int (.keep .str (.keep .str (.keep .str .nil)))))))) .nil)) rfl (.cons rfl (.ptr rfl) (.cons rfl (.ptr rfl) (.cons rfl (.dat .bool) (.cons rfl (.dat .bool) .nil)))))⟩
     ·have h21 := iteBT ey5 hb
      refine rl.run 5 rfl (rl.done ?_)
      cases h21
      exact ⟨_, rfl, (Gh.ren0 [0, 1] (.cells rfl rfl (.keep .int (.keep .int (.keep .int (.keep .int (.keep .int (.keep .str (.keep .str (.keep .str .nil)))))))) (.cells rfl rfl (.keep .int (.keep .int (.keep .int (.keep .int (.keep .int (.keep .str (.keep .str (.keep .str .nil)))))))) .nil)) rfl (.cons rfl (.ptr rfl) (.cons rfl (.ptr rfl) (.cons rfl (.dat .bool) (.cons rfl (.dat .bool) .nil)))))⟩
    ·intro y hC
     subst hC
     obtain ⟨y6, ey6, h22⟩ := bindS h17
     refine RW.cutq (σ := Bool × Int) (fun y6 => [(1, .ptr 0 0), (3, .ptr 1 0), (4, .bool y6.1)]) (fun y6 => [some ⟨[.j x0.Kind, .j x0.Valid, .j x0.Uid, .j x0.Next, .j x0.Flags, .str x0.User, .str x0.Name, .str x0.Text], 0⟩, some ⟨[.j 0, .j 0, .j y3.2, .j x0.Next, .j y6.2, .str x0.User, .str x0.Name, .str x0.Text], 0⟩]) (fun y => y6 = y) (fun _ _ _ _ g h => RW.gh g h) ?_ ?_
     ·cases hb : y5
      ·have h23 := iteBF ey6 hb
       refine RW.cond_f rfl (RW.skip ?_)
       cases h23
       exact ⟨_, rfl, (Gh.ren0 [0, 1] (.cells rfl rfl (.keep .int (.keep .int (.keep .int (.keep .int (.keep .int (.keep .str (.keep .str (.keep .str .nil)))))))) (.cells rfl rfl (.keep .int (.keep .int (.keep .int (.keep .int (.keep .int (.keep .str (.keep .str (.keep .str .nil)))))))) .nil)) rfl (.cons rfl (.ptr rfl) (.cons rfl (.ptr rfl) (.cons rfl (.dat .bool) .nil))))⟩
      ·have h24 := iteBT ey6 hb
       refine RW.cond_t rfl (RW.seq ?_)
       obtain ⟨y7, ey7, h25⟩ := bindS h24
       refine RW.cutq (σ := Bool) (fun y7 => [(1, .ptr 0 0), (3, .ptr 1 0), (4, .bool y7)]) (fun y7 => [some ⟨[.j x0.Kind, .j x0.Valid, .j x0.Uid, .j x0.Next, .j x0.Flags, .str x0.User, .str x0.Name, .str x0.Text], 0⟩, some ⟨[.j 0, .j 0, .j y3.2, .j x0.Next, .j x0.Flags, .str x0.User, .str x0.Name, .str x0.Text], 0⟩]) (fun y => y7 = y) (fun _ _ _ _ g h => RW.gh g h) ?_ ?_
       ·refine RW.reg ?_
        refine rl.run 2 rfl ?_
        cases hb : y3.1
        ·have h26 := iteBF ey7 hb
         refine rl.run 5 rfl (rl.done ?_)
         cases h26
         exact ⟨_, rfl, (Gh.ren0 [0, 1] (.cells rfl rfl (.keep .int (.keep .int (.keep .int (.keep .int (.keep .int (.keep .str (.keep .str (.keep .str .nil)))))))) (.cells rfl rfl (.keep .int (.keep .int (.keep .int (.keep .int (.keep .int (.keep .str (.keep .str (.keep .str .nil)))))))) .nil)) rfl (.cons rfl (.ptr rfl) (.cons rfl (.ptr rfl) (.cons rfl (.dat .bool) .nil))))⟩
        ·have h27 := iteBT ey7 hb
         refine rl.run 2 rfl ?_
         obtain ⟨v8, e8, h28⟩ := bindS h27
         refine rl.call rfl rfl rfl (CallW.val (r' := .bool v8) ok_impl_in (law_impl_in e8) (.cons .int (.cons .int (.cons .int .nil))) .refl ?_)
         cases hb : v8
         ·have h29 := iteBF h28 hb
          refine rl.run 2 rfl (rl.done ?_)
          cases h29
          exact ⟨_, rfl, (Gh.ren0 [0, 1] (.cells rfl rfl (.keep .int (.keep .int (.keep .int (.keep .int (.keep .int (.keep .str (.keep .str (.keep .str .nil)))))))) (.cells rfl rfl (.keep .int (.keep .int (.keep .int (.keep .int (.keep .int (.keep .str (.keep .str (.keep .str .nil)))))))) .nil)) rfl (.cons rfl (.ptr rfl) (.cons rfl (.ptr rfl) (.cons rfl (.dat .bool) .nil))))⟩
         ·have h30 := iteBT h28 hb
          refine rl.run 2 rfl (rl.done ?_)
          cases h30
          exact ⟨_, rfl, (Gh.ren0 [0, 1] (.cells rfl rfl (.keep .int (.keep .int (.keep .int (.keep .int (.keep .int (.keep .str (.keep .str (.keep .str .nil)))))))) (.cells rfl rfl (.keep .int (.keep .int (.keep .int (.keep .int (.keep .int (.keep .str (.keep .str (.keep .str .nil)))))))) .nil)) rfl (.cons rfl (.ptr rfl) (.cons rfl (.ptr rfl) (.cons rfl (.dat .bool) .nil))))⟩
       ·intro y hC
        subst hC
        refine RW.reg (rl.run 2 rfl (rl.done ?_))
        cases h25
        exact ⟨_, rfl, (Gh.ren0 [0, 1] (.cells rfl rfl (.keep .int (.keep .int (.keep .int (.keep .int (.keep .int (.keep .str (.keep .str (.keep .str .nil)))))))) (.cells rfl rfl (.keep .int (.keep .int (.keep .int (.keep .int (.keep .int (.keep .str (.keep .str (.keep .str .nil)))))))) .nil)) rfl (.cons rfl (.ptr rfl) (.cons rfl (.ptr rfl) (.cons rfl (.dat .bool) .nil))))⟩
     ·intro y hC
      subst hC
      refine RW.seq (RW.sreg (rl.run 2 rfl (rl.done ?_)))
      obtain ⟨y9, ey9, h31⟩ := bindS h22
      refine RW.cutq (σ := Bool × Int × (List UInt8) × (List UInt8) × (List UInt8)) (fun y9 => [(3, .ptr 0 0), (4, .bool y9.1)]) (fun y9 => [some ⟨[.j 0, .j 0, .j y3.2, .j y9.2.1, .j y6.2, .str y9.2.2.1, .str y9.2.2.2.1, .str y9.2.2.2.2], 0⟩]) (fun y => y9 = .inr y) (fun _ _ _ _ g h => RW.gh g h) ?_ ?_
      ·refine RW.blk ?_
       refine RW.sreg ?_
       refine rl.gen rfl rfl fun b hb => ?_
       cases b
       ·have h32 := iteBF ey9 hb
        refine rl.run 1 rfl (rl.done (RW.cond_f rfl (RW.sreg ?_)))
        refine rl.gen rfl rfl fun b hb => ?_
        cases b
        ·have h33 := iteBF h32 hb
         refine rl.run 1 rfl (rl.done (RW.cond_f rfl (RW.seq (RW.sreg ?_))))
         refine rl.gen rfl rfl fun b hb => ?_
         cases b
         ·have h34 := iteBF h33 hb
          refine rl.run 1 rfl (rl.done (RW.cond_f rfl (RW.sreg ?_)))
          refine rl.gen rfl rfl fun b hb => ?_
          cases b
          ·have h35 := iteBF h34 hb
           refine rl.run 1 rfl (rl.done (RW.cond_f rfl (RW.reg ?_)))
           refine rl.gen rfl rfl fun b hb => ?_
           cases b
           ·have h36 := iteBF h35 hb
            refine rl.run 1 rfl (rl.done (RW.cond_f rfl (RW.sreg (rl.run 1 rfl (rl.done ?_)))))
            refine RW.kp [2] [(2, .bool false)] [some ⟨[.j x0.Kind, .j x0.Valid, .j x0.Uid, .j x0.Next, .j x0.Flags, .str x0.User, .str x0.Name, .str x0.Text], 0⟩, some ⟨[.j 0, .j 0, .j y3.2, .j x0.Next, .j y6.2, .str x0.User, .str x0.Name, .str x0.Text], 0⟩] rfl rfl ?_
            refine RW.ret ?_
            cases h36
            have h37 := elimL h31 rfl
            cases h37
            exact RRet.mk rfl .bool (by first | decide | simp)
           ·have h38 := iteBT h35 hb
            refine rl.run 1 rfl (rl.done (RW.cond_t rfl (RW.skip ?_)))
            cases h38
            exact ⟨_, rfl, (Gh.ren0 [1] (.cells rfl rfl (.keep .int (.keep .int (.keep .int (.keep .int (.keep .int (.keep .str (.keep .str (.keep .str .nil)))))))) .nil) rfl (.cons rfl (.ptr rfl) (.cons rfl (.dat .bool) .nil)))⟩
          ·have h39 := iteBT h34 hb
           refine rl.run 1 rfl (rl.done (RW.cond_t rfl (RW.skip (RW.cond_t rfl (RW.skip ?_)))))
           cases h39
           exact ⟨_, rfl, (Gh.ren0 [1] (.cells rfl rfl (.keep .int (.keep .int (.keep .int (.keep .int (.keep .int (.keep .str (.keep .str (.keep .str .nil)))))))) .nil) rfl (.cons rfl (.ptr rfl) (.cons rfl (.dat .bool) .nil)))⟩
         ·have h40 := iteBT h33 hb
          refine rl.run 1 rfl (rl.done (RW.cond_t rfl (RW.skip (RW.cond_t rfl (RW.skip ?_)))))
          cases h40
          exact ⟨_, rfl, (Gh.ren0 [1] (.cells rfl rfl (.keep .int (.keep .int (.keep .int (.keep .int (.keep .int (.keep .str (.keep .str (.keep .str .nil)))))))) .nil) rfl (.cons rfl (.ptr rfl) (.cons rfl (.dat .bool) .nil)))⟩
        ·have h41 := iteBT h32 hb
         refine rl.run 1 rfl (rl.done (RW.cond_t rfl (RW.seq ?_)))
         obtain ⟨y10, ey10, h42⟩ := bindS h41
         refine RW.cutq (σ := Bool) (fun y10 => [(3, .ptr 0 0), (4, .bool y10)]) (fun y10 => [some ⟨[.j 0, .j 0, .j y3.2, .j x0.Next, .j y6.2, .str x0.User, .str x0.Name, .str x0.Text], 0⟩]) (fun y => y10 = y) (fun _ _ _ _ g h => RW.gh g h) ?_ ?_
         ·refine RW.reg ?_
          refine rl.run 2 rfl ?_
          cases hb : y6.1
          ·have h43 := iteBF ey10 hb
           refine rl.run 6 rfl (rl.done ?_)
           cases h43
           exact ⟨_, rfl, (Gh.ren0 [1] (.cells rfl rfl (.keep .int (.keep .int (.keep .int (.keep .int (.keep .int (.keep .str (.keep .str (.keep .str .nil)))))))) .nil) rfl (.cons rfl (.ptr rfl) (.cons rfl (.dat .bool) .nil)))⟩
          ·have h44 := iteBT ey10 hb
           refine rl.run 3 rfl ?_
           refine rl.gen rfl rfl fun b hb => ?_
           cases b
           ·have h45 := iteBF h44 hb
            refine rl.run 2 rfl (rl.done ?_)
            cases h45
            exact ⟨_, rfl, (Gh.ren0 [1] (.cells rfl rfl (.keep .int (.keep .int (.keep .int (.keep .int (.keep .int (.keep .str (.keep .str (.keep .str .nil)))))))) .nil) rfl (.cons rfl (.ptr rfl) (.cons rfl (.dat .bool) .nil)))⟩
           ·have h46 := iteBT h44 hb
            refine rl.run 2 rfl (rl.done ?_)
            cases h46
            exact ⟨_, rfl, (Gh.ren0 [1] (.cells rfl rfl (.keep .int (.keep .int (.keep .int (.keep .int (.keep .int (.keep .str (.keep .str (.keep .str .nil)))))))) .nil) rfl (.cons rfl (.ptr rfl) (.cons rfl (.dat .bool) .nil)))⟩
         ·intro y hC
          subst hC
          refine RW.reg (rl.run 2 rfl (rl.done ?_))
          cases h42
          exact ⟨_, rfl, (Gh.ren0 [0] (.cells rfl rfl (.keep .int (.keep .int (.keep .int (.keep .int (.keep .int (.keep .str (.keep .str (.keep .str .nil)))))))) .nil) rfl (.cons rfl (.ptr rfl) (.cons rfl (.dat .bool) .nil)))⟩
       ·have h47 := iteBT ey9 hb
        refine rl.run 1 rfl (rl.done (RW.cond_t rfl (RW.seq ?_)))
        obtain ⟨y11, ey11, h48⟩ := bindS h47
        refine RW.cutq (σ := Bool) (fun y11 => [(3, .ptr 0 0), (4, .bool y11)]) (fun y11 => [some ⟨[.j 0, .j 0, .j y3.2, .j x0.Next, .j y6.2, .str x0.User, .str x0.Name, .str x0.Text], 0⟩]) (fun y => y11 = y) (fun _ _ _ _ g h => RW.gh g h) ?_ ?_
        ·refine RW.reg ?_
         refine rl.run 2 rfl ?_
         obtain ⟨v12, e12, h49⟩ := bindS ey11
         refine rl.call rfl rfl rfl (CallW.val (r' := .bool v12) ok_impl_WordOk (law_impl_WordOk e12) (.cons .str .nil) .refl ?_)
         cases hb : v12
         ·have h50 := iteBF h49 hb
          refine rl.run 11 rfl (rl.done ?_)
          cases h50
          exact ⟨_, rfl, (Gh.ren0 [1] (.cells rfl rfl (.keep .int (.keep .int (.keep .int (.keep .int (.keep .int (.keep .str (.keep .str (.keep .str .nil)))))))) .nil) rfl (.cons rfl (.ptr rfl) (.cons rfl (.dat .bool) .nil)))⟩
         ·have h51 := iteBT h49 hb
          refine rl.run 3 rfl ?_
          obtain ⟨v13, e13, h52⟩ := bindS h51
          refine rl.call rfl rfl rfl (CallW.val (r' := .bool v13) ok_impl_WordOk (law_impl_WordOk e13) (.cons .str .nil) .refl ?_)
          cases hb : v13
          ·have h53 := iteBF h52 hb
           refine rl.run 7 rfl (rl.done ?_)
           cases h53
           exact ⟨_, rfl, (Gh.ren0 [1] (.cells rfl rfl (.keep .int (.keep .int (.keep .int (.keep .int (.keep .int (.keep .str (.keep .str (.keep .str .nil)))))))) .nil) rfl (.cons rfl (.ptr rfl) (.cons rfl (.dat .bool) .nil)))⟩
          ·have h54 := iteBT h52 hb
           refine rl.run 4 rfl ?_
           obtain ⟨v14, e14, h55⟩ := bindS h54
           refine rl.call rfl rfl rfl (CallW.val (r' := .bool v14) ok_impl_in (law_impl_in e14) (.cons .int (.cons .int (.cons .int .nil))) .refl ?_)
           cases hb : v14
           ·have h56 := iteBF h55 hb
            refine rl.run 2 rfl (rl.done ?_)
            cases h56
            exact ⟨_, rfl, (Gh.ren0 [1] (.cells rfl rfl (.keep .int (.keep .int (.keep .int (.keep .int (.keep .int (.keep .str (.keep .str (.keep .str .nil)))))))) .nil) rfl (.cons rfl (.ptr rfl) (.cons rfl (.dat .bool) .nil)))⟩
           ·have h57 := iteBT h55 hb
            refine rl.run 2 rfl (rl.done ?_)
            cases h57
            exact ⟨_, rfl, (Gh.ren0 [1] (.cells rfl rfl (.keep .int (.keep .int (.keep .int (.keep .int (.keep .int (.keep .str (.keep .str (.keep .str .nil)))))))) .nil) rfl (.cons rfl (.ptr rfl) (.cons rfl (.dat .bool) .nil)))⟩
        ·intro y hC
         subst hC
         refine RW.reg (rl.run 6 rfl (rl.done ?_))
         cases h48
         exact ⟨_, rfl, (Gh.ren0 [0] (.cells rfl rfl (.keep .int (.keep .int (.keep .int (.keep .int (.keep .int (.keep .str (.keep .str (.keep .str .nil)))))))) .nil) rfl (.cons rfl (.ptr rfl) (.cons rfl (.dat .bool) .nil)))⟩
      ·intro y9_ hC
       have h31 := elimR h31 hC
       refine RW.sreg (rl.run 2 rfl ?_)
       cases hb : y9_.1
       ·have h58 := iteBF h31 hb
        refine rl.run 5 rfl (rl.done (RW.ret ?_))
        cases h58
        exact RRet.mk rfl .bool (by first | decide | simp)
       ·have h59 := iteBT h31 hb
        refine rl.run 5 rfl (rl.done (RW.ret ?_))
        cases h59
        exact RRet.mk rfl .bool (by first | decide | simp)
theorem law_impl_ItemsOk_1_w {x0 : TItem} {x1 : TItem} {r : Bool} (hF : F_impl_ItemsOk_1_w x0 x1 = some r) : ACalls Try.prog 1 114 [.agg (enc_TItem false x0), .ptr 0 0] [some ⟨[.j x1.Seq, .j x1.Rec.Kind, .j x1.Rec.Valid, .j x1.Rec.Uid, .j x1.Rec.Next, .j x1.Rec.Flags, .str x1.Rec.User, .str x1.Rec.Name, .str x1.Rec.Text], 0⟩] (.bool r) [some ⟨[.j x1.Seq, .j x1.Rec.Kind, .j x1.Rec.Valid, .j x1.Rec.Uid, .j x1.Rec.Next, .j x1.Rec.Flags, .str x1.Rec.User, .str x1.Rec.Name, .str x1.Rec.Text], 0⟩] := by
 refine ACalls.of_s k_impl_ItemsOk_1 rfl ?_
 unfold F_impl_ItemsOk_1_w at hF
 refine RW.sreg (rl.run 2 rfl (rl.done (RW.sreg (rl.run 4 rfl ?_))))
 refine rl.gen rfl rfl fun b hb => ?_
 cases b
 ·have h1 := iteBF hF hb
  refine rl.run 6 rfl (rl.done ?_)
  refine RW.kp [3] [(3, .bool false)] [some ⟨[.j x1.Seq, .j x1.Rec.Kind, .j x1.Rec.Valid, .j x1.Rec.Uid, .j x1.Rec.Next, .j x1.Rec.Flags, .str x1.Rec.User, .str x1.Rec.Name, .str x1.Rec.Text], 0⟩, some ⟨[.j x0.Seq, .j x0.Rec.Kind, .j x0.Rec.Valid, .j x0.Rec.Uid, .j x0.Rec.Next, .j x0.Rec.Flags, .str x0.Rec.User, .str x0.Rec.Name, .str x0.Rec.Text], 0⟩] rfl rfl ?_
  refine RW.ret ?_
  cases h1
  exact RRetS.mk rfl .bool (Gh.renN [0] (.cells rfl rfl (.keep .int (.keep .int (.keep .int (.keep .int (.keep .int (.keep .int (.keep .str (.keep .str (.keep .str .nil))))))))) .nil) rfl rfl rfl .nil)
 ·have h2 := iteBT hF hb
  refine rl.run 6 rfl (rl.done ?_)
  refine RW.kp [3] [(3, .bool (!(x0.Seq == x1.Seq && (x0.Rec.Kind == x1.Rec.Kind && (x0.Rec.Valid == x1.Rec.Valid && (x0.Rec.Uid == x1.Rec.Uid && (x0.Rec.Next == x1.Rec.Next && (x0.Rec.Flags == x1.Rec.Flags && (x0.Rec.User == x1.Rec.User && (x0.Rec.Name == x1.Rec.Name && (x0.Rec.Text == x1.Rec.Text && true)))))))))))] [some ⟨[.j x1.Seq, .j x1.Rec.Kind, .j x1.Rec.Valid, .j x1.Rec.Uid, .j x1.Rec.Next, .j x1.Rec.Flags, .str x1.Rec.User, .str x1.Rec.Name, .str x1.Rec.Text], 0⟩, some ⟨[.j x0.Seq, .j x0.Rec.Kind, .j x0.Rec.Valid, .j x0.Rec.Uid, .j x0.Rec.Next, .j x0.Rec.Flags, .str x0.Rec.User, .str x0.Rec.Name, .str x0.Rec.Text], 0⟩] rfl rfl ?_
  refine RW.ret ?_
  cases h2
  exact RRetS.mk rfl .bool (Gh.renN [0] (.cells rfl rfl (.keep .int (.keep .int (.keep .int (.keep .int (.keep .int (.keep .int (.keep .str (.keep .str (.keep .str .nil))))))))) .nil) rfl rfl rfl .nil)
theorem law_slices_IndexFunc_Item_ItemsOk_1 {x0 : List TItem} {x1 : TItem} {r : Int} (hF : F_slices_IndexFunc_Item_ItemsOk_1 x0 x1 = some r) : ACalls Try.prog 1 149 [L_TItem x0, .fn 114 [.ptr 0 0]] [some ⟨[.j x1.Seq, .j x1.Rec.Kind, .j x1.Rec.Valid, .j x1.Rec.Uid, .j x1.Rec.Next, .j x1.Rec.Flags, .str x1.Rec.User, .str x1.Rec.Name, .str x1.Rec.Text], 0⟩] (.j r) [some ⟨[.j x1.Seq, .j x1.Rec.Kind, .j x1.Rec.Valid, .j x1.Rec.Uid, .j x1.Rec.Next, .j x1.Rec.Flags, .str x1.Rec.User, .str x1.Rec.Name, .str x1.Rec.Text], 0⟩] := by
 refine ACalls.of_s k_slices_IndexFunc_Item rfl ?_
 unfold F_slices_IndexFunc_Item_ItemsOk_1 at hF
 refine RW.sreg (rl.run 1 rfl (rl.done (RW.seq (RW.sreg (rl.run 3 rfl (rl.done ?_))))))
 obtain ⟨y5, ey5, h2⟩ := bindS hF
 refine RW.cutq (σ := Unit) (fun y2 => []) (fun y2 => [some ⟨[.j x1.Seq, .j x1.Rec.Kind, .j x1.Rec.Valid, .j x1.Rec.Uid, .j x1.Rec.Next, .j x1.Rec.Flags, .str x1.Rec.User, .str x1.Rec.Name, .str x1.Rec.Text], 0⟩]) (fun y => y5 = .inr y) (fun _ _ _ _ g h => RW.gh g h) ?_ ?_
 ·refine RW.blk ?_
  refine RW.iter (σ := Int) ey5 (fun s1 => [(0, L_TItem x0), (1, .fn 114 [.ptr 0 0]), (7, .j (x0.length : Int)), (8, .j s1)]) (fun s1 => [some ⟨[.j x1.Seq, .j x1.Rec.Kind, .j x1.Rec.Valid, .j x1.Rec.Uid, .j x1.Rec.Next, .j x1.Rec.Flags, .str x1.Rec.User, .str x1.Rec.Name, .str x1.Rec.Text], 0⟩]) (Gh.renN [0] (.cells rfl rfl (.keep .int (.keep .int (.keep .int (.keep .int (.keep .int (.keep .int (.keep .str (.keep .str (.keep .str .nil))))))))) .nil) rfl rfl rfl (.cons rfl (.dat (ek_TItem.rlst)) (.cons rfl (RnL.fn (.cons (.ptr rfl) .nil)) (.cons rfl (.dat .int) (.cons rfl (.dat .int) .nil))))) (fun s1 B o hS1 hB1 hE1 => ?_)
  unfold S_slices_IndexFunc_Item_ItemsOk_1_1 at hS1
  refine RW.sreg ?_
  refine rl.gen rfl rfl fun b hb => ?_
  cases b
  ·have h3 := iteBF hS1 hb
   refine rl.done (RW.seq (RW.cond_f rfl (RW.exit (blkA_eq ?_))))
   cases h3
   exact ⟨_, (hE1 _ rfl).symm, (Gh.renN [0] (.cells rfl rfl (.keep .int (.keep .int (.keep .int (.keep .int (.keep .int (.keep .int (.keep .str (.keep .str (.keep .str .nil))))))))) .nil) rfl rfl rfl .nil)⟩
  ·have h4 := iteBT hS1 hb
   refine rl.done (RW.seq (RW.cond_t rfl (RW.skip (RW.seq (RW.blk (RW.sreg (rl.run 2 rfl (rl.done (RW.sreg (rl.run 3 rfl ?_))))))))))
   obtain ⟨v3, e3, h5⟩ := bindS h4
   refine rl.op (x_ia_lst (enc := enc_TItem) (o := false) rfl rfl rfl e3) ?_
   refine rl.op (x_ld_ela (off' := 0) (vs := (enc_TItem false v3)) ek_TItem rfl e3 rfl rfl rfl) ?_
   obtain ⟨v4, e4, h6⟩ := bindS h5
   refine rl.call rfl rfl rfl (CallW.embR [0] ok_impl_ItemsOk_1 (law_impl_ItemsOk_1_w e4) (.cells rfl rfl (.keep .int (.keep .int (.keep .int (.keep .int (.keep .int (.keep .int (.keep .str (.keep .str (.keep .str .nil))))))))) .nil) rfl rfl (.cons (.dat (ek_TItem.rrec)) (.cons (.ptr rfl) .nil)) .bool ?_)
   cases hb : v4
   ·have h7 := iteBF h6 hb
    refine rl.done (RW.cond_f rfl (RW.skip (RW.reg (rl.run 2 rfl (rl.done ?_)))))
    cases h7
    exact hB1 _ rfl _ _ (Gh.renN [0] (.cells rfl rfl (.keep .int (.keep .int (.keep .int (.keep .int (.keep .int (.keep .int (.keep .str (.keep .str (.keep .str .nil))))))))) .nil) rfl rfl rfl (.cons rfl (.dat (ek_TItem.rlst)) (.cons rfl (RnL.fn (.cons (.ptr rfl) .nil)) (.cons rfl (.dat .int) (.cons rfl (.dat .int) .nil)))))
   ·have h8 := iteBT h6 hb
    refine rl.done (RW.cond_t rfl (RW.sreg (rl.run 2 rfl (rl.done ?_))))
    refine RW.kp [4] [(4, .j s1)] [some ⟨[.j x1.Seq, .j x1.Rec.Kind, .j x1.Rec.Valid, .j x1.Rec.Uid, .j x1.Rec.Next, .j x1.Rec.Flags, .str x1.Rec.User, .str x1.Rec.Name, .str x1.Rec.Text], 0⟩] rfl rfl ?_
    refine RW.ret ?_
    cases h8
    have h9 := elimL h2 (hE1 _ rfl)
    cases h9
    exact RRetS.mk rfl .int (Gh.renN [0] (.cells rfl rfl (.keep .int (.keep .int (.keep .int (.keep .int (.keep .int (.keep .int (.keep .str (.keep .str (.keep .str .nil))))))))) .nil) rfl rfl rfl .nil)
 ·intro y2 hC
  have h2 := elimR h2 hC
  refine RW.sreg (rl.run 1 rfl (rl.done (RW.ret ?_)))
  cases h2
  exact RRetS.mk rfl .int (Gh.renN [0] (.cells rfl rfl (.keep .int (.keep .int (.keep .int (.keep .int (.keep .int (.keep .int (.keep .str (.keep .str (.keep .str .nil))))))))) .nil) rfl rfl rfl .nil)
theorem law_slices_ContainsFunc_Item_ItemsOk_1 {x0 : List TItem} {x1 : TItem} {r : Bool} (hF : F_slices_ContainsFunc_Item_ItemsOk_1 x0 x1 = some r) : ACalls Try.prog 1 113 [L_TItem x0, .fn 114 [.ptr 0 0]] [some ⟨[.j x1.Seq, .j x1.Rec.Kind, .j x1.Rec.Valid, .j x1.Rec.Uid, .j x1.Rec.Next, .j x1.Rec.Flags, .str x1.Rec.User, .str x1.Rec.Name, .str x1.Rec.Text], 0⟩] (.bool r) [some ⟨[.j x1.Seq, .j x1.Rec.Kind, .j x1.Rec.Valid, .j x1.Rec.Uid, .j x1.Rec.Next, .j x1.Rec.Flags, .str x1.Rec.User, .str x1.Rec.Name, .str x1.Rec.Text], 0⟩] := by
 refine ACalls.of_s k_slices_ContainsFunc_Item rfl ?_
 unfold F_slices_ContainsFunc_Item_ItemsOk_1 at hF
 refine RW.sreg (rl.run 1 rfl (rl.done (RW.sreg (rl.run 2 rfl ?_))))
 obtain ⟨v1, e1, h1⟩ := bindS hF
 refine rl.call rfl rfl rfl (CallW.embR [0] ok_slices_IndexFunc_Item (law_slices_IndexFunc_Item_ItemsOk_1 e1) (.cells rfl rfl (.keep .int (.keep .int (.keep .int (.keep .int (.keep .int (.keep .int (.keep .str (.keep .str (.keep .str .nil))))))))) .nil) rfl rfl (.cons (.dat (ek_TItem.rlst)) (.cons (RnL.fn (.cons (.ptr rfl) .nil)) .nil)) .int ?_)
 refine rl.run 2 rfl (rl.done (RW.ret ?_))
 cases h1
 exact RRetS.mk rfl .bool (Gh.renN [0] (.cells rfl rfl (.keep .int (.keep .int (.keep .int (.keep .int (.keep .int (.keep .int (.keep .str (.keep .str (.keep .str .nil))))))))) .nil) rfl rfl rfl .nil)
set_option maxHeartbeats 2000000 in
theorem law_impl_ItemsOk {x0 : List TItem} {r : Bool} (hF : F_impl_ItemsOk x0 = some r) : PCalls Try.prog 84 [L_TItem x0] (.bool r) := by
 refine PCalls.of_r k_impl_ItemsOk rfl ?_
 unfold F_impl_ItemsOk at hF
 refine RW.sreg (rl.run 1 rfl (rl.done (RW.seq (RW.sreg (rl.run 2 rfl ?_)))))
 refine rl.gen rfl rfl fun b hb => ?_
 cases b
 ·have h1 := iteBF hF hb
  refine rl.done (RW.cond_f rfl (RW.skip (RW.seq (RW.sreg (rl.run 3 rfl (rl.done ?_))))))
  obtain ⟨y9, ey9, h3⟩ := bindS h1
  refine RW.cutq (σ := Unit) (fun y2 => []) (fun y2 => []) (fun y => y9 = .inr y) (fun _ _ _ _ g h => RW.gh g h) ?_ ?_
  ·refine RW.blk ?_
   refine RW.iter (σ := Int) ey9 (fun s1 => [(0, L_TItem x0), (8, L_TItem x0), (9, .j (x0.length : Int)), (10, .j s1)]) (fun s1 => []) (Gh.ren0 [] .nil rfl (.cons rfl (.dat (ek_TItem.rlst)) (.cons rfl (.dat (ek_TItem.rlst)) (.cons rfl (.dat .int) (.cons rfl (.dat .int) .nil))))) (fun s1 B o hS2 hB2 hE2 => ?_)
   unfold S_impl_ItemsOk_1 at hS2
   refine RW.sreg ?_
   refine rl.gen rfl rfl fun b hb => ?_
   cases b
   ·have h4 := iteBF hS2 hb
    refine rl.done (RW.seq (RW.cond_f rfl (RW.exit (blkA_eq ?_))))
    cases h4
    exact ⟨_, (hE2 _ rfl).symm, (Gh.ren0 [] .nil rfl .nil)⟩
   ·have h5 := iteBT hS2 hb
    refine rl.done (RW.seq (RW.cond_t rfl (RW.skip (RW.seq (RW.blk (RW.sreg (rl.run 1 rfl ?_)))))))
    obtain ⟨v3, e3, h6⟩ := bindS h5
    refine rl.op (x_ia_lst (enc := enc_TItem) (o := false) rfl rfl rfl e3) ?_
    refine rl.op (x_ld_ela (off' := 0) (vs := (enc_TItem false v3)) ek_TItem rfl e3 rfl rfl rfl) ?_
    refine rl.run 3 rfl (rl.done (RW.seq (RW.seq ?_)))
    obtain ⟨y4, ey4, h7⟩ := bindS h6
    refine RW.cutq (σ := Bool) (fun y4 => [(0, L_TItem x0), (3, .j s1), (4, .ptr 0 0), (8, L_TItem x0), (9, .j (x0.length : Int)), (10, .j s1), (24, .bool y4)]) (fun y4 => [some ⟨[.j v3.Seq, .j v3.Rec.Kind, .j v3.Rec.Valid, .j v3.Rec.Uid, .j v3.Rec.Next, .j v3.Rec.Flags, .str v3.Rec.User, .str v3.Rec.Name, .str v3.Rec.Text], 0⟩]) (fun y => y4 = y) (fun _ _ _ _ g h => RW.gh g h) ?_ ?_
    ·refine RW.reg ?_
     refine rl.run 2 rfl ?_
     obtain ⟨v5, e5, h8⟩ := bindS ey4
     refine rl.call rfl rfl rfl (CallW.val (r' := .bool v5) ok_impl_in (law_impl_in e5) (.cons .int (.cons .int (.cons .int .nil))) .refl ?_)
     cases hb : v5
     ·have h9 := iteBF h8 hb
      refine rl.run 7 rfl (rl.done ?_)
      cases h9
      exact ⟨_, rfl, (Gh.ren0 [0] (.cells rfl rfl (.keep .int (.keep .int (.keep .int (.keep .int (.keep .int (.keep .int (.keep .str (.keep .str (.keep .str .nil))))))))) .nil) rfl (.cons rfl (.dat (ek_TItem.rlst)) (.cons rfl (.dat .int) (.cons rfl (.ptr rfl) (.cons rfl (.dat (ek_TItem.rlst)) (.cons rfl (.dat .int) (.cons rfl (.dat .int) (.cons rfl (.dat .bool) .nil))))))))⟩
     ·have h10 := iteBT h8 hb
      refine rl.run 4 rfl ?_
      obtain ⟨v6, e6, h11⟩ := bindS h10
      refine rl.call rfl rfl rfl (CallW.val (r' := .bool v6) ok_impl_RecOk (law_impl_RecOk e6) (.cons (DFL.agg (.cons .int (.cons .int (.cons .int (.cons .int (.cons .int (.cons .str (.cons .str (.cons .str .nil))))))))) .nil) .refl ?_)
      cases hb : v6
      ·have h12 := iteBF h11 hb
       refine rl.run 2 rfl (rl.done ?_)
       cases h12
       exact ⟨_, rfl, (Gh.ren0 [0] (.cells rfl rfl (.keep .int (.keep .int (.keep .int (.keep .int (.keep .int (.keep .int (.keep .str (.keep .str (.keep .str .nil))))))))) .nil) rfl (.cons rfl (.dat (ek_TItem.rlst)) (.cons rfl (.dat .int) (.cons rfl (.ptr rfl) (.cons rfl (.dat (ek_TItem.rlst)) (.cons rfl (.dat .int) (.cons rfl (.dat .int) (.cons rfl (.dat .bool) .nil))))))))⟩
      ·have h13 := iteBT h11 hb
       refine rl.run 2 rfl (rl.done ?_)
       cases h13
       exact ⟨_, rfl, (Gh.ren0 [0] (.cells rfl rfl (.keep .int (.keep .int (.keep .int (.keep .int (.keep .int (.keep .int (.keep .str (.keep .str (.keep .str .nil))))))))) .nil) rfl (.cons rfl (.dat (ek_TItem.rlst)) (.cons rfl (.dat .int) (.cons rfl (.ptr rfl) (.cons rfl (.dat (ek_TItem.rlst)) (.cons rfl (.dat .int) (.cons rfl (.dat .int) (.cons rfl (.dat .bool) .nil))))))))⟩
    ·intro y hC
     subst hC
     cases hb : y4
     ·have h14 := iteBF h7 hb
      refine RW.cond_f rfl (RW.skip (RW.sreg (rl.run 2 rfl ?_)))
      obtain ⟨v7, e7, h15⟩ := bindS h14
      refine rl.op (x_sle ek_TItem rfl rfl rfl abnd_hi e7) ?_
      refine rl.run 1 rfl ?_
      obtain ⟨v8, e8, h16⟩ := bindS h15
      refine rl.call rfl rfl rfl (CallW.embR [0] ok_slices_ContainsFunc_Item (law_slices_ContainsFunc_Item_ItemsOk_1 e8) (.cells rfl rfl (.keep .int (.keep .int (.keep .int (.keep .int (.keep .int (.keep .int (.keep .str (.keep .str (.keep .str .nil))))))))) .nil) rfl rfl (.cons (.dat (ek_TItem.rlst)) (.cons (RnL.fn (.cons (.ptr rfl) .nil)) .nil)) .bool ?_)
      cases hb : v8
      ·have h17 := iteBF h16 hb
       refine rl.done (RW.cond_f rfl (RW.skip (RW.reg (rl.run 2 rfl (rl.done ?_)))))
       cases h17
       exact hB2 _ rfl _ _ (Gh.ren0 [] .nil rfl (.cons rfl (.dat (ek_TItem.rlst)) (.cons rfl (.dat (ek_TItem.rlst)) (.cons rfl (.dat .int) (.cons rfl (.dat .int) .nil)))))
      ·have h18 := iteBT h16 hb
       refine rl.done (RW.cond_t rfl (RW.sreg (rl.run 1 rfl (rl.done ?_))))
       refine RW.kp [2] [(2, .bool false)] [some ⟨[.j v3.Seq, .j v3.Rec.Kind, .j v3.Rec.Valid, .j v3.Rec.Uid, .j v3.Rec.Next, .j v3.Rec.Flags, .str v3.Rec.User, .str v3.Rec.Name, .str v3.Rec.Text], 0⟩] rfl rfl ?_
       refine RW.ret ?_
       cases h18
       have h19 := elimL h3 (hE2 _ rfl)
       cases h19
       exact RRet.mk rfl .bool (by first | decide | simp)
     ·have h20 := iteBT h7 hb
      refine RW.cond_t rfl (RW.sreg (rl.run 1 rfl (rl.done (RW.ret ?_))))
      cases h20
      have h21 := elimL h3 (hE2 _ rfl)
      cases h21
      exact RRet.mk rfl .bool (by first | decide | simp)
  ·intro y2 hC
   have h3 := elimR h3 hC
   refine RW.sreg (rl.run 1 rfl (rl.done (RW.ret ?_)))
   cases h3
   exact RRet.mk rfl .bool (by first | decide | simp)
 ·have h22 := iteBT hF hb
  refine rl.done (RW.cond_t rfl (RW.sreg (rl.run 1 rfl (rl.done (RW.ret ?_)))))
  cases h22
  exact RRet.mk rfl .bool (by first | decide | simp)
theorem law_impl_needed_1_w {x0 : TItem} {x1 : TItem} {r : Bool} (hF : F_impl_needed_1_w x0 x1 = some r) : ACalls Try.prog 1 115 [.agg (enc_TItem false x0), .ptr 0 0] [some ⟨[.j x1.Seq, .j x1.Rec.Kind, .j x1.Rec.Valid, .j x1.Rec.Uid, .j x1.Rec.Next, .j x1.Rec.Flags, .str x1.Rec.User, .str x1.Rec.Name, .str x1.Rec.Text], 0⟩] (.bool r) [some ⟨[.j x1.Seq, .j x1.Rec.Kind, .j x1.Rec.Valid, .j x1.Rec.Uid, .j x1.Rec.Next, .j x1.Rec.Flags, .str x1.Rec.User, .str x1.Rec.Name, .str x1.Rec.Text], 0⟩] := by
 refine ACalls.of_s k_impl_needed_1 rfl ?_
 unfold F_impl_needed_1_w at hF
 refine RW.sreg (rl.run 2 rfl (rl.done (RW.sreg (rl.run 6 rfl (rl.done (RW.ret ?_))))))
 cases hF
 exact RRetS.mk rfl .bool (Gh.renN [0] (.cells rfl rfl (.keep .int (.keep .int (.keep .int (.keep .int (.keep .int (.keep .int (.keep .str (.keep .str (.keep .str .nil))))))))) .nil) rfl rfl rfl .nil)
theorem law_slices_IndexFunc_Item_needed_1 {x0 : List TItem} {x1 : TItem} {r : Int} (hF : F_slices_IndexFunc_Item_needed_1 x0 x1 = some r) : ACalls Try.prog 1 149 [L_TItem x0, .fn 115 [.ptr 0 0]] [some ⟨[.j x1.Seq, .j x1.Rec.Kind, .j x1.Rec.Valid, .j x1.Rec.Uid, .j x1.Rec.Next, .j x1.Rec.Flags, .str x1.Rec.User, .str x1.Rec.Name, .str x1.Rec.Text], 0⟩] (.j r) [some ⟨[.j x1.Seq, .j x1.Rec.Kind, .j x1.Rec.Valid, .j x1.Rec.Uid, .j x1.Rec.Next, .j x1.Rec.Flags, .str x1.Rec.User, .str x1.Rec.Name, .str x1.Rec.Text], 0⟩] := by
 refine ACalls.of_s k_slices_IndexFunc_Item rfl ?_
 unfold F_slices_IndexFunc_Item_needed_1 at hF
 refine RW.sreg (rl.run 1 rfl (rl.done (RW.seq (RW.sreg (rl.run 3 rfl (rl.done ?_))))))
 obtain ⟨y5, ey5, h2⟩ := bindS hF
 refine RW.cutq (σ := Unit) (fun y2 => []) (fun y2 => [some ⟨[.j x1.Seq, .j x1.Rec.Kind, .j x1.Rec.Valid, .j x1.Rec.Uid, .j x1.Rec.Next, .j x1.Rec.Flags, .str x1.Rec.User, .str x1.Rec.Name, .str x1.Rec.Text], 0⟩]) (fun y => y5 = .inr y) (fun _ _ _ _ g h => RW.gh g h) ?_ ?_
 ·refine RW.blk ?_
  refine RW.iter (σ := Int) ey5 (fun s1 => [(0, L_TItem x0), (1, .fn 115 [.ptr 0 0]), (7, .j (x0.length : Int)), (8, .j s1)]) (fun s1 => [some ⟨[.j x1.Seq, .j x1.Rec.Kind, .j x1.Rec.Valid, .j x1.Rec.Uid, .j x1.Rec.Next, .j x1.Rec.Flags, .str x1.Rec.User, .str x1.Rec.Name, .str x1.Rec.Text], 0⟩]) (Gh.renN [0] (.cells rfl rfl (.keep .int (.keep .int (.keep .int (.keep .int (.keep .int (.keep .int (.keep .str (.keep .str (.keep .str .nil))))))))) .nil) rfl rfl rfl (.cons rfl (.dat (ek_TItem.rlst)) (.cons rfl (RnL.fn (.cons (.ptr rfl) .nil)) (.cons rfl (.dat .int) (.cons rfl (.dat .int) .nil))))) (fun s1 B o hS1 hB1 hE1 => ?_)
  unfold S_slices_IndexFunc_Item_needed_1_1 at hS1
  refine RW.sreg ?_
  refine rl.gen rfl rfl fun b hb => ?_
  cases b
  ·have h3 := iteBF hS1 hb
   refine rl.done (RW.seq (RW.cond_f rfl (RW.exit (blkA_eq ?_))))
   cases h3
   exact ⟨_, (hE1 _ rfl).symm, (Gh.renN [0] (.cells rfl rfl (.keep .int (.keep .int (.keep .int (.keep .int (.keep .int (.keep .int (.keep .str (.keep .str (.keep .str .nil))))))))) .nil) rfl rfl rfl .nil)⟩
  ·have h4 := iteBT hS1 hb
   refine rl.done (RW.seq (RW.cond_t rfl (RW.skip (RW.seq (RW.blk (RW.sreg (rl.run 2 rfl (rl.done (RW.sreg (rl.run 3 rfl ?_))))))))))
   obtain ⟨v3, e3, h5⟩ := bindS h4
   refine rl.op (x_ia_lst (enc := enc_TItem) (o := false) rfl rfl rfl e3) ?_
   refine rl.op (x_ld_ela (off' := 0) (vs := (enc_TItem false v3)) ek_TItem rfl e3 rfl rfl rfl) ?_
   obtain ⟨v4, e4, h6⟩ := bindS h5
   refine rl.call rfl rfl rfl (CallW.embR [0] ok_impl_needed_1 (law_impl_needed_1_w e4) (.cells rfl rfl (.keep .int (.keep .int (.keep .int (.keep .int (.keep .int (.keep .int (.keep .str (.keep .str (.keep .str .nil))))))))) .nil) rfl rfl (.cons (.dat (ek_TItem.rrec)) (.cons (.ptr rfl) .nil)) .bool ?_)
   cases hb : v4
   ·have h7 := iteBF h6 hb
    refine rl.done (RW.cond_f rfl (RW.skip (RW.reg (rl.run 2 rfl (rl.done ?_)))))
    cases h7
    exact hB1 _ rfl _ _ (Gh.renN [0] (.cells rfl rfl (.keep .int (.keep .int (.keep .int (.keep .int (.keep .int (.keep .int (.keep .str (.keep .str (.keep .str .nil))))))))) .nil) rfl rfl rfl (.cons rfl (.dat (ek_TItem.rlst)) (.cons rfl (RnL.fn (.cons (.ptr rfl) .nil)) (.cons rfl (.dat .int) (.cons rfl (.dat .int) .nil)))))
   ·have h8 := iteBT h6 hb
    refine rl.done (RW.cond_t rfl (RW.sreg (rl.run 2 rfl (rl.done ?_))))
    refine RW.kp [4] [(4, .j s1)] [some ⟨[.j x1.Seq, .j x1.Rec.Kind, .j x1.Rec.Valid, .j x1.Rec.Uid, .j x1.Rec.Next, .j x1.Rec.Flags, .str x1.Rec.User, .str x1.Rec.Name, .str x1.Rec.Text], 0⟩] rfl rfl ?_
    refine RW.ret ?_
    cases h8
    have h9 := elimL h2 (hE1 _ rfl)
    cases h9
    exact RRetS.mk rfl .int (Gh.renN [0] (.cells rfl rfl (.keep .int (.keep .int (.keep .int (.keep .int (.keep .int (.keep .int (.keep .str (.keep .str (.keep .str .nil))))))))) .nil) rfl rfl rfl .nil)
 ·intro y2 hC
  have h2 := elimR h2 hC
  refine RW.sreg (rl.run 1 rfl (rl.done (RW.ret ?_)))
  cases h2
  exact RRetS.mk rfl .int (Gh.renN [0] (.cells rfl rfl (.keep .int (.keep .int (.keep .int (.keep .int (.keep .int (.keep .int (.keep .str (.keep .str (.keep .str .nil))))))))) .nil) rfl rfl rfl .nil)
theorem law_slices_ContainsFunc_Item_needed_1 {x0 : List TItem} {x1 : TItem} {r : Bool} (hF : F_slices_ContainsFunc_Item_needed_1 x0 x1 = some r) : ACalls Try.prog 1 113 [L_TItem x0, .fn 115 [.ptr 0 0]] [some ⟨[.j x1.Seq, .j x1.Rec.Kind, .j x1.Rec.Valid, .j x1.Rec.Uid, .j x1.Rec.Next, .j x1.Rec.Flags, .str x1.Rec.User, .str x1.Rec.Name, .str x1.Rec.Text], 0⟩] (.bool r) [some ⟨[.j x1.Seq, .j x1.Rec.Kind, .j x1.Rec.Valid, .j x1.Rec.Uid, .j x1.Rec.Next, .j x1.Rec.Flags, .str x1.Rec.User, .str x1.Rec.Name, .str x1.Rec.Text], 0⟩] := by
 refine ACalls.of_s k_slices_ContainsFunc_Item rfl ?_
 unfold F_slices_ContainsFunc_Item_needed_1 at hF
 refine RW.sreg (rl.run 1 rfl (rl.done (RW.sreg (rl.run 2 rfl ?_))))
 obtain ⟨v1, e1, h1⟩ := bindS hF
 refine rl.call rfl rfl rfl (CallW.embR [0] ok_slices_IndexFunc_Item (law_slices_IndexFunc_Item_needed_1 e1) (.cells rfl rfl (.keep .int (.keep .int (.keep .int (.keep .int (.keep .int (.keep .int (.keep .str (.keep .str (.keep .str .nil))))))))) .nil) rfl rfl (.cons (.dat (ek_TItem.rlst)) (.cons (RnL.fn (.cons (.ptr rfl) .nil)) .nil)) .int ?_)
 refine rl.run 2 rfl (rl.done (RW.ret ?_))
 cases h1
 exact RRetS.mk rfl .bool (Gh.renN [0] (.cells rfl rfl (.keep .int (.keep .int (.keep .int (.keep .int (.keep .int (.keep .int (.keep .str (.keep .str (.keep .str .nil))))))))) .nil) rfl rfl rfl .nil)
theorem law_impl_needed_2_w {x0 : TItem} {x1 : TRec} {r : Bool} (hF : F_impl_needed_2_w x0 x1 = some r) : ACalls Try.prog 1 117 [.agg (enc_TItem false x0), .ptr 0 0] [some ⟨[.j x1.Kind, .j x1.Valid, .j x1.Uid, .j x1.Next, .j x1.Flags, .str x1.User, .str x1.Name, .str x1.Text], 0⟩] (.bool r) [some ⟨[.j x1.Kind, .j x1.Valid, .j x1.Uid, .j x1.Next, .j x1.Flags, .str x1.User, .str x1.Name, .str x1.Text], 0⟩] := by
 refine ACalls.of_s k_impl_needed_2 rfl ?_
 unfold F_impl_needed_2_w at hF
 refine RW.sreg (rl.run 2 rfl (rl.done (RW.sreg (rl.run 5 rfl ?_))))
 refine rl.gen rfl rfl fun b hb => ?_
 cases b
 ·have h1 := iteBF hF hb
  refine rl.run 7 rfl (rl.done ?_)
  refine RW.kp [3] [(3, .bool false)] [some ⟨[.j x1.Kind, .j x1.Valid, .j x1.Uid, .j x1.Next, .j x1.Flags, .str x1.User, .str x1.Name, .str x1.Text], 0⟩, some ⟨[.j x0.Seq, .j x0.Rec.Kind, .j x0.Rec.Valid, .j x0.Rec.Uid, .j x0.Rec.Next, .j x0.Rec.Flags, .str x0.Rec.User, .str x0.Rec.Name, .str x0.Rec.Text], 0⟩] rfl rfl ?_
  refine RW.ret ?_
  cases h1
  exact RRetS.mk rfl .bool (Gh.renN [0] (.cells rfl rfl (.keep .int (.keep .int (.keep .int (.keep .int (.keep .int (.keep .str (.keep .str (.keep .str .nil)))))))) .nil) rfl rfl rfl .nil)
 ·have h2 := iteBT hF hb
  refine rl.run 7 rfl (rl.done ?_)
  refine RW.kp [3] [(3, .bool (x0.Rec.Kind != 2))] [some ⟨[.j x1.Kind, .j x1.Valid, .j x1.Uid, .j x1.Next, .j x1.Flags, .str x1.User, .str x1.Name, .str x1.Text], 0⟩, some ⟨[.j x0.Seq, .j x0.Rec.Kind, .j x0.Rec.Valid, .j x0.Rec.Uid, .j x0.Rec.Next, .j x0.Rec.Flags, .str x0.Rec.User, .str x0.Rec.Name, .str x0.Rec.Text], 0⟩] rfl rfl ?_
  refine RW.ret ?_
  cases h2
  exact RRetS.mk rfl .bool (Gh.renN [0] (.cells rfl rfl (.keep .int (.keep .int (.keep .int (.keep .int (.keep .int (.keep .str (.keep .str (.keep .str .nil)))))))) .nil) rfl rfl rfl .nil)
theorem law_slices_IndexFunc_Item_needed_2 {x0 : List TItem} {x1 : TRec} {r : Int} (hF : F_slices_IndexFunc_Item_needed_2 x0 x1 = some r) : ACalls Try.prog 1 149 [L_TItem x0, .fn 117 [.ptr 0 0]] [some ⟨[.j x1.Kind, .j x1.Valid, .j x1.Uid, .j x1.Next, .j x1.Flags, .str x1.User, .str x1.Name, .str x1.Text], 0⟩] (.j r) [some ⟨[.j x1.Kind, .j x1.Valid, .j x1.Uid, .j x1.Next, .j x1.Flags, .str x1.User, .str x1.Name, .str x1.Text], 0⟩] := by
 refine ACalls.of_s k_slices_IndexFunc_Item rfl ?_
 unfold F_slices_IndexFunc_Item_needed_2 at hF
 refine RW.sreg (rl.run 1 rfl (rl.done (RW.seq (RW.sreg (rl.run 3 rfl (rl.done ?_))))))
 obtain ⟨y5, ey5, h2⟩ := bindS hF
 refine RW.cutq (σ := Unit) (fun y2 => []) (fun y2 => [some ⟨[.j x1.Kind, .j x1.Valid, .j x1.Uid, .j x1.Next, .j x1.Flags, .str x1.User, .str x1.Name, .str x1.Text], 0⟩]) (fun y => y5 = .inr y) (fun _ _ _ _ g h => RW.gh g h) ?_ ?_
 ·refine RW.blk ?_
  refine RW.iter (σ := Int) ey5 (fun s1 => [(0, L_TItem x0), (1, .fn 117 [.ptr 0 0]), (7, .j (x0.length : Int)), (8, .j s1)]) (fun s1 => [some ⟨[.j x1.Kind, .j x1.Valid, .j x1.Uid, .j x1.Next, .j x1.Flags, .str x1.User, .str x1.Name, .str x1.Text], 0⟩]) (Gh.renN [0] (.cells rfl rfl (.keep .int (.keep .int (.keep .int (.keep .int (.keep .int (.keep .str (.keep .str (.keep .str .nil)))))))) .nil) rfl rfl rfl (.cons rfl (.dat (ek_TItem.rlst)) (.cons rfl (RnL.fn (.cons (.ptr rfl) .nil)) (.cons rfl (.dat .int) (.cons rfl (.dat .int) .nil))))) (fun s1 B o hS1 hB1 hE1 => ?_)
  unfold S_slices_IndexFunc_Item_needed_2_1 at hS1
  refine RW.sreg ?_
  refine rl.gen rfl rfl fun b hb => ?_
  cases b
  ·have h3 := iteBF hS1 hb
   refine rl.done (RW.seq (RW.cond_f rfl (RW.exit (blkA_eq ?_))))
   cases h3
   exact ⟨_, (hE1 _ rfl).symm, (Gh.renN [0] (.cells rfl rfl (.keep .int (.keep .int (.keep .int (.keep .int (.keep .int (.keep .str (.keep .str (.keep .str .nil)))))))) .nil) rfl rfl rfl .nil)⟩
  ·have h4 := iteBT hS1 hb
   refine rl.done (RW.seq (RW.cond_t rfl (RW.skip (RW.seq (RW.blk (RW.sreg (rl.run 2 rfl (rl.done (RW.sreg (rl.run 3 rfl ?_))))))))))
   obtain ⟨v3, e3, h5⟩ := bindS h4
   refine rl.op (x_ia_lst (enc := enc_TItem) (o := false) rfl rfl rfl e3) ?_
   refine rl.op (x_ld_ela (off' := 0) (vs := (enc_TItem false v3)) ek_TItem rfl e3 rfl rfl rfl) ?_
   obtain ⟨v4, e4, h6⟩ := bindS h5
   refine rl.call rfl rfl rfl (CallW.embR [0] ok_impl_needed_2 (law_impl_needed_2_w e4) (.cells rfl rfl (.keep .int (.keep .int (.keep .int (.keep .int (.keep .int (.keep .str (.keep .str (.keep .str .nil)))))))) .nil) rfl rfl (.cons (.dat (ek_TItem.rrec)) (.cons (.ptr rfl) .nil)) .bool ?_)
   cases hb : v4
   ·have h7 := iteBF h6 hb
    refine rl.done (RW.cond_f rfl (RW.skip (RW.reg (rl.run 2 rfl (rl.done ?_)))))
    cases h7
    exact hB1 _ rfl _ _ (Gh.renN [0] (.cells rfl rfl (.keep .int (.keep .int (.keep .int (.keep .int (.keep .int (.keep .str (.keep .str (.keep .str .nil)))))))) .nil) rfl rfl rfl (.cons rfl (.dat (ek_TItem.rlst)) (.cons rfl (RnL.fn (.cons (.ptr rfl) .nil)) (.cons rfl (.dat .int) (.cons rfl (.dat .int) .nil)))))
   ·have h8 := iteBT h6 hb
    refine rl.done (RW.cond_t rfl (RW.sreg (rl.run 2 rfl (rl.done ?_))))
    refine RW.kp [4] [(4, .j s1)] [some ⟨[.j x1.Kind, .j x1.Valid, .j x1.Uid, .j x1.Next, .j x1.Flags, .str x1.User, .str x1.Name, .str x1.Text], 0⟩] rfl rfl ?_
    refine RW.ret ?_
    cases h8
    have h9 := elimL h2 (hE1 _ rfl)
    cases h9
    exact RRetS.mk rfl .int (Gh.renN [0] (.cells rfl rfl (.keep .int (.keep .int (.keep .int (.keep .int (.keep .int (.keep .str (.keep .str (.keep .str .nil)))))))) .nil) rfl rfl rfl .nil)
 ·intro y2 hC
  have h2 := elimR h2 hC
  refine RW.sreg (rl.run 1 rfl (rl.done (RW.ret ?_)))
  cases h2
  exact RRetS.mk rfl .int (Gh.renN [0] (.cells rfl rfl (.keep .int (.keep .int (.keep .int (.keep .int (.keep .int (.keep .str (.keep .str (.keep .str .nil)))))))) .nil) rfl rfl rfl .nil)
theorem law_slices_ContainsFunc_Item_needed_2 {x0 : List TItem} {x1 : TRec} {r : Bool} (hF : F_slices_ContainsFunc_Item_needed_2 x0 x1 = some r) : ACalls Try.prog 1 113 [L_TItem x0, .fn 117 [.ptr 0 0]] [some ⟨[.j x1.Kind, .j x1.Valid, .j x1.Uid, .j x1.Next, .j x1.Flags, .str x1.User, .str x1.Name, .str x1.Text], 0⟩] (.bool r) [some ⟨[.j x1.Kind, .j x1.Valid, .j x1.Uid, .j x1.Next, .j x1.Flags, .str x1.User, .str x1.Name, .str x1.Text], 0⟩] := by
 refine ACalls.of_s k_slices_ContainsFunc_Item rfl ?_
 unfold F_slices_ContainsFunc_Item_needed_2 at hF
 refine RW.sreg (rl.run 1 rfl (rl.done (RW.sreg (rl.run 2 rfl ?_))))
 obtain ⟨v1, e1, h1⟩ := bindS hF
 refine rl.call rfl rfl rfl (CallW.embR [0] ok_slices_IndexFunc_Item (law_slices_IndexFunc_Item_needed_2 e1) (.cells rfl rfl (.keep .int (.keep .int (.keep .int (.keep .int (.keep .int (.keep .str (.keep .str (.keep .str .nil)))))))) .nil) rfl rfl (.cons (.dat (ek_TItem.rlst)) (.cons (RnL.fn (.cons (.ptr rfl) .nil)) .nil)) .int ?_)
 refine rl.run 2 rfl (rl.done (RW.ret ?_))
 cases h1
 exact RRetS.mk rfl .bool (Gh.renN [0] (.cells rfl rfl (.keep .int (.keep .int (.keep .int (.keep .int (.keep .int (.keep .str (.keep .str (.keep .str .nil)))))))) .nil) rfl rfl rfl .nil)
theorem law_impl_bySeq {x0 : TItem} {x1 : TItem} {r : Bool} (hF : F_impl_bySeq x0 x1 = some r) : PCalls Try.prog 121 [.agg (enc_TItem false x0), .agg (enc_TItem false x1)] (.bool r) := by
 refine PCalls.of_r k_impl_bySeq rfl ?_
 unfold F_impl_bySeq at hF
 refine RW.sreg (rl.run 3 rfl (rl.done (RW.sreg (rl.run 6 rfl (rl.done (RW.ret ?_))))))
 cases hF
 exact RRet.mk rfl .bool (by first | decide | simp)
theorem law_impl_about {x0 : TRec} {x1 : Int} {x2 : Int} {r : Bool} (hF : F_impl_about x0 x1 x2 = some r) : PCalls Try.prog 120 [.agg (enc_TRec false x0), .j x1, .j x2] (.bool r) := by
 refine PCalls.of_r k_impl_about rfl ?_
 unfold F_impl_about at hF
 refine RW.sreg (rl.run 2 rfl (rl.done (RW.sreg (rl.run 3 rfl ?_))))
 refine rl.gen rfl rfl fun b hb => ?_
 cases b
 ·have h1 := iteBF hF hb
  refine rl.run 7 rfl (rl.done ?_)
  refine RW.kp [6] [(6, .bool false)] [some ⟨[.j x0.Kind, .j x0.Valid, .j x0.Uid, .j x0.Next, .j x0.Flags, .str x0.User, .str x0.Name, .str x0.Text], 0⟩] rfl rfl ?_
  refine RW.ret ?_
  cases h1
  exact RRet.mk rfl .bool (by first | decide | simp)
 ·have h2 := iteBT hF hb
  refine rl.run 7 rfl (rl.done ?_)
  refine RW.kp [6] [(6, .bool (x0.Valid == x2))] [some ⟨[.j x0.Kind, .j x0.Valid, .j x0.Uid, .j x0.Next, .j x0.Flags, .str x0.User, .str x0.Name, .str x0.Text], 0⟩] rfl rfl ?_
  refine RW.ret ?_
  cases h2
  exact RRet.mk rfl .bool (by first | decide | simp)
theorem law_impl_boxThere_1_w {x0 : TRec} {x1 : Int} {r : Bool} (hF : F_impl_boxThere_1_w x0 x1 = some r) : ACalls Try.prog 1 150 [.agg (enc_TRec false x0), .ptr 0 0] [some ⟨[.j x1], 0⟩] (.bool r) [some ⟨[.j x1], 0⟩] := by
 refine ACalls.of_s k_impl_boxThere_1 rfl ?_
 unfold F_impl_boxThere_1_w at hF
 refine RW.sreg (rl.run 2 rfl (rl.done (RW.sreg (rl.run 2 rfl ?_))))
 obtain ⟨v1, e1, h1⟩ := bindS hF
 refine rl.call rfl rfl rfl (CallW.val (r' := .bool v1) ok_impl_about (law_impl_about e1) (.cons (DFL.agg (.cons .int (.cons .int (.cons .int (.cons .int (.cons .int (.cons .str (.cons .str (.cons .str .nil))))))))) (.cons .int (.cons .int .nil))) .refl ?_)
 refine rl.run 1 rfl (rl.done (RW.ret ?_))
 cases h1
 exact RRetS.mk rfl .bool (Gh.renN [0] (.cells rfl rfl (.keep .int .nil) .nil) rfl rfl rfl .nil)
theorem law_impl_latest_boxThere_1_bySeq {x0 : List TItem} {x1 : Int} {r : TItem × Bool} (hF : F_impl_latest_boxThere_1_bySeq x0 x1 = some r) : ACalls Try.prog 1 118 [L_TItem x0, .fn 150 [.ptr 0 0], .fn 121 []] [some ⟨[.j x1], 0⟩] (.tup [.agg (enc_TItem true r.1), .bool r.2]) [some ⟨[.j x1], 0⟩] := by
 refine ACalls.of_s k_impl_latest rfl ?_
 unfold F_impl_latest_boxThere_1_bySeq at hF
 refine RW.sreg (rl.run 2 rfl (rl.done (RW.sreg (rl.run 4 rfl (rl.done (RW.seq (RW.sreg (rl.run 3 rfl (rl.done ?_)))))))))
 obtain ⟨y7, ey7, h2⟩ := bindS hF
 refine RW.cutq (σ := Bool × Int × Int × Int × Int × Int × Int × (List UInt8) × (List UInt8) × (List UInt8)) (fun y2 => [(6, .ptr 1 0), (8, .ptr 2 0), (9, .bool y2.1)]) (fun y2 => [some ⟨[.j x1], 0⟩, some ⟨[.j 0, .j 0, .j 0, .j 0, .j 0, .j 0, .str [], .str [], .str []], 0⟩, some ⟨[.j y2.2.1, .j y2.2.2.1, .j y2.2.2.2.1, .j y2.2.2.2.2.1, .j y2.2.2.2.2.2.1, .j y2.2.2.2.2.2.2.1, .str y2.2.2.2.2.2.2.2.1, .str y2.2.2.2.2.2.2.2.2.1, .str y2.2.2.2.2.2.2.2.2.2], 0⟩]) (fun y => y7 = y) (fun _ _ _ _ g h => RW.gh g h) ?_ ?_
 ·refine RW.blk ?_
  refine RW.iter (σ := Bool × Int × Int × Int × Int × Int × Int × Int × (List UInt8) × (List UInt8) × (List UInt8)) ey7 (fun s1 => [(1, .fn 150 [.ptr 0 0]), (2, .fn 121 []), (6, .ptr 1 0), (8, .ptr 2 0), (9, .bool s1.1), (13, L_TItem x0), (14, .j (x0.length : Int)), (15, .j s1.2.1)]) (fun s1 => [some ⟨[.j x1], 0⟩, some ⟨[.j 0, .j 0, .j 0, .j 0, .j 0, .j 0, .str [], .str [], .str []], 0⟩, some ⟨[.j s1.2.2.1, .j s1.2.2.2.1, .j s1.2.2.2.2.1, .j s1.2.2.2.2.2.1, .j s1.2.2.2.2.2.2.1, .j s1.2.2.2.2.2.2.2.1, .str s1.2.2.2.2.2.2.2.2.1, .str s1.2.2.2.2.2.2.2.2.2.1, .str s1.2.2.2.2.2.2.2.2.2.2], 0⟩]) (Gh.renN [0, 1, 2] (.cells rfl rfl (.keep .int .nil) (.cells rfl rfl (.keep .int (.keep .int (.keep .int (.keep .int (.keep .int (.keep .int (.keep .str (.keep .str (.keep .str .nil))))))))) (.cells rfl rfl (.keep .int (.keep .int (.keep .int (.keep .int (.keep .int (.keep .int (.keep .str (.keep .str (.keep .str .nil))))))))) .nil))) rfl rfl rfl (.cons rfl (RnL.fn (.cons (.ptr rfl) .nil)) (.cons rfl (RnL.fn .nil) (.cons rfl (.ptr rfl) (.cons rfl (.ptr rfl) (.cons rfl (.dat .bool) (.cons rfl (.dat (ek_TItem.rlst)) (.cons rfl (.dat .int) (.cons rfl (.dat .int) .nil))))))))) (fun s1 B o hS1 hB1 hE1 => ?_)
  unfold S_impl_latest_boxThere_1_bySeq_1 at hS1
  refine RW.sreg ?_
  refine rl.gen rfl rfl fun b hb => ?_
  cases b
  ·have h3 := iteBF hS1 hb
   refine rl.done (RW.seq (RW.cond_f rfl (RW.exit (blkA_eq ?_))))
   cases h3
   exact ⟨_, (hE1 _ rfl).symm, (Gh.renN [0, 1, 2] (.cells rfl rfl (.keep .int .nil) (.cells rfl rfl (.keep .int (.keep .int (.keep .int (.keep .int (.keep .int (.keep .int (.keep .str (.keep .str (.keep .str .nil))))))))) (.cells rfl rfl (.keep .int (.keep .int (.keep .int (.keep .int (.keep .int (.keep .int (.keep .str (.keep .str (.keep .str .nil))))))))) .nil))) rfl rfl rfl (.cons rfl (.ptr rfl) (.cons rfl (.ptr rfl) (.cons rfl (.dat .bool) .nil))))⟩
  ·have h4 := iteBT hS1 hb
   refine rl.done (RW.seq (RW.cond_t rfl (RW.skip (RW.seq (RW.blk (RW.sreg ?_))))))
   obtain ⟨v3, e3, h5⟩ := bindS h4
   refine rl.op (x_ia_lst (enc := enc_TItem) (o := false) rfl rfl rfl e3) ?_
   refine rl.op (x_ld_ela (off' := 0) (vs := (enc_TItem false v3)) ek_TItem rfl e3 rfl rfl rfl) ?_
   refine rl.run 2 rfl (rl.done (RW.seq ?_))
   obtain ⟨y4, ey4, h6⟩ := bindS h5
   refine RW.cutq (σ := Bool) (fun y4 => [(1, .fn 150 [.ptr 0 0]), (2, .fn 121 []), (6, .ptr 1 0), (8, .ptr 2 0), (9, .bool s1.1), (11, .ptr 3 0), (13, L_TItem x0), (14, .j (x0.length : Int)), (15, .j s1.2.1), (32, .bool y4)]) (fun y4 => [some ⟨[.j x1], 0⟩, some ⟨[.j 0, .j 0, .j 0, .j 0, .j 0, .j 0, .str [], .str [], .str []], 0⟩, some ⟨[.j s1.2.2.1, .j s1.2.2.2.1, .j s1.2.2.2.2.1, .j s1.2.2.2.2.2.1, .j s1.2.2.2.2.2.2.1, .j s1.2.2.2.2.2.2.2.1, .str s1.2.2.2.2.2.2.2.2.1, .str s1.2.2.2.2.2.2.2.2.2.1, .str s1.2.2.2.2.2.2.2.2.2.2], 0⟩, some ⟨[.j v3.Seq, .j v3.Rec.Kind, .j v3.Rec.Valid, .j v3.Rec.Uid, .j v3.Rec.Next, .j v3.Rec.Flags, .str v3.Rec.User, .str v3.Rec.Name, .str v3.Rec.Text], 0⟩]) (fun y => y4 = y) (fun _ _ _ _ g h => RW.gh g h) ?_ ?_
   ·refine RW.reg ?_
    refine rl.run 3 rfl ?_
    obtain ⟨v5, e5, h7⟩ := bindS ey4
    refine rl.call rfl rfl rfl (CallW.embR [0] ok_impl_boxThere_1 (law_impl_boxThere_1_w e5) (.cells rfl rfl (.keep .int .nil) .nil) rfl rfl (.cons (RnL.agg (.cons (.dat .int) (.cons (.dat .int) (.cons (.dat .int) (.cons (.dat .int) (.cons (.dat .int) (.cons (.dat .str) (.cons (.dat .str) (.cons (.dat .str) .nil))))))))) (.cons (.ptr rfl) .nil)) .bool ?_)
    cases hb : v5
    ·have h8 := iteBF h7 hb
     refine rl.run 10 rfl (rl.done ?_)
     cases h8
     exact ⟨_, rfl, (Gh.renN [0, 1, 2, 3] (.cells rfl rfl (.keep .int .nil) (.cells rfl rfl (.keep .int (.keep .int (.keep .int (.keep .int (.keep .int (.keep .int (.keep .str (.keep .str (.keep .str .nil))))))))) (.cells rfl rfl (.keep .int (.keep .int (.keep .int (.keep .int (.keep .int (.keep .int (.keep .str (.keep .str (.keep .str .nil))))))))) (.cells rfl rfl (.keep .int (.keep .int (.keep .int (.keep .int (.keep .int (.keep .int (.keep .str (.keep .str (.keep .str .nil))))))))) .nil)))) rfl rfl rfl (.cons rfl (RnL.fn (.cons (.ptr rfl) .nil)) (.cons rfl (RnL.fn .nil) (.cons rfl (.ptr rfl) (.cons rfl (.ptr rfl) (.cons rfl (.dat .bool) (.cons rfl (.ptr rfl) (.cons rfl (.dat (ek_TItem.rlst)) (.cons rfl (.dat .int) (.cons rfl (.dat .int) (.cons rfl (.dat .bool) .nil)))))))))))⟩
    ·have h9 := iteBT h7 hb
     refine rl.run 4 rfl ?_
     cases hb : (!s1.1)
     ·have h10 := iteBF h9 hb
      refine rl.run 3 rfl ?_
      obtain ⟨v6, e6, h11⟩ := bindS h10
      refine rl.call rfl rfl rfl (CallW.val (r' := .bool v6) ok_impl_bySeq (law_impl_bySeq e6) (.cons (DFL.agg (.cons .int (.cons .int (.cons .int (.cons .int (.cons .int (.cons .int (.cons .str (.cons .str (.cons .str .nil)))))))))) (.cons (DFL.agg (.cons .int (.cons .int (.cons .int (.cons .int (.cons .int (.cons .int (.cons .str (.cons .str (.cons .str .nil)))))))))) .nil)) .refl ?_)
      cases hb : v6
      ·have h12 := iteBF h11 hb
       refine rl.run 2 rfl (rl.done ?_)
       cases h12
       exact ⟨_, rfl, (Gh.renN [0, 1, 2, 3] (.cells rfl rfl (.keep .int .nil) (.cells rfl rfl (.keep .int (.keep .int (.keep .int (.keep .int (.keep .int (.keep .int (.keep .str (.keep .str (.keep .str .nil))))))))) (.cells rfl rfl (.keep .int (.keep .int (.keep .int (.keep .int (.keep .int (.keep .int (.keep .str (.keep .str (.keep .str .nil))))))))) (.cells rfl rfl (.keep .int (.keep .int (.keep .int (.keep .int (.keep .int (.keep .int (.keep .str (.keep .str (.keep .str .nil))))))))) .nil)))) rfl rfl rfl (.cons rfl (RnL.fn (.cons (.ptr rfl) .nil)) (.cons rfl (RnL.fn .nil) (.cons rfl (.ptr rfl) (.cons rfl (.ptr rfl) (.cons rfl (.dat .bool) (.cons rfl (.ptr rfl) (.cons rfl (.dat (ek_TItem.rlst)) (.cons rfl (.dat .int) (.cons rfl (.dat .int) (.cons rfl (.dat .bool) .nil)))))))))))⟩
      ·have h13 := iteBT h11 hb
       refine rl.run 2 rfl (rl.done ?_)
       cases h13
       exact ⟨_, rfl, (Gh.renN [0, 1, 2, 3] (.cells rfl rfl (.keep .int .nil) (.cells rfl rfl (.keep .int (.keep .int (.keep .int (.keep .int (.keep .int (.keep .int (.keep .str (.keep .str (.keep .str .nil))))))))) (.cells rfl rfl (.keep .int (.keep .int (.keep .int (.keep .int (.keep .int (.keep .int (.keep .str (.keep .str (.keep .str .nil))))))))) (.cells rfl rfl (.keep .int (.keep .int (.keep .int (.keep .int (.keep .int (.keep .int (.keep .str (.keep .str (.keep .str .nil))))))))) .nil)))) rfl rfl rfl (.cons rfl (RnL.fn (.cons (.ptr rfl) .nil)) (.cons rfl (RnL.fn .nil) (.cons rfl (.ptr rfl) (.cons rfl (.ptr rfl) (.cons rfl (.dat .bool) (.cons rfl (.ptr rfl) (.cons rfl (.dat (ek_TItem.rlst)) (.cons rfl (.dat .int) (.cons rfl (.dat .int) (.cons rfl (.dat .bool) .nil)))))))))))⟩
     ·have h14 := iteBT h9 hb
      refine rl.run 6 rfl (rl.done ?_)
      cases h14
      exact ⟨_, rfl, (Gh.renN [0, 1, 2, 3] (.cells rfl rfl (.keep .int .nil) (.cells rfl rfl (.keep .int (.keep .int (.keep .int (.keep .int (.keep .int (.keep .int (.keep .str (.keep .str (.keep .str .nil))))))))) (.cells rfl rfl (.keep .int (.keep .int (.keep .int (.keep .int (.keep .int (.keep .int (.keep .str (.keep .str (.keep .str .nil))))))))) (.cells rfl rfl (.keep .int (.keep .int (.keep .int (.keep .int (.keep .int (.keep .int (.keep .str (.keep .str (.keep .str .nil))))))))) .nil)))) rfl rfl rfl (.cons rfl (RnL.fn (.cons (.ptr rfl) .nil)) (.cons rfl (RnL.fn .nil) (.cons rfl (.ptr rfl) (.cons rfl (.ptr rfl) (.cons rfl (.dat .bool) (.cons rfl (.ptr rfl) (.cons rfl (.dat (ek_TItem.rlst)) (.cons rfl (.dat .int) (.cons rfl (.dat .int) (.cons rfl (.dat .bool) .nil)))))))))))⟩
   ·intro y hC
    subst hC
    cases hb : y4
    ·have h15 := iteBF h6 hb
     refine RW.cond_f rfl (RW.skip (RW.reg (rl.run 2 rfl (rl.done ?_))))
     cases h15
     exact hB1 _ rfl _ _ (Gh.renN [0, 1, 2] (.cells rfl rfl (.keep .int .nil) (.cells rfl rfl (.keep .int (.keep .int (.keep .int (.keep .int (.keep .int (.keep .int (.keep .str (.keep .str (.keep .str .nil))))))))) (.cells rfl rfl (.keep .int (.keep .int (.keep .int (.keep .int (.keep .int (.keep .int (.keep .str (.keep .str (.keep .str .nil))))))))) .nil))) rfl rfl rfl (.cons rfl (RnL.fn (.cons (.ptr rfl) .nil)) (.cons rfl (RnL.fn .nil) (.cons rfl (.ptr rfl) (.cons rfl (.ptr rfl) (.cons rfl (.dat .bool) (.cons rfl (.dat (ek_TItem.rlst)) (.cons rfl (.dat .int) (.cons rfl (.dat .int) .nil)))))))))
    ·have h16 := iteBT h6 hb
     refine RW.cond_t rfl (RW.reg (rl.run 3 rfl (rl.done (RW.reg (rl.run 2 rfl (rl.done ?_))))))
     cases h16
     exact hB1 _ rfl _ _ (Gh.renN [0, 1, 2] (.cells rfl rfl (.keep .int .nil) (.cells rfl rfl (.keep .int (.keep .int (.keep .int (.keep .int (.keep .int (.keep .int (.keep .str (.keep .str (.keep .str .nil))))))))) (.cells rfl rfl (.keep .int (.keep .int (.keep .int (.keep .int (.keep .int (.keep .int (.keep .str (.keep .str (.keep .str .nil))))))))) .nil))) rfl rfl rfl (.cons rfl (RnL.fn (.cons (.ptr rfl) .nil)) (.cons rfl (RnL.fn .nil) (.cons rfl (.ptr rfl) (.cons rfl (.ptr rfl) (.cons rfl (.dat .bool) (.cons rfl (.dat (ek_TItem.rlst)) (.cons rfl (.dat .int) (.cons rfl (.dat .int) .nil)))))))))
 ·intro y2 hC
  subst hC
  refine RW.sreg (rl.run 4 rfl (rl.done (RW.ret ?_)))
  cases h2
  exact RRetS.mk rfl (.tup (fac (.agg (sc_TItem _ _)) (fac .bool fan))) (Gh.renN [0] (.cells rfl rfl (.keep .int .nil) .nil) rfl rfl rfl .nil)
theorem law_impl_boxThere_2_w {x0 : TRec} {x1 : Int} {r : Bool} (hF : F_impl_boxThere_2_w x0 x1 = some r) : ACalls Try.prog 1 151 [.agg (enc_TRec false x0), .ptr 0 0] [some ⟨[.j x1], 0⟩] (.bool r) [some ⟨[.j x1], 0⟩] := by
 refine ACalls.of_s k_impl_boxThere_2 rfl ?_
 unfold F_impl_boxThere_2_w at hF
 refine RW.sreg (rl.run 2 rfl (rl.done (RW.sreg (rl.run 2 rfl ?_))))
 obtain ⟨v1, e1, h1⟩ := bindS hF
 refine rl.call rfl rfl rfl (CallW.val (r' := .bool v1) ok_impl_about (law_impl_about e1) (.cons (DFL.agg (.cons .int (.cons .int (.cons .int (.cons .int (.cons .int (.cons .str (.cons .str (.cons .str .nil))))))))) (.cons .int (.cons .int .nil))) .refl ?_)
 refine rl.run 1 rfl (rl.done (RW.ret ?_))
 cases h1
 exact RRetS.mk rfl .bool (Gh.renN [0] (.cells rfl rfl (.keep .int .nil) .nil) rfl rfl rfl .nil)
theorem law_impl_byNext {x0 : TItem} {x1 : TItem} {r : Bool} (hF : F_impl_byNext x0 x1 = some r) : PCalls Try.prog 152 [.agg (enc_TItem false x0), .agg (enc_TItem false x1)] (.bool r) := by
 refine PCalls.of_r k_impl_byNext rfl ?_
 unfold F_impl_byNext at hF
 refine RW.sreg (rl.run 3 rfl (rl.done (RW.seq (RW.sreg (rl.run 6 rfl ?_)))))
 refine rl.gen rfl rfl fun b hb => ?_
 cases b
 ·have h1 := iteBF hF hb
  refine rl.done (RW.cond_f rfl (RW.skip (RW.sreg (rl.run 6 rfl (rl.done ?_)))))
  refine RW.kp [4] [(4, .bool (decide (x0.Seq < x1.Seq)))] [some ⟨[.j x0.Seq, .j x0.Rec.Kind, .j x0.Rec.Valid, .j x0.Rec.Uid, .j x0.Rec.Next, .j x0.Rec.Flags, .str x0.Rec.User, .str x0.Rec.Name, .str x0.Rec.Text], 0⟩, some ⟨[.j x1.Seq, .j x1.Rec.Kind, .j x1.Rec.Valid, .j x1.Rec.Uid, .j x1.Rec.Next, .j x1.Rec.Flags, .str x1.Rec.User, .str x1.Rec.Name, .str x1.Rec.Text], 0⟩] rfl rfl ?_
  refine RW.ret ?_
  cases h1
  exact RRet.mk rfl .bool (by first | decide | simp)
 ·have h2 := iteBT hF hb
  refine rl.done (RW.cond_t rfl (RW.sreg (rl.run 8 rfl (rl.done ?_))))
  refine RW.kp [4] [(4, .bool (decide (x0.Rec.Next < x1.Rec.Next)))] [some ⟨[.j x0.Seq, .j x0.Rec.Kind, .j x0.Rec.Valid, .j x0.Rec.Uid, .j x0.Rec.Next, .j x0.Rec.Flags, .str x0.Rec.User, .str x0.Rec.Name, .str x0.Rec.Text], 0⟩, some ⟨[.j x1.Seq, .j x1.Rec.Kind, .j x1.Rec.Valid, .j x1.Rec.Uid, .j x1.Rec.Next, .j x1.Rec.Flags, .str x1.Rec.User, .str x1.Rec.Name, .str x1.Rec.Text], 0⟩] rfl rfl ?_
  refine RW.ret ?_
  cases h2
  exact RRet.mk rfl .bool (by first | decide | simp)
theorem law_impl_latest_boxThere_2_byNext {x0 : List TItem} {x1 : Int} {r : TItem × Bool} (hF : F_impl_latest_boxThere_2_byNext x0 x1 = some r) : ACalls Try.prog 1 118 [L_TItem x0, .fn 151 [.ptr 0 0], .fn 152 []] [some ⟨[.j x1], 0⟩] (.tup [.agg (enc_TItem true r.1), .bool r.2]) [some ⟨[.j x1], 0⟩] := by
 refine ACalls.of_s k_impl_latest rfl ?_
 unfold F_impl_latest_boxThere_2_byNext at hF
 refine RW.sreg (rl.run 2 rfl (rl.done (RW.sreg (rl.run 4 rfl (rl.done (RW.seq (RW.sreg (rl.run 3 rfl (rl.done ?_)))))))))
 obtain ⟨y7, ey7, h2⟩ := bindS hF
 refine RW.cutq (σ := Bool × Int × Int × Int × Int × Int × Int × (List UInt8) × (List UInt8) × (List UInt8)) (fun y2 => [(6, .ptr 1 0), (8, .ptr 2 0), (9, .bool y2.1)]) (fun y2 => [some ⟨[.j x1], 0⟩, some ⟨[.j 0, .j 0, .j 0, .j 0, .j 0, .j 0, .str [], .str [], .str []], 0⟩, some ⟨[.j y2.2.1, .j y2.2.2.1, .j y2.2.2.2.1, .j y2.2.2.2.2.1, .j y2.2.2.2.2.2.1, .j y2.2.2.2.2.2.2.1, .str y2.2.2.2.2.2.2.2.1, .str y2.2.2.2.2.2.2.2.2.1, .str y2.2.2.2.2.2.2.2.2.2], 0⟩]) (fun y => y7 = y) (fun _ _ _ _ g h => RW.gh g h) ?_ ?_
 ·refine RW.blk ?_
  refine RW.iter (σ := Bool × Int × Int × Int × Int × Int × Int × Int × (List UInt8) × (List UInt8) × (List UInt8)) ey7 (fun s1 => [(1, .fn 151 [.ptr 0 0]), (2, .fn 152 []), (6, .ptr 1 0), (8, .ptr 2 0), (9, .bool s1.1), (13, L_TItem x0), (14, .j (x0.length : Int)), (15, .j s1.2.1)]) (fun s1 => [some ⟨[.j x1], 0⟩, some ⟨[.j 0, .j 0, .j 0, .j 0, .j 0, .j 0, .str [], .str [], .str []], 0⟩, some ⟨[.j s1.2.2.1, .j s1.2.2.2.1, .j s1.2.2.2.2.1, .j s1.2.2.2.2.2.1, .j s1.2.2.2.2.2.2.1, .j s1.2.2.2.2.2.2.2.1, .str s1.2.2.2.2.2.2.2.2.1, .str s1.2.2.2.2.2.2.2.2.2.1, .str s1.2.2.2.2.2.2.2.2.2.2], 0⟩]) (Gh.renN [0, 1, 2] (.cells rfl rfl (.keep .int .nil) (.cells rfl rfl (.keep .int (.keep .int (.keep .int (.keep .int (.keep .int (.keep .int (.keep .str (.keep .str (.keep .str .nil))))))))) (.cells rfl rfl (.keep .int (.keep .int (.keep .int (.keep .int (.keep .int (.keep .int (.keep .str (.keep .str (.keep .str .nil))))))))) .nil))) rfl rfl rfl (.cons rfl (RnL.fn (.cons (.ptr rfl) .nil)) (.cons rfl (RnL.fn .nil) (.cons rfl (.ptr rfl) (.cons rfl (.ptr rfl) (.cons rfl (.dat .bool) (.cons rfl (.dat (ek_TItem.rlst)) (.cons rfl (.dat .int) (.cons rfl (.dat .int) .nil))))))))) (fun s1 B o hS1 hB1 hE1 => ?_)
  unfold S_impl_latest_boxThere_2_byNext_1 at hS1
  refine RW.sreg ?_
  refine rl.gen rfl rfl fun b hb => ?_
  cases b
  ·have h3 := iteBF hS1 hb
   refine rl.done (RW.seq (RW.cond_f rfl (RW.exit (blkA_eq ?_))))
   cases h3
   exact ⟨_, (hE1 _ rfl).symm, (Gh.renN [0, 1, 2] (.cells rfl rfl (.keep .int .nil) (.cells rfl rfl (.keep .int (.keep .int (.keep .int (.keep .int (.keep .int (.keep .int (.keep .str (.keep .str (.keep .str .nil))))))))) (.cells rfl rfl (.keep .int (.keep .int (.keep .int (.keep .int (.keep .int (.keep .int (.keep .str (.keep .str (.keep .str .nil))))))))) .nil))) rfl rfl rfl (.cons rfl (.ptr rfl) (.cons rfl (.ptr rfl) (.cons rfl (.dat .bool) .nil))))⟩
  ·have h4 := iteBT hS1 hb
   refine rl.done (RW.seq (RW.cond_t rfl (RW.skip (RW.seq (RW.blk (RW.sreg ?_))))))
   obtain ⟨v3, e3, h5⟩ := bindS h4
   refine rl.op (x_ia_lst (enc := enc_TItem) (o := false) rfl rfl rfl e3) ?_
   refine rl.op (x_ld_ela (off' := 0) (vs := (enc_TItem false v3)) ek_TItem rfl e3 rfl rfl rfl) ?_
   refine rl.run 2 rfl (rl.done (RW.seq ?_))
   obtain ⟨y4, ey4, h6⟩ := bindS h5
   refine RW.cutq (σ := Bool) (fun y4 => [(1, .fn 151 [.ptr 0 0]), (2, .fn 152 []), (6, .ptr 1 0), (8, .ptr 2 0), (9, .bool s1.1), (11, .ptr 3 0), (13, L_TItem x0), (14, .j (x0.length : Int)), (15, .j s1.2.1), (32, .bool y4)]) (fun y4 => [some ⟨[.j x1], 0⟩, some ⟨[.j 0, .j 0, .j 0, .j 0, .j 0, .j 0, .str [], .str [], .str []], 0⟩, some ⟨[.j s1.2.2.1, .j s1.2.2.2.1, .j s1.2.2.2.2.1, .j s1.2.2.2.2.2.1, .j s1.2.2.2.2.2.2.1, .j s1.2.2.2.2.2.2.2.1, .str s1.2.2.2.2.2.2.2.2.1, .str s1.2.2.2.2.2.2.2.2.2.1, .str s1.2.2.2.2.2.2.2.2.2.2], 0⟩, some ⟨[.j v3.Seq, .j v3.Rec.Kind, .j v3.Rec.Valid, .j v3.Rec.Uid, .j v3.Rec.Next, .j v3.Rec.Flags, .str v3.Rec.User, .str v3.Rec.Name, .str v3.Rec.Text], 0⟩]) (fun y => y4 = y) (fun _ _ _ _ g h => RW.gh g h) ?_ ?_
   ·refine RW.reg ?_
    refine rl.run 3 rfl ?_
    obtain ⟨v5, e5, h7⟩ := bindS ey4
    refine rl.call rfl rfl rfl (CallW.embR [0] ok_impl_boxThere_2 (law_impl_boxThere_2_w e5) (.cells rfl rfl (.keep .int .nil) .nil) rfl rfl (.cons (RnL.agg (.cons (.dat .int) (.cons (.dat .int) (.cons (.dat .int) (.cons (.dat .int) (.cons (.dat .int) (.cons (.dat .str) (.cons (.dat .str) (.cons (.dat .str) .nil))))))))) (.cons (.ptr rfl) .nil)) .bool ?_)
    cases hb : v5
    ·have h8 := iteBF h7 hb
     refine rl.run 10 rfl (rl.done ?_)
     cases h8
     exact ⟨_, rfl, (Gh.renN [0, 1, 2, 3] (.cells rfl rfl (.keep .int .nil) (.cells rfl rfl (.keep .int (.keep .int (.keep .int (.keep .int (.keep .int (.keep .int (.keep .str (.keep .str (.keep .str .nil))))))))) (.cells rfl rfl (.keep .int (.keep .int (.keep .int (.keep .int (.keep .int (.keep .int (.keep .str (.keep .str (.keep .str .nil))))))))) (.cells rfl rfl (.keep .int (.keep .int (.keep .int (.keep .int (.keep .int (.keep .int (.keep .str (.keep .str (.keep .str .nil))))))))) .nil)))) rfl rfl rfl (.cons rfl (RnL.fn (.cons (.ptr rfl) .nil)) (.cons rfl (RnL.fn .nil) (.cons rfl (.ptr rfl) (.cons rfl (.ptr rfl) (.cons rfl (.dat .bool) (.cons rfl (.ptr rfl) (.cons rfl (.dat (ek_TItem.rlst)) (.cons rfl (.dat .int) (.cons rfl (.dat .int) (.cons rfl (.dat .bool) .nil)))))))))))⟩
    ·have h9 := iteBT h7 hb
     refine rl.run 4 rfl ?_
     cases hb : (!s1.1)
     ·have h10 := iteBF h9 hb
      refine rl.run 3 rfl ?_
      obtain ⟨v6, e6, h11⟩ := bindS h10
      refine rl.call rfl rfl rfl (CallW.val (r' := .bool v6) ok_impl_byNext (law_impl_byNext e6) (.cons (DFL.agg (.cons .int (.cons .int (.cons .int (.cons .int (.cons .int (.cons .int (.cons .str (.cons .str (.cons .str .nil)))))))))) (.cons (DFL.agg (.cons .int (.cons .int (.cons .int (.cons .int (.cons .int (.cons .int (.cons .str (.cons .str (.cons .str .nil)))))))))) .nil)) .refl ?_)
      cases hb : v6
      ·have h12 := iteBF h11 hb
       refine rl.run 2 rfl (rl.done ?_)
       cases h12
       exact ⟨_, rfl, (Gh.renN [0, 1, 2, 3] (.cells rfl rfl (.keep .int .nil) (.cells rfl rfl (.keep .int (.keep .int (.keep .int (.keep .int (.keep .int (.keep .int (.keep .str (.keep .str (.keep .str .nil))))))))) (.cells rfl rfl (.keep .int (.keep .int (.keep .int (.keep .int (.keep .int (.keep .int (.keep .str (.keep .str (.keep .str .nil))))))))) (.cells rfl rfl (.keep .int (.keep .int (.keep .int (.keep .int (.keep .int (.keep .int (.keep .str (.keep .str (.keep .str .nil))))))))) .nil)))) rfl rfl rfl (.cons rfl (RnL.fn (.cons (.ptr rfl) .nil)) (.cons rfl (RnL.fn .nil) (.cons rfl (.ptr rfl) (.cons rfl (.ptr rfl) (.cons rfl (.dat .bool) (.cons rfl (.ptr rfl) (.cons rfl (.dat (ek_TItem.rlst)) (.cons rfl (.dat .int) (.cons rfl (.dat .int) (.cons rfl (.dat .bool) .nil)))))))))))⟩
      ·have h13 := iteBT h11 hb
       refine rl.run 2 rfl (rl.done ?_)
       cases h13
       exact ⟨_, rfl, (Gh.renN [0, 1, 2, 3] (.cells rfl rfl (.keep .int .nil) (.cells rfl rfl (.keep .int (.keep .int (.keep .int (.keep .int (.keep .int (.keep .int (.keep .str (.keep .str (.keep .str .nil))))))))) (.cells rfl rfl (.keep .int (.keep .int (.keep .int (.keep .int (.keep .int (.keep .int (.keep .str (.keep .str (.keep .str .nil))))))))) (.cells rfl rfl (.keep .int (.keep .int (.keep .int (.keep .int (.keep .int (.keep .int (.keep .str (.keep .str (.keep .str .nil))))))))) .nil)))) rfl rfl rfl (.cons rfl (RnL.fn (.cons (.ptr rfl) .nil)) (.cons rfl (RnL.fn .nil) (.cons rfl (.ptr rfl) (.cons rfl (.ptr rfl) (.cons rfl (.dat .bool) (.cons rfl (.ptr rfl) (.cons rfl (.dat (ek_TItem.rlst)) (.cons rfl (.dat .int) (.cons rfl (.dat .int) (.cons rfl (.dat .bool) .nil)))))))))))⟩
     ·have h14 := iteBT h9 hb
      refine rl.run 6 rfl (rl.done ?_)
      cases h14
      exact ⟨_, rfl, (Gh.renN [0, 1, 2, 3] (.cells rfl rfl (.keep .int .nil) (.cells rfl rfl (.keep .int (.keep .int (.keep .int (.keep .int (.keep .int (.keep .int (.keep .str (.keep .str (.keep .str .nil))))))))) (.cells rfl rfl (.keep .int (.keep .int (.keep .int (.keep .int (.keep .int (.keep .int (.keep .str (.keep .str (.keep .str .nil))))))))) (.cells rfl rfl (.keep .int (.keep .int (.keep .int (.keep .int (.keep .int (.keep .int (.keep .str (.keep .str (.keep .str .nil))))))))) .nil)))) rfl rfl rfl (.cons rfl (RnL.fn (.cons (.ptr rfl) .nil)) (.cons rfl (RnL.fn .nil) (.cons rfl (.ptr rfl) (.cons rfl (.ptr rfl) (.cons rfl (.dat .bool) (.cons rfl (.ptr rfl) (.cons rfl (.dat (ek_TItem.rlst)) (.cons rfl (.dat .int) (.cons rfl (.dat .int) (.cons rfl (.dat .bool) .nil)))))))))))⟩
   ·intro y hC
    subst hC
    cases hb : y4
    ·have h15 := iteBF h6 hb
     refine RW.cond_f rfl (RW.skip (RW.reg (rl.run 2 rfl (rl.done ?_))))
     cases h15
     exact hB1 _ rfl _ _ (Gh.renN [0, 1, 2] (.cells rfl rfl (.keep .int .nil) (.cells rfl rfl (.keep .int (.keep .int (.keep .int (.keep .int (.keep .int (.keep .int (.keep .str (.keep .str (.keep .str .nil))))))))) (.cells rfl rfl (.keep .int (.keep .int (.keep .int (.keep .int (.keep .int (.keep .int (.keep .str (.keep .str (.keep .str .nil))))))))) .nil))) rfl rfl rfl (.cons rfl (RnL.fn (.cons (.ptr rfl) .nil)) (.cons rfl (RnL.fn .nil) (.cons rfl (.ptr rfl) (.cons rfl (.ptr rfl) (.cons rfl (.dat .bool) (.cons rfl (.dat (ek_TItem.rlst)) (.cons rfl (.dat .int) (.cons rfl (.dat .int) .nil)))))))))
    ·have h16 := iteBT h6 hb
     refine RW.cond_t rfl (RW.reg (rl.run 3 rfl (rl.done (RW.reg (rl.run 2 rfl (rl.done ?_))))))
     cases h16
     exact hB1 _ rfl _ _ (Gh.renN [0, 1, 2] (.cells rfl rfl (.keep .int .nil) (.cells rfl rfl (.keep .int (.keep .int (.keep .int (.keep .int (.keep .int (.keep .int (.keep .str (.keep .str (.keep .str .nil))))))))) (.cells rfl rfl (.keep .int (.keep .int (.keep .int (.keep .int (.keep .int (.keep .int (.keep .str (.keep .str (.keep .str .nil))))))))) .nil))) rfl rfl rfl (.cons rfl (RnL.fn (.cons (.ptr rfl) .nil)) (.cons rfl (RnL.fn .nil) (.cons rfl (.ptr rfl) (.cons rfl (.ptr rfl) (.cons rfl (.dat .bool) (.cons rfl (.dat (ek_TItem.rlst)) (.cons rfl (.dat .int) (.cons rfl (.dat .int) .nil)))))))))
 ·intro y2 hC
  subst hC
  refine RW.sreg (rl.run 4 rfl (rl.done (RW.ret ?_)))
  cases h2
  exact RRetS.mk rfl (.tup (fac (.agg (sc_TItem _ _)) (fac .bool fan))) (Gh.renN [0] (.cells rfl rfl (.keep .int .nil) .nil) rfl rfl rfl .nil)
theorem law_impl_boxThere {x0 : List TItem} {x1 : Int} {r : TItem × Bool} (hF : F_impl_boxThere x0 x1 = some r) : PCalls Try.prog 116 [L_TItem x0, .j x1] (.tup [.agg (enc_TItem true r.1), .bool r.2]) := by
 refine PCalls.of_r k_impl_boxThere rfl ?_
 unfold F_impl_boxThere at hF
 refine RW.sreg (rl.run 3 rfl (rl.done (RW.seq (RW.sreg (rl.run 2 rfl ?_)))))
 obtain ⟨v1, e1, h1⟩ := bindS hF
 refine rl.call rfl rfl rfl (CallW.embR [0] ok_impl_latest (law_impl_latest_boxThere_1_bySeq e1) (.cells rfl rfl (.keep .int .nil) .nil) rfl rfl (.cons (.dat (ek_TItem.rlst)) (.cons (RnL.fn (.cons (.ptr rfl) .nil)) (.cons (RnL.fn .nil) .nil))) (.tup (fac (.agg (sc_TItem _ _)) (fac .bool fan))) ?_)
 refine rl.run 6 rfl (rl.done (RW.sreg (rl.run 1 rfl (rl.done ?_))))
 cases hb : v1.2
 ·have h2 := iteBF h1 hb
  refine RW.cond_f rfl (RW.skip (RW.sreg (rl.run 2 rfl ?_)))
  obtain ⟨v2, e2, h3⟩ := bindS h2
  refine rl.call rfl rfl rfl (CallW.embR [0] ok_impl_latest (law_impl_latest_boxThere_2_byNext e2) (.cells rfl rfl (.keep .int .nil) .nil) rfl rfl (.cons (.dat (ek_TItem.rlst)) (.cons (RnL.fn (.cons (.ptr rfl) .nil)) (.cons (RnL.fn .nil) .nil))) (.tup (fac (.agg (sc_TItem _ _)) (fac .bool fan))) ?_)
  refine rl.run 4 rfl (rl.done ?_)
  refine RW.kp [4, 5] [(4, .ptr 1 0), (5, .bool v2.2)] [some ⟨[.j x1], 0⟩, some ⟨[.j v2.1.Seq, .j v2.1.Rec.Kind, .j v2.1.Rec.Valid, .j v2.1.Rec.Uid, .j v2.1.Rec.Next, .j v2.1.Rec.Flags, .str v2.1.Rec.User, .str v2.1.Rec.Name, .str v2.1.Rec.Text], 0⟩, some ⟨[.j v1.1.Seq, .j v1.1.Rec.Kind, .j v1.1.Rec.Valid, .j v1.1.Rec.Uid, .j v1.1.Rec.Next, .j v1.1.Rec.Flags, .str v1.1.Rec.User, .str v1.1.Rec.Name, .str v1.1.Rec.Text], 0⟩] rfl rfl ?_
  refine RW.ret ?_
  cases h3
  exact RRet.mk rfl (OutT.tup (.cons (OutL.agg (.cons .int rfl (.cons .int rfl (.cons .int rfl (.cons .int rfl (.cons .int rfl (.cons .int rfl (.cons .str rfl (.cons .str rfl (.cons .str rfl .nil)))))))))) (.cons .bool .nil))) (by first | decide | simp)
 ·have h4 := iteBT h1 hb
  refine RW.cond_t rfl (RW.sreg (rl.run 3 rfl (rl.done ?_)))
  refine RW.kp [4, 5] [(4, .ptr 1 0), (5, .bool false)] [some ⟨[.j x1], 0⟩, some ⟨[.j 0, .j 0, .j 0, .j 0, .j 0, .j 0, .str [], .str [], .str []], 0⟩, some ⟨[.j v1.1.Seq, .j v1.1.Rec.Kind, .j v1.1.Rec.Valid, .j v1.1.Rec.Uid, .j v1.1.Rec.Next, .j v1.1.Rec.Flags, .str v1.1.Rec.User, .str v1.1.Rec.Name, .str v1.1.Rec.Text], 0⟩] rfl rfl ?_
  refine RW.ret ?_
  cases h4
  exact RRet.mk rfl (OutT.tup (.cons (OutL.agg (.cons .int rfl (.cons .int rfl (.cons .int rfl (.cons .int rfl (.cons .int rfl (.cons .int rfl (.cons .str rfl (.cons .str rfl (.cons .str rfl .nil)))))))))) (.cons .bool .nil))) (by first | decide | simp)
theorem law_impl_needed_3_w {x0 : TRec} {x1 : TRec} {r : Bool} (hF : F_impl_needed_3_w x0 x1 = some r) : ACalls Try.prog 1 119 [.agg (enc_TRec false x0), .ptr 0 0] [some ⟨[.j x1.Kind, .j x1.Valid, .j x1.Uid, .j x1.Next, .j x1.Flags, .str x1.User, .str x1.Name, .str x1.Text], 0⟩] (.bool r) [some ⟨[.j x1.Kind, .j x1.Valid, .j x1.Uid, .j x1.Next, .j x1.Flags, .str x1.User, .str x1.Name, .str x1.Text], 0⟩] := by
 refine ACalls.of_s k_impl_needed_3 rfl ?_
 unfold F_impl_needed_3_w at hF
 refine RW.sreg (rl.run 2 rfl (rl.done (RW.sreg (rl.run 3 rfl ?_))))
 obtain ⟨v1, e1, h1⟩ := bindS hF
 refine rl.call rfl rfl rfl (CallW.val (r' := .bool v1) ok_impl_about (law_impl_about e1) (.cons (DFL.agg (.cons .int (.cons .int (.cons .int (.cons .int (.cons .int (.cons .str (.cons .str (.cons .str .nil))))))))) (.cons .int (.cons .int .nil))) .refl ?_)
 refine rl.run 1 rfl (rl.done (RW.ret ?_))
 cases h1
 exact RRetS.mk rfl .bool (Gh.renN [0] (.cells rfl rfl (.keep .int (.keep .int (.keep .int (.keep .int (.keep .int (.keep .str (.keep .str (.keep .str .nil)))))))) .nil) rfl rfl rfl .nil)
theorem law_impl_latest_needed_3_bySeq {x0 : List TItem} {x1 : TRec} {r : TItem × Bool} (hF : F_impl_latest_needed_3_bySeq x0 x1 = some r) : ACalls Try.prog 1 118 [L_TItem x0, .fn 119 [.ptr 0 0], .fn 121 []] [some ⟨[.j x1.Kind, .j x1.Valid, .j x1.Uid, .j x1.Next, .j x1.Flags, .str x1.User, .str x1.Name, .str x1.Text], 0⟩] (.tup [.agg (enc_TItem true r.1), .bool r.2]) [some ⟨[.j x1.Kind, .j x1.Valid, .j x1.Uid, .j x1.Next, .j x1.Flags, .str x1.User, .str x1.Name, .str x1.Text], 0⟩] := by
 refine ACalls.of_s k_impl_latest rfl ?_
 unfold F_impl_latest_needed_3_bySeq at hF
 refine RW.sreg (rl.run 2 rfl (rl.done (RW.sreg (rl.run 4 rfl (rl.done (RW.seq (RW.sreg (rl.run 3 rfl (rl.done ?_)))))))))
 obtain ⟨y7, ey7, h2⟩ := bindS hF
 refine RW.cutq (σ := Bool × Int × Int × Int × Int × Int × Int × (List UInt8) × (List UInt8) × (List UInt8)) (fun y2 => [(6, .ptr 1 0), (8, .ptr 2 0), (9, .bool y2.1)]) (fun y2 => [some ⟨[.j x1.Kind, .j x1.Valid, .j x1.Uid, .j x1.Next, .j x1.Flags, .str x1.User, .str x1.Name, .str x1.Text], 0⟩, some ⟨[.j 0, .j 0, .j 0, .j 0, .j 0, .j 0, .str [], .str [], .str []], 0⟩, some ⟨[.j y2.2.1, .j y2.2.2.1, .j y2.2.2.2.1, .j y2.2.2.2.2.1, .j y2.2.2.2.2.2.1, .j y2.2.2.2.2.2.2.1, .str y2.2.2.2.2.2.2.2.1, .str y2.2.2.2.2.2.2.2.2.1, .str y2.2.2.2.2.2.2.2.2.2], 0⟩]) (fun y => y7 = y) (fun _ _ _ _ g h => RW.gh g h) ?_ ?_
 ·refine RW.blk ?_
  refine RW.iter (σ := Bool × Int × Int × Int × Int × Int × Int × Int × (List UInt8) × (List UInt8) × (List UInt8)) ey7 (fun s1 => [(1, .fn 119 [.ptr 0 0]), (2, .fn 121 []), (6, .ptr 1 0), (8, .ptr 2 0), (9, .bool s1.1), (13, L_TItem x0), (14, .j (x0.length : Int)), (15, .j s1.2.1)]) (fun s1 => [some ⟨[.j x1.Kind, .j x1.Valid, .j x1.Uid, .j x1.Next, .j x1.Flags, .str x1.User, .str x1.Name, .str x1.Text], 0⟩, some ⟨[.j 0, .j 0, .j 0, .j 0, .j 0, .j 0, .str [], .str [], .str []], 0⟩, some ⟨[.j s1.2.2.1, .j s1.2.2.2.1, .j s1.2.2.2.2.1, .j s1.2.2.2.2.2.1, .j s1.2.2.2.2.2.2.1, .j s1.2.2.2.2.2.2.2.1, .str s1.2.2.2.2.2.2.2.2.1, .str s1.2.2.2.2.2.2.2.2.2.1, .str s1.2.2.2.2.2.2.2.2.2.2], 0⟩]) (Gh.renN [0, 1, 2] (.cells rfl rfl (.keep .int (.keep .int (.keep .int (.keep .int (.keep .int (.keep .str (.keep .str (.keep .str .nil)))))))) (.cells rfl rfl (.keep .int (.keep .int (.keep .int (.keep .int (.keep .int (.keep .int (.keep .str (.keep .str (.keep .str .nil))))))))) (.cells rfl rfl (.keep .int (.keep .int (.keep .int (.keep .int (.keep .int (.keep .int (.keep .str (.keep .str (.keep .str .nil))))))))) .nil))) rfl rfl rfl (.cons rfl (RnL.fn (.cons (.ptr rfl) .nil)) (.cons rfl (RnL.fn .nil) (.cons rfl (.ptr rfl) (.cons rfl (.ptr rfl) (.cons rfl (.dat .bool) (.cons rfl (.dat (ek_TItem.rlst)) (.cons rfl (.dat .int) (.cons rfl (.dat .int) .nil))))))))) (fun s1 B o hS1 hB1 hE1 => ?_)
  unfold S_impl_latest_needed_3_bySeq_1 at hS1
  refine RW.sreg ?_
  refine rl.gen rfl rfl fun b hb => ?_
  cases b
  ·have h3 := iteBF hS1 hb
   refine rl.done (RW.seq (RW.cond_f rfl (RW.exit (blkA_eq ?_))))
   cases h3
   exact ⟨_, (hE1 _ rfl).symm, (Gh.renN [0, 1, 2] (.cells rfl rfl (.keep .int (.keep .int (.keep .int (.keep .int (.keep .int (.keep .str (.keep .str (.keep .str .nil)))))))) (.cells rfl rfl (.keep .int (.keep .int (.keep .int (.keep .int (.keep .int (.keep .int (.keep .str (.keep .str (.keep .str .nil))))))))) (.cells rfl rfl (.keep .int (.keep .int (.keep .int (.keep .int (.keep .int (.keep .int (.keep .str (.keep .str (.keep .str .nil))))))))) .nil))) rfl rfl rfl (.cons rfl (.ptr rfl) (.cons rfl (.ptr rfl) (.cons rfl (.dat .bool) .nil))))⟩
  ·have h4 := iteBT hS1 hb
   refine rl.done (RW.seq (RW.cond_t rfl (RW.skip (RW.seq (RW.blk (RW.sreg ?_))))))
   obtain ⟨v3, e3, h5⟩ := bindS h4
   refine rl.op (x_ia_lst (enc := enc_TItem) (o := false) rfl rfl rfl e3) ?_
   refine rl.op (x_ld_ela (off' := 0) (vs := (enc_TItem false v3)) ek_TItem rfl e3 rfl rfl rfl) ?_
   refine rl.run 2 rfl (rl.done (RW.seq ?_))
   obtain ⟨y4, ey4, h6⟩ := bindS h5
   refine RW.cutq (σ := Bool) (fun y4 => [(1, .fn 119 [.ptr 0 0]), (2, .fn 121 []), (6, .ptr 1 0), (8, .ptr 2 0), (9, .bool s1.1), (11, .ptr 3 0), (13, L_TItem x0), (14, .j (x0.length : Int)), (15, .j s1.2.1), (32, .bool y4)]) (fun y4 => [some ⟨[.j x1.Kind, .j x1.Valid, .j x1.Uid, .j x1.Next, .j x1.Flags, .str x1.User, .str x1.Name, .str x1.Text], 0⟩, some ⟨[.j 0, .j 0, .j 0, .j 0, .j 0, .j 0, .str [], .str [], .str []], 0⟩, some ⟨[.j s1.2.2.1, .j s1.2.2.2.1, .j s1.2.2.2.2.1, .j s1.2.2.2.2.2.1, .j s1.2.2.2.2.2.2.1, .j s1.2.2.2.2.2.2.2.1, .str s1.2.2.2.2.2.2.2.2.1, .str s1.2.2.2.2.2.2.2.2.2.1, .str s1.2.2.2.2.2.2.2.2.2.2], 0⟩, some ⟨[.j v3.Seq, .j v3.Rec.Kind, .j v3.Rec.Valid, .j v3.Rec.Uid, .j v3.Rec.Next, .j v3.Rec.Flags, .str v3.Rec.User, .str v3.Rec.Name, .str v3.Rec.Text], 0⟩]) (fun y => y4 = y) (fun _ _ _ _ g h => RW.gh g h) ?_ ?_
   ·refine RW.reg ?_
    refine rl.run 3 rfl ?_
    obtain ⟨v5, e5, h7⟩ := bindS ey4
    refine rl.call rfl rfl rfl (CallW.embR [0] ok_impl_needed_3 (law_impl_needed_3_w e5) (.cells rfl rfl (.keep .int (.keep .int (.keep .int (.keep .int (.keep .int (.keep .str (.keep .str (.keep .str .nil)))))))) .nil) rfl rfl (.cons (RnL.agg (.cons (.dat .int) (.cons (.dat .int) (.cons (.dat .int) (.cons (.dat .int) (.cons (.dat .int) (.cons (.dat .str) (.cons (.dat .str) (.cons (.dat .str) .nil))))))))) (.cons (.ptr rfl) .nil)) .bool ?_)
    cases hb : v5
    ·have h8 := iteBF h7 hb
     refine rl.run 10 rfl (rl.done ?_)
     cases h8
     exact ⟨_, rfl, (Gh.renN [0, 1, 2, 3] (.cells rfl rfl (.keep .int (.keep .int (.keep .int (.keep .int (.keep .int (.keep .str (.keep .str (.keep .str .nil)))))))) (.cells rfl rfl (.keep .int (.keep .int (.keep .int (.keep .int (.keep .int (.keep .int (.keep .str (.keep .str (.keep .str .nil))))))))) (.cells rfl rfl (.keep .int (.keep .int (.keep .int (.keep .int (.keep .int (.keep .int (.keep .str (.keep .str (.keep .str .nil))))))))) (.cells rfl rfl (.keep .int (.keep .int (.keep .int (.keep .int (.keep .int (.keep .int (.keep .str (.keep .str (.keep .str .nil))))))))) .nil)))) rfl rfl rfl (.cons rfl (RnL.fn (.cons (.ptr rfl) .nil)) (.cons rfl (RnL.fn .nil) (.cons rfl (.ptr rfl) (.cons rfl (.ptr rfl) (.cons rfl (.dat .bool) (.cons rfl (.ptr rfl) (.cons rfl (.dat (ek_TItem.rlst)) (.cons rfl (.dat .int) (.cons rfl (.dat .int) (.cons rfl (.dat .bool) .nil)))))))))))⟩
    ·have h9 := iteBT h7 hb
     refine rl.run 4 rfl ?_
     cases hb : (!s1.1)
     ·have h10 := iteBF h9 hb
      refine rl.run 3 rfl ?_
      obtain ⟨v6, e6, h11⟩ := bindS h10
      refine rl.call rfl rfl rfl (CallW.val (r' := .bool v6) ok_impl_bySeq (law_impl_bySeq e6) (.cons (DFL.agg (.cons .int (.cons .int (.cons .int (.cons .int (.cons .int (.cons .int (.cons .str (.cons .str (.cons .str .nil)))))))))) (.cons (DFL.agg (.cons .int (.cons .int (.cons .int (.cons .int (.cons .int (.cons .int (.cons .str (.cons .str (.cons .str .nil)))))))))) .nil)) .refl ?_)
      cases hb : v6
      ·have h12 := iteBF h11 hb
       refine rl.run 2 rfl (rl.done ?_)
       cases h12
       exact ⟨_, rfl, (Gh.renN [0, 1, 2, 3] (.cells rfl rfl (.keep .int (.keep .int (.keep .int (.keep .int (.keep .int (.keep .str (.keep .str (.keep .str .nil)))))))) (.cells rfl rfl (.keep .int (.keep .int (.keep .int (.keep .int (.keep .int (.keep .int (.keep .str (.keep .str (.keep .str .nil))))))))) (.cells rfl rfl (.keep .int (.keep .int (.keep .int (.keep .int (.keep .int (.keep .int (.keep .str (.keep .str (.keep .str .nil))))))))) (.cells rfl rfl (.keep .int (.keep .int (.keep .int (.keep .int (.keep .int (.keep .int (.keep .str (.keep .str (.keep .str .nil))))))))) .nil)))) rfl rfl rfl (.cons rfl (RnL.fn (.cons (.ptr rfl) .nil)) (.cons rfl (RnL.fn .nil) (.cons rfl (.ptr rfl) (.cons rfl (.ptr rfl) (.cons rfl (.dat .bool) (.cons rfl (.ptr rfl) (.cons rfl (.dat (ek_TItem.rlst)) (.cons rfl (.dat .int) (.cons rfl (.dat .int) (.cons rfl (.dat .bool) .nil)))))))))))⟩
      ·have h13 := iteBT h11 hb
       refine rl.run 2 rfl (rl.done ?_)
       cases h13
       exact ⟨_, rfl, (Gh.renN [0, 1, 2, 3] (.cells rfl rfl (.keep .int (.keep .int (.keep .int (.keep .int (.keep .int (.keep .str (.keep .str (.keep .str .nil)))))))) (.cells rfl rfl (.keep .int (.keep .int (.keep .int (.keep .int (.keep .int (.keep .int (.keep .str (.keep .str (.keep .str .nil))))))))) (.cells rfl rfl (.keep .int (.keep .int (.keep .int (.keep .int (.keep .int (.keep .int (.keep .str (.keep .str (.keep .str .nil))))))))) (.cells rfl rfl (.keep .int (.keep .int (.keep .int (.keep .int (.keep .int (.keep .int (.keep .str (.keep .str (.keep .str .nil))))))))) .nil)))) rfl rfl rfl (.cons rfl (RnL.fn (.cons (.ptr rfl) .nil)) (.cons rfl (RnL.fn .nil) (.cons rfl (.ptr rfl) (.cons rfl (.ptr rfl) (.cons rfl (.dat .bool) (.cons rfl (.ptr rfl) (.cons rfl (.dat (ek_TItem.rlst)) (.cons rfl (.dat .int) (.cons rfl (.dat .int) (.cons rfl (.dat .bool) .nil)))))))))))⟩
     ·have h14 := iteBT h9 hb
      refine rl.run 6 rfl (rl.done ?_)
      cases h14
      exact ⟨_, rfl, (Gh.renN [0, 1, 2, 3] (.cells rfl rfl (.keep .int (.keep .int (.keep .int (.keep .int (.keep .int (.keep .str (.keep .str (.keep .str .nil)))))))) (.cells rfl rfl (.keep .int (.keep .int (.keep .int (.keep .int (.keep .int (.keep .int (.keep .str (.keep .str (.keep .str .nil))))))))) (.cells rfl rfl (.keep .int (.keep .int (.keep .int (.keep .int (.keep .int (.keep .int (.keep .str (.keep .str (.keep .str .nil))))))))) (.cells rfl rfl (.keep .int (.keep .int (.keep .int (.keep .int (.keep .int (.keep .int (.keep .str (.keep .str (.keep .str .nil))))))))) .nil)))) rfl rfl rfl (.cons rfl (RnL.fn (.cons (.ptr rfl) .nil)) (.cons rfl (RnL.fn .nil) (.cons rfl (.ptr rfl) (.cons rfl (.ptr rfl) (.cons rfl (.dat .bool) (.cons rfl (.ptr rfl) (.cons rfl (.dat (ek_TItem.rlst)) (.cons rfl (.dat .int) (.cons rfl (.dat .int) (.cons rfl (.dat .bool) .nil)))))))))))⟩
   ·intro y hC
    subst hC
    cases hb : y4
    ·have h15 := iteBF h6 hb
     refine RW.cond_f rfl (RW.skip (RW.reg (rl.run 2 rfl (rl.done ?_))))
     cases h15
     exact hB1 _ rfl _ _ (Gh.renN [0, 1, 2] (.cells rfl rfl (.keep .int (.keep .int (.keep .int (.keep .int (.keep .int (.keep .str (.keep .str (.keep .str .nil)))))))) (.cells rfl rfl (.keep .int (.keep .int (.keep .int (.keep .int (.keep .int (.keep .int (.keep .str (.keep .str (.keep .str .nil))))))))) (.cells rfl rfl (.keep .int (.keep .int (.keep .int (.keep .int (.keep .int (.keep .int (.keep .str (.keep .str (.keep .str .nil))))))))) .nil))) rfl rfl rfl (.cons rfl (RnL.fn (.cons (.ptr rfl) .nil)) (.cons rfl (RnL.fn .nil) (.cons rfl (.ptr rfl) (.cons rfl (.ptr rfl) (.cons rfl (.dat .bool) (.cons rfl (.dat (ek_TItem.rlst)) (.cons rfl (.dat .int) (.cons rfl (.dat .int) .nil)))))))))
    ·have h16 := iteBT h6 hb
     refine RW.cond_t rfl (RW.reg (rl.run 3 rfl (rl.done (RW.reg (rl.run 2 rfl (rl.done ?_))))))
     cases h16
     exact hB1 _ rfl _ _ (Gh.renN [0, 1, 2] (.cells rfl rfl (.keep .int (.keep .int (.keep .int (.keep .int (.keep .int (.keep .str (.keep .str (.keep .str .nil)))))))) (.cells rfl rfl (.keep .int (.keep .int (.keep .int (.keep .int (.keep .int (.keep .int (.keep .str (.keep .str (.keep .str .nil))))))))) (.cells rfl rfl (.keep .int (.keep .int (.keep .int (.keep .int (.keep .int (.keep .int (.keep .str (.keep .str (.keep .str .nil))))))))) .nil))) rfl rfl rfl (.cons rfl (RnL.fn (.cons (.ptr rfl) .nil)) (.cons rfl (RnL.fn .nil) (.cons rfl (.ptr rfl) (.cons rfl (.ptr rfl) (.cons rfl (.dat .bool) (.cons rfl (.dat (ek_TItem.rlst)) (.cons rfl (.dat .int) (.cons rfl (.dat .int) .nil)))))))))
 ·intro y2 hC
  subst hC
  refine RW.sreg (rl.run 4 rfl (rl.done (RW.ret ?_)))
  cases h2
  exact RRetS.mk rfl (.tup (fac (.agg (sc_TItem _ _)) (fac .bool fan))) (Gh.renN [0] (.cells rfl rfl (.keep .int (.keep .int (.keep .int (.keep .int (.keep .int (.keep .str (.keep .str (.keep .str .nil)))))))) .nil) rfl rfl rfl .nil)
theorem law_impl_mailItem_1_w {x0 : TRec} {x1 : Int} {x2 : Int} {x3 : Int} {r : Bool} (hF : F_impl_mailItem_1_w x0 x1 x2 x3 = some r) : ACalls Try.prog 3 153 [.agg (enc_TRec false x0), .ptr 0 0, .ptr 1 0, .ptr 2 0] [some ⟨[.j x1], 0⟩, some ⟨[.j x2], 0⟩, some ⟨[.j x3], 0⟩] (.bool r) [some ⟨[.j x1], 0⟩, some ⟨[.j x2], 0⟩, some ⟨[.j x3], 0⟩] := by
 refine ACalls.of_s k_impl_mailItem_1 rfl ?_
 unfold F_impl_mailItem_1_w at hF
 refine RW.sreg (rl.run 2 rfl (rl.done (RW.sreg (rl.run 3 rfl ?_))))
 obtain ⟨v1, e1, h1⟩ := bindS hF
 refine rl.call rfl rfl rfl (CallW.val (r' := .bool v1) ok_impl_about (law_impl_about e1) (.cons (DFL.agg (.cons .int (.cons .int (.cons .int (.cons .int (.cons .int (.cons .str (.cons .str (.cons .str .nil))))))))) (.cons .int (.cons .int .nil))) .refl ?_)
 cases hb : v1
 ·have h2 := iteBF h1 hb
  refine rl.run 7 rfl (rl.done ?_)
  refine RW.kp [5] [(5, .bool false)] [some ⟨[.j x1], 0⟩, some ⟨[.j x2], 0⟩, some ⟨[.j x3], 0⟩, some ⟨[.j x0.Kind, .j x0.Valid, .j x0.Uid, .j x0.Next, .j x0.Flags, .str x0.User, .str x0.Name, .str x0.Text], 0⟩] rfl rfl ?_
  refine RW.ret ?_
  cases h2
  exact RRetS.mk rfl .bool (Gh.renN [0, 1, 2] (.cells rfl rfl (.keep .int .nil) (.cells rfl rfl (.keep .int .nil) (.cells rfl rfl (.keep .int .nil) .nil))) rfl rfl rfl .nil)
 ·have h3 := iteBT h1 hb
  refine rl.run 7 rfl (rl.done ?_)
  refine RW.kp [5] [(5, .bool (x0.Uid == x3))] [some ⟨[.j x1], 0⟩, some ⟨[.j x2], 0⟩, some ⟨[.j x3], 0⟩, some ⟨[.j x0.Kind, .j x0.Valid, .j x0.Uid, .j x0.Next, .j x0.Flags, .str x0.User, .str x0.Name, .str x0.Text], 0⟩] rfl rfl ?_
  refine RW.ret ?_
  cases h3
  exact RRetS.mk rfl .bool (Gh.renN [0, 1, 2] (.cells rfl rfl (.keep .int .nil) (.cells rfl rfl (.keep .int .nil) (.cells rfl rfl (.keep .int .nil) .nil))) rfl rfl rfl .nil)
theorem law_impl_latest_mailItem_1_bySeq {x0 : List TItem} {x1 : Int} {x2 : Int} {x3 : Int} {r : TItem × Bool} (hF : F_impl_latest_mailItem_1_bySeq x0 x1 x2 x3 = some r) : ACalls Try.prog 3 118 [L_TItem x0, .fn 153 [.ptr 0 0, .ptr 1 0, .ptr 2 0], .fn 121 []] [some ⟨[.j x1], 0⟩, some ⟨[.j x2], 0⟩, some ⟨[.j x3], 0⟩] (.tup [.agg (enc_TItem true r.1), .bool r.2]) [some ⟨[.j x1], 0⟩, some ⟨[.j x2], 0⟩, some ⟨[.j x3], 0⟩] := by
 refine ACalls.of_s k_impl_latest rfl ?_
 unfold F_impl_latest_mailItem_1_bySeq at hF
 refine RW.sreg (rl.run 2 rfl (rl.done (RW.sreg (rl.run 4 rfl (rl.done (RW.seq (RW.sreg (rl.run 3 rfl (rl.done ?_)))))))))
 obtain ⟨y7, ey7, h2⟩ := bindS hF
 refine RW.cutq (σ := Bool × Int × Int × Int × Int × Int × Int × (List UInt8) × (List UInt8) × (List UInt8)) (fun y2 => [(6, .ptr 3 0), (8, .ptr 4 0), (9, .bool y2.1)]) (fun y2 => [some ⟨[.j x1], 0⟩, some ⟨[.j x2], 0⟩, some ⟨[.j x3], 0⟩, some ⟨[.j 0, .j 0, .j 0, .j 0, .j 0, .j 0, .str [], .str [], .str []], 0⟩, some ⟨[.j y2.2.1, .j y2.2.2.1, .j y2.2.2.2.1, .j y2.2.2.2.2.1, .j y2.2.2.2.2.2.1, .j y2.2.2.2.2.2.2.1, .str y2.2.2.2.2.2.2.2.1, .str y2.2.2.2.2.2.2.2.2.1, .str y2.2.2.2.2.2.2.2.2.2], 0⟩]) (fun y => y7 = y) (fun _ _ _ _ g h => RW.gh g h) ?_ ?_
 ·refine RW.blk ?_
  refine RW.iter (σ := Bool × Int × Int × Int × Int × Int × Int × Int × (List UInt8) × (List UInt8) × (List UInt8)) ey7 (fun s1 => [(1, .fn 153 [.ptr 0 0, .ptr 1 0, .ptr 2 0]), (2, .fn 121 []), (6, .ptr 3 0), (8, .ptr 4 0), (9, .bool s1.1), (13, L_TItem x0), (14, .j (x0.length : Int)), (15, .j s1.2.1)]) (fun s1 => [some ⟨[.j x1], 0⟩, some ⟨[.j x2], 0⟩, some ⟨[.j x3], 0⟩, some ⟨[.j 0, .j 0, .j 0, .j 0, .j 0, .j 0, .str [], .str [], .str []], 0⟩, some ⟨[.j s1.2.2.1, .j s1.2.2.2.1, .j s1.2.2.2.2.1, .j s1.2.2.2.2.2.1, .j s1.2.2.2.2.2.2.1, .j s1.2.2.2.2.2.2.2.1, .str s1.2.2.2.2.2.2.2.2.1, .str s1.2.2.2.2.2.2.2.2.2.1, .str s1.2.2.2.2.2.2.2.2.2.2], 0⟩]) (Gh.renN [0, 1, 2, 3, 4] (.cells rfl rfl (.keep .int .nil) (.cells rfl rfl (.keep .int .nil) (.cells rfl rfl (.keep .int .nil) (.cells rfl rfl (.keep .int (.keep .int (.keep .int (.keep .int (.keep .int (.keep .int (.keep .str (.keep .str (.keep .str .nil))))))))) (.cells rfl rfl (.keep .int (.keep .int (.keep .int (.keep .int (.keep .int (.keep .int (.keep .str (.keep .str (.keep .str .nil))))))))) .nil))))) rfl rfl rfl (.cons rfl (RnL.fn (.cons (.ptr rfl) (.cons (.ptr rfl) (.cons (.ptr rfl) .nil)))) (.cons rfl (RnL.fn .nil) (.cons rfl (.ptr rfl) (.cons rfl (.ptr rfl) (.cons rfl (.dat .bool) (.cons rfl (.dat (ek_TItem.rlst)) (.cons rfl (.dat .int) (.cons rfl (.dat .int) .nil))))))))) (fun s1 B o hS1 hB1 hE1 => ?_)
  unfold S_impl_latest_mailItem_1_bySeq_1 at hS1
  refine RW.sreg ?_
  refine rl.gen rfl rfl fun b hb => ?_
  cases b
  ·have h3 := iteBF hS1 hb
   refine rl.done (RW.seq (RW.cond_f rfl (RW.exit (blkA_eq ?_))))
   cases h3
   exact ⟨_, (hE1 _ rfl).symm, (Gh.renN [0, 1, 2, 3, 4] (.cells rfl rfl (.keep .int .nil) (.cells rfl rfl (.keep .int .nil) (.cells rfl rfl (.keep .int .nil) (.cells rfl rfl (.keep .int (.keep .int (.keep .int (.keep .int (.keep .int (.keep .int (.keep .str (.keep .str (.keep .str .nil))))))))) (.cells rfl rfl (.keep .int (.keep .int (.keep .int (.keep .int (.keep .int (.keep .int (.keep .str (.keep .str (.keep .str .nil))))))))) .nil))))) rfl rfl rfl (.cons rfl (.ptr rfl) (.cons rfl (.ptr rfl) (.cons rfl (.dat .bool) .nil))))⟩
  ·have h4 := iteBT hS1 hb
   refine rl.done (RW.seq (RW.cond_t rfl (RW.skip (RW.seq (RW.blk (RW.sreg ?_))))))
   obtain ⟨v3, e3, h5⟩ := bindS h4
   refine rl.op (x_ia_lst (enc := enc_TItem) (o := false) rfl rfl rfl e3) ?_
   refine rl.op (x_ld_ela (off' := 0) (vs := (enc_TItem false v3)) ek_TItem rfl e3 rfl rfl rfl) ?_
   refine rl.run 2 rfl (rl.done (RW.seq ?_))
   obtain ⟨y4, ey4, h6⟩ := bindS h5
   refine RW.cutq (σ := Bool) (fun y4 => [(1, .fn 153 [.ptr 0 0, .ptr 1 0, .ptr 2 0]), (2, .fn 121 []), (6, .ptr 3 0), (8, .ptr 4 0), (9, .bool s1.1), (11, .ptr 5 0), (13, L_TItem x0), (14, .j (x0.length : Int)), (15, .j s1.2.1), (32, .bool y4)]) (fun y4 => [some ⟨[.j x1], 0⟩, some ⟨[.j x2], 0⟩, some ⟨[.j x3], 0⟩, some ⟨[.j 0, .j 0, .j 0, .j 0, .j 0, .j 0, .str [], .str [], .str []], 0⟩, some ⟨[.j s1.2.2.1, .j s1.2.2.2.1, .j s1.2.2.2.2.1, .j s1.2.2.2.2.2.1, .j s1.2.2.2.2.2.2.1, .j s1.2.2.2.2.2.2.2.1, .str s1.2.2.2.2.2.2.2.2.1, .str s1.2.2.2.2.2.2.2.2.2.1, .str s1.2.2.2.2.2.2.2.2.2.2], 0⟩, some ⟨[.j v3.Seq, .j v3.Rec.Kind, .j v3.Rec.Valid, .j v3.Rec.Uid, .j v3.Rec.Next, .j v3.Rec.Flags, .str v3.Rec.User, .str v3.Rec.Name, .str v3.Rec.Text], 0⟩]) (fun y => y4 = y) (fun _ _ _ _ g h => RW.gh g h) ?_ ?_
   ·refine RW.reg ?_
    refine rl.run 3 rfl ?_
    obtain ⟨v5, e5, h7⟩ := bindS ey4
    refine rl.call rfl rfl rfl (CallW.embR [0, 1, 2] ok_impl_mailItem_1 (law_impl_mailItem_1_w e5) (.cells rfl rfl (.keep .int .nil) (.cells rfl rfl (.keep .int .nil) (.cells rfl rfl (.keep .int .nil) .nil))) rfl rfl (.cons (RnL.agg (.cons (.dat .int) (.cons (.dat .int) (.cons (.dat .int) (.cons (.dat .int) (.cons (.dat .int) (.cons (.dat .str) (.cons (.dat .str) (.cons (.dat .str) .nil))))))))) (.cons (.ptr rfl) (.cons (.ptr rfl) (.cons (.ptr rfl) .nil)))) .bool ?_)
    cases hb : v5
    ·have h8 := iteBF h7 hb
     refine rl.run 10 rfl (rl.done ?_)
     cases h8
     exact ⟨_, rfl, (Gh.renN [0, 1, 2, 3, 4, 5] (.cells rfl rfl (.keep .int .nil) (.cells rfl rfl (.keep .int .nil) (.cells rfl rfl (.keep .int .nil) (.cells rfl rfl (.keep .int (.keep .int (.keep .int (.keep .int (.keep .int (.keep .int (.keep .str (.keep .str (.keep .str .nil))))))))) (.cells rfl rfl (.keep .int (.keep .int (.keep .int (.keep .int (.keep .int (.keep .int (.keep .str (.keep .str (.keep .str .nil))))))))) (.cells rfl rfl (.keep .int (.keep .int (.keep .int (.keep .int (.keep .int (.keep .int (.keep .str (.keep .str (.keep .str .nil))))))))) .nil)))))) rfl rfl rfl (.cons rfl (RnL.fn (.cons (.ptr rfl) (.cons (.ptr rfl) (.cons (.ptr rfl) .nil)))) (.cons rfl (RnL.fn .nil) (.cons rfl (.ptr rfl) (.cons rfl (.ptr rfl) (.cons rfl (.dat .bool) (.cons rfl (.ptr rfl) (.cons rfl (.dat (ek_TItem.rlst)) (.cons rfl (.dat .int) (.cons rfl (.dat .int) (.cons rfl (.dat .bool) .nil)))))))))))⟩
    ·have h9 := iteBT h7 hb
     refine rl.run 4 rfl ?_
     cases hb : (!s1.1)
     ·have h10 := iteBF h9 hb
      refine rl.run 3 rfl ?_
      obtain ⟨v6, e6, h11⟩ := bindS h10
      refine rl.call rfl rfl rfl (CallW.val (r' := .bool v6) ok_impl_bySeq (law_impl_bySeq e6) (.cons (DFL.agg (.cons .int (.cons .int (.cons .int (.cons .int (.cons .int (.cons .int (.cons .str (.cons .str (.cons .str .nil)))))))))) (.cons (DFL.agg (.cons .int (.cons .int (.cons .int (.cons .int (.cons .int (.cons .int (.cons .str (.cons .str (.cons .str .nil)))))))))) .nil)) .refl ?_)
      cases hb : v6
      ·have h12 := iteBF h11 hb
       refine rl.run 2 rfl (rl.done ?_)
       cases h12
       exact ⟨_, rfl, (Gh.renN [0, 1, 2, 3, 4, 5] (.cells rfl rfl (.keep .int .nil) (.cells rfl rfl (.keep .int .nil) (.cells rfl rfl (.keep .int .nil) (.cells rfl rfl (.keep .int (.keep .int (.keep .int (.keep .int (.keep .int (.keep .int (.keep .str (.keep .str (.keep .str .nil))))))))) (.cells rfl rfl (.keep .int (.keep .int (.keep .int (.keep .int (.keep .int (.keep .int (.keep .str (.keep .str (.keep .str .nil))))))))) (.cells rfl rfl (.keep .int (.keep .int (.keep .int (.keep .int (.keep .int (.keep .int (.keep .str (.keep .str (.keep .str .nil))))))))) .nil)))))) rfl rfl rfl (.cons rfl (RnL.fn (.cons (.ptr rfl) (.cons (.ptr rfl) (.cons (.ptr rfl) .nil)))) (.cons rfl (RnL.fn .nil) (.cons rfl (.ptr rfl) (.cons rfl (.ptr rfl) (.cons rfl (.dat .bool) (.cons rfl (.ptr rfl) (.cons rfl (.dat (ek_TItem.rlst)) (.cons rfl (.dat .int) (.cons rfl (.dat .int) (.cons rfl (.dat .bool) .nil)))))))))))⟩
      ·have h13 := iteBT h11 hb
       refine rl.run 2 rfl (rl.done ?_)
       cases h13
       exact ⟨_, rfl, (Gh.renN [0, 1, 2, 3, 4, 5] (.cells rfl rfl (.keep .int .nil) (.cells rfl rfl (.keep .int .nil) (.cells rfl rfl (.keep .int .nil) (.cells rfl rfl (.keep .int (.keep .int (.keep .int (.keep .int (.keep .int (.keep .int (.keep .str (.keep .str (.keep .str .nil))))))))) (.cells rfl rfl (.keep .int (.keep .int (.keep .int (.keep .int (.keep .int (.keep .int (.keep .str (.keep .str (.keep .str .nil))))))))) (.cells rfl rfl (.keep .int (.keep .int (.keep .int (.keep .int (.keep .int (.keep .int (.keep .str (.keep .str (.keep .str .nil))))))))) .nil)))))) rfl rfl rfl (.cons rfl (RnL.fn (.cons (.ptr rfl) (.cons (.ptr rfl) (.cons (.ptr rfl) .nil)))) (.cons rfl (RnL.fn .nil) (.cons rfl (.ptr rfl) (.cons rfl (.ptr rfl) (.cons rfl (.dat .bool) (.cons rfl (.ptr rfl) (.cons rfl (.dat (ek_TItem.rlst)) (.cons rfl (.dat .int) (.cons rfl (.dat .int) (.cons rfl (.dat .bool) .nil)))))))))))⟩
     ·have h14 := iteBT h9 hb
      refine rl.run 6 rfl (rl.done ?_)
      cases h14
      exact ⟨_, rfl, (Gh.renN [0, 1, 2, 3, 4, 5] (.cells rfl rfl (.keep .int .nil) (.cells rfl rfl (.keep .int .nil) (.cells rfl rfl (.keep .int .nil) (.cells rfl rfl (.keep .int (.keep .int (.keep .int (.keep .int (.keep .int (.keep .int (.keep .str (.keep .str (.keep .str .nil))))))))) (.cells rfl rfl (.keep .int (.keep .int (.keep .int (.keep .int (.keep .int (.keep .int (.keep .str (.keep .str (.keep .str .nil))))))))) (.cells rfl rfl (.keep .int (.keep .int (.keep .int (.keep .int (.keep .int (.keep .int (.keep .str (.keep .str (.keep .str .nil))))))))) .nil)))))) rfl rfl rfl (.cons rfl (RnL.fn (.cons (.ptr rfl) (.cons (.ptr rfl) (.cons (.ptr rfl) .nil)))) (.cons rfl (RnL.fn .nil) (.cons rfl (.ptr rfl) (.cons rfl (.ptr rfl) (.cons rfl (.dat .bool) (.cons rfl (.ptr rfl) (.cons rfl (.dat (ek_TItem.rlst)) (.cons rfl (.dat .int) (.cons rfl (.dat .int) (.cons rfl (.dat .bool) .nil)))))))))))⟩
   ·intro y hC
    subst hC
    cases hb : y4
    ·have h15 := iteBF h6 hb
     refine RW.cond_f rfl (RW.skip (RW.reg (rl.run 2 rfl (rl.done ?_))))
     cases h15
     exact hB1 _ rfl _ _ (Gh.renN [0, 1, 2, 3, 4] (.cells rfl rfl (.keep .int .nil) (.cells rfl rfl (.keep .int .nil) (.cells rfl rfl (.keep .int .nil) (.cells rfl rfl (.keep .int (.keep .int (.keep .int (.keep .int (.keep .int (.keep .int (.keep .str (.keep .str (.keep .str .nil))))))))) (.cells rfl rfl (.keep .int (.keep .int (.keep .int (.keep .int (.keep .int (.keep .int (.keep .str (.keep .str (.keep .str .nil))))))))) .nil))))) rfl rfl rfl (.cons rfl (RnL.fn (.cons (.ptr rfl) (.cons (.ptr rfl) (.cons (.ptr rfl) .nil)))) (.cons rfl (RnL.fn .nil) (.cons rfl (.ptr rfl) (.cons rfl (.ptr rfl) (.cons rfl (.dat .bool) (.cons rfl (.dat (ek_TItem.rlst)) (.cons rfl (.dat .int) (.cons rfl (.dat .int) .nil)))))))))
    ·have h16 := iteBT h6 hb
     refine RW.cond_t rfl (RW.reg (rl.run 3 rfl (rl.done (RW.reg (rl.run 2 rfl (rl.done ?_))))))
     cases h16
     exact hB1 _ rfl _ _ (Gh.renN [0, 1, 2, 3, 4] (.cells rfl rfl (.keep .int .nil) (.cells rfl rfl (.keep .int .nil) (.cells rfl rfl (.keep .int .nil) (.cells rfl rfl (.keep .int (.keep .int (.keep .int (.keep .int (.keep .int (.keep .int (.keep .str (.keep .str (.keep .str .nil))))))))) (.cells rfl rfl (.keep .int (.keep .int (.keep .int (.keep .int (.keep .int (.keep .int (.keep .str (.keep .str (.keep .str .nil))))))))) .nil))))) rfl rfl rfl (.cons rfl (RnL.fn (.cons (.ptr rfl) (.cons (.ptr rfl) (.cons (.ptr rfl) .nil)))) (.cons rfl (RnL.fn .nil) (.cons rfl (.ptr rfl) (.cons rfl (.ptr rfl) (.cons rfl (.dat .bool) (.cons rfl (.dat (ek_TItem.rlst)) (.cons rfl (.dat .int) (.cons rfl (.dat .int) .nil)))))))))
 ·intro y2 hC
  subst hC
  refine RW.sreg (rl.run 4 rfl (rl.done (RW.ret ?_)))
  cases h2
  exact RRetS.mk rfl (.tup (fac (.agg (sc_TItem _ _)) (fac .bool fan))) (Gh.renN [0, 1, 2] (.cells rfl rfl (.keep .int .nil) (.cells rfl rfl (.keep .int .nil) (.cells rfl rfl (.keep .int .nil) .nil))) rfl rfl rfl .nil)
theorem law_impl_mailItem {x0 : List TItem} {x1 : Int} {x2 : Int} {x3 : Int} {r : TItem × Bool} (hF : F_impl_mailItem x0 x1 x2 x3 = some r) : PCalls Try.prog 123 [L_TItem x0, .j x1, .j x2, .j x3] (.tup [.agg (enc_TItem true r.1), .bool r.2]) := by
 refine PCalls.of_r k_impl_mailItem rfl ?_
 unfold F_impl_mailItem at hF
 refine RW.sreg (rl.run 5 rfl (rl.done (RW.sreg (rl.run 2 rfl ?_))))
 obtain ⟨v1, e1, h1⟩ := bindS hF
 refine rl.call rfl rfl rfl (CallW.embR [0, 1, 2] ok_impl_latest (law_impl_latest_mailItem_1_bySeq e1) (.cells rfl rfl (.keep .int .nil) (.cells rfl rfl (.keep .int .nil) (.cells rfl rfl (.keep .int .nil) .nil))) rfl rfl (.cons (.dat (ek_TItem.rlst)) (.cons (RnL.fn (.cons (.ptr rfl) (.cons (.ptr rfl) (.cons (.ptr rfl) .nil)))) (.cons (RnL.fn .nil) .nil))) (.tup (fac (.agg (sc_TItem _ _)) (fac .bool fan))) ?_)
 refine rl.run 4 rfl (rl.done ?_)
 refine RW.kp [8, 9] [(8, .ptr 3 0), (9, .bool v1.2)] [some ⟨[.j x1], 0⟩, some ⟨[.j x2], 0⟩, some ⟨[.j x3], 0⟩, some ⟨[.j v1.1.Seq, .j v1.1.Rec.Kind, .j v1.1.Rec.Valid, .j v1.1.Rec.Uid, .j v1.1.Rec.Next, .j v1.1.Rec.Flags, .str v1.1.Rec.User, .str v1.1.Rec.Name, .str v1.1.Rec.Text], 0⟩] rfl rfl ?_
 refine RW.ret ?_
 cases h1
 exact RRet.mk rfl (OutT.tup (.cons (OutL.agg (.cons .int rfl (.cons .int rfl (.cons .int rfl (.cons .int rfl (.cons .int rfl (.cons .int rfl (.cons .str rfl (.cons .str rfl (.cons .str rfl .nil)))))))))) (.cons .bool .nil))) (by first | decide | simp)
theorem law_impl_mailThere {x0 : List TItem} {x1 : Int} {x2 : Int} {r : TItem × Bool} (hF : F_impl_mailThere x0 x1 x2 = some r) : PCalls Try.prog 122 [L_TItem x0, .j x1, .j x2] (.tup [.agg (enc_TItem true r.1), .bool r.2]) := by
 refine PCalls.of_r k_impl_mailThere rfl ?_
 unfold F_impl_mailThere at hF
 refine RW.sreg (rl.run 2 rfl (rl.done (RW.seq (RW.sreg (rl.run 2 rfl ?_)))))
 obtain ⟨v1, e1, h1⟩ := bindS hF
 refine rl.call rfl rfl rfl (CallW.val (r' := .tup [.agg (enc_TItem false v1.1), .bool v1.2]) ok_impl_boxThere (law_impl_boxThere e1) (.cons (.lst ek_TItem) (.cons .int .nil)) (FlL.tup (.cons .refl (.cons .refl .nil))) ?_)
 refine rl.run 6 rfl (rl.done (RW.sreg (rl.run 2 rfl (rl.done ?_))))
 cases hb : (!v1.2)
 ·have h2 := iteBF h1 hb
  refine RW.cond_f rfl (RW.skip (RW.seq (RW.sreg (rl.run 3 rfl ?_))))
  obtain ⟨v2, e2, h3⟩ := bindS h2
  refine rl.call rfl rfl rfl (CallW.val (r' := .tup [.agg (enc_TItem false v2.1), .bool v2.2]) ok_impl_mailItem (law_impl_mailItem e2) (.cons (.lst ek_TItem) (.cons .int (.cons .int (.cons .int .nil)))) (FlL.tup (.cons .refl (.cons .refl .nil))) ?_)
  refine rl.run 6 rfl (rl.done ?_)
  refine RW.kp [0, 1, 2, 6, 11] [(0, L_TItem x0), (1, .j x1), (2, .j x2), (6, .ptr 0 0), (11, .bool v2.2)] [some ⟨[.j 0, .j 0, .j 0, .j 0, .j 0, .j 0, .str [], .str [], .str []], 0⟩, some ⟨[.j v1.1.Seq, .j v1.1.Rec.Kind, .j v1.1.Rec.Valid, .j v1.1.Rec.Uid, .j v1.1.Rec.Next, .j v1.1.Rec.Flags, .str v1.1.Rec.User, .str v1.1.Rec.Name, .str v1.1.Rec.Text], 0⟩, some ⟨[.j v2.1.Seq, .j v2.1.Rec.Kind, .j v2.1.Rec.Valid, .j v2.1.Rec.Uid, .j v2.1.Rec.Next, .j v2.1.Rec.Flags, .str v2.1.Rec.User, .str v2.1.Rec.Name, .str v2.1.Rec.Text], 0⟩] rfl rfl ?_
  refine RW.sreg (rl.run 1 rfl (rl.done ?_))
  cases hb : v2.2
  ·have h4 := iteBF h3 hb
   refine RW.cond_f rfl (RW.skip (RW.sreg (rl.run 3 rfl ?_)))
   obtain ⟨v3, e3, h5⟩ := bindS h4
   refine rl.call rfl rfl rfl (CallW.val (r' := .tup [.agg (enc_TItem false v3.1), .bool v3.2]) ok_impl_mailItem (law_impl_mailItem e3) (.cons (.lst ek_TItem) (.cons .int (.cons .int (.cons .int .nil)))) (FlL.tup (.cons .refl (.cons .refl .nil))) ?_)
   refine rl.run 4 rfl (rl.done ?_)
   refine RW.kp [6, 7] [(6, .ptr 0 0), (7, .bool v3.2)] [some ⟨[.j v3.1.Seq, .j v3.1.Rec.Kind, .j v3.1.Rec.Valid, .j v3.1.Rec.Uid, .j v3.1.Rec.Next, .j v3.1.Rec.Flags, .str v3.1.Rec.User, .str v3.1.Rec.Name, .str v3.1.Rec.Text], 0⟩, some ⟨[.j v1.1.Seq, .j v1.1.Rec.Kind, .j v1.1.Rec.Valid, .j v1.1.Rec.Uid, .j v1.1.Rec.Next, .j v1.1.Rec.Flags, .str v1.1.Rec.User, .str v1.1.Rec.Name, .str v1.1.Rec.Text], 0⟩, some ⟨[.j v2.1.Seq, .j v2.1.Rec.Kind, .j v2.1.Rec.Valid, .j v2.1.Rec.Uid, .j v2.1.Rec.Next, .j v2.1.Rec.Flags, .str v2.1.Rec.User, .str v2.1.Rec.Name, .str v2.1.Rec.Text], 0⟩] rfl rfl ?_
   refine RW.ret ?_
   cases h5
   exact RRet.mk rfl (OutT.tup (.cons (OutL.agg (.cons .int rfl (.cons .int rfl (.cons .int rfl (.cons .int rfl (.cons .int rfl (.cons .int rfl (.cons .str rfl (.cons .str rfl (.cons .str rfl .nil)))))))))) (.cons .bool .nil))) (by first | decide | simp)
  ·have h6 := iteBT h3 hb
   refine RW.cond_t rfl (RW.sreg (rl.run 3 rfl (rl.done (RW.ret ?_))))
   cases h6
   exact RRet.mk rfl (OutT.tup (.cons (OutL.agg (.cons .int rfl (.cons .int rfl (.cons .int rfl (.cons .int rfl (.cons .int rfl (.cons .int rfl (.cons .str rfl (.cons .str rfl (.cons .str rfl .nil)))))))))) (.cons .bool .nil))) (by first | decide | simp)
 ·have h7 := iteBT h1 hb
  refine RW.cond_t rfl (RW.sreg (rl.run 3 rfl (rl.done ?_)))
  refine RW.kp [6, 7] [(6, .ptr 0 0), (7, .bool false)] [some ⟨[.j 0, .j 0, .j 0, .j 0, .j 0, .j 0, .str [], .str [], .str []], 0⟩, some ⟨[.j v1.1.Seq, .j v1.1.Rec.Kind, .j v1.1.Rec.Valid, .j v1.1.Rec.Uid, .j v1.1.Rec.Next, .j v1.1.Rec.Flags, .str v1.1.Rec.User, .str v1.1.Rec.Name, .str v1.1.Rec.Text], 0⟩] rfl rfl ?_
  refine RW.ret ?_
  cases h7
  exact RRet.mk rfl (OutT.tup (.cons (OutL.agg (.cons .int rfl (.cons .int rfl (.cons .int rfl (.cons .int rfl (.cons .int rfl (.cons .int rfl (.cons .str rfl (.cons .str rfl (.cons .str rfl .nil)))))))))) (.cons .bool .nil))) (by first | decide | simp)
set_option maxHeartbeats 2000000 in
theorem law_impl_needed {x0 : List TItem} {x1 : Int} {r : Bool} (hF : F_impl_needed x0 x1 = some r) : PCalls Try.prog 85 [L_TItem x0, .j x1] (.bool r) := by
 refine PCalls.of_r k_impl_needed rfl ?_
 unfold F_impl_needed at hF
 refine RW.sreg (rl.run 1 rfl (rl.done (RW.sreg (rl.run 2 rfl ?_))))
 obtain ⟨v1, e1, h1⟩ := bindS hF
 refine rl.op (x_ia_lst (enc := enc_TItem) (o := false) rfl rfl rfl e1) ?_
 refine rl.op (x_ld_ela (off' := 0) (vs := (enc_TItem false v1)) ek_TItem rfl e1 rfl rfl rfl) ?_
 refine rl.run 2 rfl (rl.done (RW.seq (RW.sreg (rl.run 2 rfl ?_))))
 obtain ⟨v2, e2, h2⟩ := bindS h1
 refine rl.op (x_sle ek_TItem rfl rfl rfl abnd_hi e2) ?_
 refine rl.run 1 rfl ?_
 obtain ⟨v3, e3, h3⟩ := bindS h2
 refine rl.call rfl rfl rfl (CallW.embR [0] ok_slices_ContainsFunc_Item (law_slices_ContainsFunc_Item_needed_1 e3) (.cells rfl rfl (.keep .int (.keep .int (.keep .int (.keep .int (.keep .int (.keep .int (.keep .str (.keep .str (.keep .str .nil))))))))) .nil) rfl rfl (.cons (.dat (ek_TItem.rlst)) (.cons (RnL.fn (.cons (.ptr rfl) .nil)) .nil)) .bool ?_)
 cases hb : v3
 ·have h4 := iteBF h3 hb
  refine rl.done (RW.cond_f rfl (RW.skip (RW.sreg (rl.run 4 rfl (rl.done ?_)))))
  refine RW.kp [0, 5, 6] [(0, L_TItem x0), (5, .ptr 0 0), (6, .ptr 1 0)] [some ⟨[.j v1.Seq, .j v1.Rec.Kind, .j v1.Rec.Valid, .j v1.Rec.Uid, .j v1.Rec.Next, .j v1.Rec.Flags, .str v1.Rec.User, .str v1.Rec.Name, .str v1.Rec.Text], 0⟩, some ⟨[.j v1.Rec.Kind, .j v1.Rec.Valid, .j v1.Rec.Uid, .j v1.Rec.Next, .j v1.Rec.Flags, .str v1.Rec.User, .str v1.Rec.Name, .str v1.Rec.Text], 0⟩] rfl rfl ?_
  refine RW.sreg (rl.run 4 rfl (rl.done (RW.seq (RW.sreg (rl.run 2 rfl (rl.done ?_))))))
  obtain ⟨y4, ey4, h5⟩ := bindS h4
  refine RW.cutq (σ := Bool × Int × Int × Int × Int × Int × Int × (List UInt8) × (List UInt8) × (List UInt8)) (fun y4 => [(5, .ptr 0 0), (7, .ptr 1 0), (8, .bool y4.1)]) (fun y4 => [some ⟨[.j v1.Seq, .j v1.Rec.Kind, .j v1.Rec.Valid, .j v1.Rec.Uid, .j v1.Rec.Next, .j v1.Rec.Flags, .str v1.Rec.User, .str v1.Rec.Name, .str v1.Rec.Text], 0⟩, some ⟨[.j y4.2.1, .j y4.2.2.1, .j y4.2.2.2.1, .j y4.2.2.2.2.1, .j y4.2.2.2.2.2.1, .j y4.2.2.2.2.2.2.1, .str y4.2.2.2.2.2.2.2.1, .str y4.2.2.2.2.2.2.2.2.1, .str y4.2.2.2.2.2.2.2.2.2], 0⟩]) (fun y => y4 = .inr y) (fun _ _ _ _ g h => RW.gh g h) ?_ ?_
  ·refine RW.blk ?_
   refine RW.sreg ?_
   refine rl.gen rfl rfl fun b hb => ?_
   cases b
   ·have h6 := iteBF ey4 hb
    refine rl.run 1 rfl (rl.done (RW.cond_f rfl (RW.sreg ?_)))
    refine rl.gen rfl rfl fun b hb => ?_
    cases b
    ·have h7 := iteBF h6 hb
     refine rl.run 1 rfl (rl.done (RW.cond_f rfl (RW.seq (RW.sreg ?_))))
     refine rl.gen rfl rfl fun b hb => ?_
     cases b
     ·have h8 := iteBF h7 hb
      refine rl.run 1 rfl (rl.done ?_)
      obtain ⟨y5, ey5, h9⟩ := bindS h8
      refine RW.cutq (σ := Bool) (fun y5 => [(0, L_TItem x0), (5, .ptr 0 0), (6, .ptr 1 0), (7, .ptr 2 0), (8, .bool false), (28, .j v1.Rec.Kind), (50, .bool y5)]) (fun y5 => [some ⟨[.j v1.Seq, .j v1.Rec.Kind, .j v1.Rec.Valid, .j v1.Rec.Uid, .j v1.Rec.Next, .j v1.Rec.Flags, .str v1.Rec.User, .str v1.Rec.Name, .str v1.Rec.Text], 0⟩, some ⟨[.j v1.Rec.Kind, .j v1.Rec.Valid, .j v1.Rec.Uid, .j v1.Rec.Next, .j v1.Rec.Flags, .str v1.Rec.User, .str v1.Rec.Name, .str v1.Rec.Text], 0⟩, some ⟨[.j 0, .j 0, .j 0, .j 0, .j 0, .j 0, .str [], .str [], .str []], 0⟩]) (fun y => y5 = y) (fun _ _ _ _ g h => RW.gh g h) ?_ ?_
      ·refine RW.cond_f rfl ?_
       refine RW.reg ?_
       refine rl.gen rfl rfl fun b hb => ?_
       cases b
       ·have h10 := iteBF ey5 hb
        refine rl.run 1 rfl (rl.done ?_)
        cases h10
        exact ⟨_, rfl, (Gh.ren0 [0, 1, 2] (.cells rfl rfl (.keep .int (.keep .int (.keep .int (.keep .int (.keep .int (.keep .int (.keep .str (.keep .str (.keep .str .nil))))))))) (.cells rfl rfl (.keep .int (.keep .int (.keep .int (.keep .int (.keep .int (.keep .str (.keep .str (.keep .str .nil)))))))) (.cells rfl rfl (.keep .int (.keep .int (.keep .int (.keep .int (.keep .int (.keep .int (.keep .str (.keep .str (.keep .str .nil))))))))) .nil))) rfl (.cons rfl (.dat (ek_TItem.rlst)) (.cons rfl (.ptr rfl) (.cons rfl (.ptr rfl) (.cons rfl (.ptr rfl) (.cons rfl (.dat .bool) (.cons rfl (.dat .int) (.cons rfl (.dat .bool) .nil))))))))⟩
       ·have h11 := iteBT ey5 hb
        refine rl.run 1 rfl (rl.done ?_)
        cases h11
        exact ⟨_, rfl, (Gh.ren0 [0, 1, 2] (.cells rfl rfl (.keep .int (.keep .int (.keep .int (.keep .int (.keep .int (.keep .int (.keep .str (.keep .str (.keep .str .nil))))))))) (.cells rfl rfl (.keep .int (.keep .int (.keep .int (.keep .int (.keep .int (.keep .str (.keep .str (.keep .str .nil)))))))) (.cells rfl rfl (.keep .int (.keep .int (.keep .int (.keep .int (.keep .int (.keep .int (.keep .str (.keep .str (.keep .str .nil))))))))) .nil))) rfl (.cons rfl (.dat (ek_TItem.rlst)) (.cons rfl (.ptr rfl) (.cons rfl (.ptr rfl) (.cons rfl (.ptr rfl) (.cons rfl (.dat .bool) (.cons rfl (.dat .int) (.cons rfl (.dat .bool) .nil))))))))⟩
      ·intro y hC
       subst hC
       cases hb : y5
       ·have h12 := iteBF h9 hb
        refine RW.cond_f rfl (RW.sreg ?_)
        refine rl.gen rfl rfl fun b hb => ?_
        cases b
        ·have h13 := iteBF h12 hb
         refine rl.run 1 rfl (rl.done (RW.cond_f rfl (RW.skip ?_)))
         cases h13
         exact ⟨_, rfl, (Gh.ren0 [0, 2] (.cells rfl rfl (.keep .int (.keep .int (.keep .int (.keep .int (.keep .int (.keep .int (.keep .str (.keep .str (.keep .str .nil))))))))) (.cells rfl rfl (.keep .int (.keep .int (.keep .int (.keep .int (.keep .int (.keep .int (.keep .str (.keep .str (.keep .str .nil))))))))) .nil)) rfl (.cons rfl (.ptr rfl) (.cons rfl (.ptr rfl) (.cons rfl (.dat .bool) .nil))))⟩
        ·have h14 := iteBT h12 hb
         refine rl.run 1 rfl (rl.done (RW.cond_t rfl (RW.sreg (rl.run 3 rfl ?_))))
         obtain ⟨v6, e6, h15⟩ := bindS h14
         refine rl.call rfl rfl rfl (CallW.val (r' := .tup [.agg (enc_TItem false v6.1), .bool v6.2]) ok_impl_boxThere (law_impl_boxThere e6) (.cons (.lst ek_TItem) (.cons .int .nil)) (FlL.tup (.cons .refl (.cons .refl .nil))) ?_)
         refine rl.run 6 rfl (rl.done ?_)
         refine RW.kp [0, 5, 6, 7, 12] [(0, L_TItem x0), (5, .ptr 0 0), (6, .ptr 1 0), (7, .ptr 2 0), (12, .bool v6.2)] [some ⟨[.j v1.Seq, .j v1.Rec.Kind, .j v1.Rec.Valid, .j v1.Rec.Uid, .j v1.Rec.Next, .j v1.Rec.Flags, .str v1.Rec.User, .str v1.Rec.Name, .str v1.Rec.Text], 0⟩, some ⟨[.j v1.Rec.Kind, .j v1.Rec.Valid, .j v1.Rec.Uid, .j v1.Rec.Next, .j v1.Rec.Flags, .str v1.Rec.User, .str v1.Rec.Name, .str v1.Rec.Text], 0⟩, some ⟨[.j 0, .j 0, .j 0, .j 0, .j 0, .j 0, .str [], .str [], .str []], 0⟩, some ⟨[.j v6.1.Seq, .j v6.1.Rec.Kind, .j v6.1.Rec.Valid, .j v6.1.Rec.Uid, .j v6.1.Rec.Next, .j v6.1.Rec.Flags, .str v6.1.Rec.User, .str v6.1.Rec.Name, .str v6.1.Rec.Text], 0⟩] rfl rfl ?_
         refine RW.sreg (rl.run 5 rfl ?_)
         obtain ⟨v7, e7, h16⟩ := bindS h15
         refine rl.call rfl rfl rfl (CallW.val (r' := .tup [.agg (enc_TItem false v7.1), .bool v7.2]) ok_impl_mailItem (law_impl_mailItem e7) (.cons (.lst ek_TItem) (.cons .int (.cons .int (.cons .int .nil)))) (FlL.tup (.cons .refl (.cons .refl .nil))) ?_)
         refine rl.run 6 rfl (rl.done (RW.seq (RW.sreg (rl.run 3 rfl ?_))))
         cases hb : (!v6.2)
         ·have h17 := iteBF h16 hb
          refine rl.run 3 rfl (rl.done ?_)
          refine RW.kp [0, 5, 6, 7, 98] [(0, L_TItem x0), (5, .ptr 0 0), (6, .ptr 1 0), (7, .ptr 2 0), (98, .bool (!v7.2))] [some ⟨[.j v1.Seq, .j v1.Rec.Kind, .j v1.Rec.Valid, .j v1.Rec.Uid, .j v1.Rec.Next, .j v1.Rec.Flags, .str v1.Rec.User, .str v1.Rec.Name, .str v1.Rec.Text], 0⟩, some ⟨[.j v1.Rec.Kind, .j v1.Rec.Valid, .j v1.Rec.Uid, .j v1.Rec.Next, .j v1.Rec.Flags, .str v1.Rec.User, .str v1.Rec.Name, .str v1.Rec.Text], 0⟩, some ⟨[.j 0, .j 0, .j 0, .j 0, .j 0, .j 0, .str [], .str [], .str []], 0⟩, some ⟨[.j v6.1.Seq, .j v6.1.Rec.Kind, .j v6.1.Rec.Valid, .j v6.1.Rec.Uid, .j v6.1.Rec.Next, .j v6.1.Rec.Flags, .str v6.1.Rec.User, .str v6.1.Rec.Name, .str v6.1.Rec.Text], 0⟩, some ⟨[.j v7.1.Seq, .j v7.1.Rec.Kind, .j v7.1.Rec.Valid, .j v7.1.Rec.Uid, .j v7.1.Rec.Next, .j v7.1.Rec.Flags, .str v7.1.Rec.User, .str v7.1.Rec.Name, .str v7.1.Rec.Text], 0⟩] rfl rfl ?_
          cases hb : (!v7.2)
          ·have h18 := iteBF h17 hb
           refine RW.cond_f rfl (RW.skip (RW.reg (rl.run 5 rfl ?_)))
           obtain ⟨v8, e8, h19⟩ := bindS h18
           refine rl.call rfl rfl rfl (CallW.val (r' := .tup [.agg (enc_TItem false v8.1), .bool v8.2]) ok_impl_mailItem (law_impl_mailItem e8) (.cons (.lst ek_TItem) (.cons .int (.cons .int (.cons .int .nil)))) (FlL.tup (.cons .refl (.cons .refl .nil))) ?_)
           refine rl.run 5 rfl (rl.done ?_)
           cases h19
           exact ⟨_, rfl, (Gh.ren0 [0, 2] (.cells rfl rfl (.keep .int (.keep .int (.keep .int (.keep .int (.keep .int (.keep .int (.keep .str (.keep .str (.keep .str .nil))))))))) (.cells rfl rfl (.keep .int (.keep .int (.keep .int (.keep .int (.keep .int (.keep .int (.keep .str (.keep .str (.keep .str .nil))))))))) .nil)) rfl (.cons rfl (.ptr rfl) (.cons rfl (.ptr rfl) (.cons rfl (.dat .bool) .nil))))⟩
          ·have h20 := iteBT h17 hb
           refine RW.cond_t rfl (RW.sreg (rl.run 1 rfl (rl.done (RW.ret ?_))))
           cases h20
           have h21 := elimL h5 rfl
           cases h21
           exact RRet.mk rfl .bool (by first | decide | simp)
         ·have h22 := iteBT h16 hb
          refine rl.run 3 rfl (rl.done ?_)
          refine RW.kp [0, 5, 6, 7, 98] [(0, L_TItem x0), (5, .ptr 0 0), (6, .ptr 1 0), (7, .ptr 2 0), (98, .bool true)] [some ⟨[.j v1.Seq, .j v1.Rec.Kind, .j v1.Rec.Valid, .j v1.Rec.Uid, .j v1.Rec.Next, .j v1.Rec.Flags, .str v1.Rec.User, .str v1.Rec.Name, .str v1.Rec.Text], 0⟩, some ⟨[.j v1.Rec.Kind, .j v1.Rec.Valid, .j v1.Rec.Uid, .j v1.Rec.Next, .j v1.Rec.Flags, .str v1.Rec.User, .str v1.Rec.Name, .str v1.Rec.Text], 0⟩, some ⟨[.j 0, .j 0, .j 0, .j 0, .j 0, .j 0, .str [], .str [], .str []], 0⟩, some ⟨[.j v6.1.Seq, .j v6.1.Rec.Kind, .j v6.1.Rec.Valid, .j v6.1.Rec.Uid, .j v6.1.Rec.Next, .j v6.1.Rec.Flags, .str v6.1.Rec.User, .str v6.1.Rec.Name, .str v6.1.Rec.Text], 0⟩, some ⟨[.j v7.1.Seq, .j v7.1.Rec.Kind, .j v7.1.Rec.Valid, .j v7.1.Rec.Uid, .j v7.1.Rec.Next, .j v7.1.Rec.Flags, .str v7.1.Rec.User, .str v7.1.Rec.Name, .str v7.1.Rec.Text], 0⟩] rfl rfl ?_
          refine RW.cond_t rfl (RW.sreg (rl.run 1 rfl (rl.done (RW.ret ?_))))
          cases h22
          have h23 := elimL h5 rfl
          cases h23
          exact RRet.mk rfl .bool (by first | decide | simp)
       ·have h24 := iteBT h9 hb
        refine RW.cond_t rfl (RW.seq (RW.sreg (rl.run 5 rfl ?_)))
        obtain ⟨v9, e9, h25⟩ := bindS h24
        refine rl.call rfl rfl rfl (CallW.val (r' := .tup [.agg (enc_TItem false v9.1), .bool v9.2]) ok_impl_mailThere (law_impl_mailThere e9) (.cons (.lst ek_TItem) (.cons .int (.cons .int .nil))) (FlL.tup (.cons .refl (.cons .refl .nil))) ?_)
        refine rl.run 6 rfl (rl.done ?_)
        refine RW.kp [0, 5, 6, 7, 10] [(0, L_TItem x0), (5, .ptr 0 0), (6, .ptr 1 0), (7, .ptr 2 0), (10, .bool v9.2)] [some ⟨[.j v1.Seq, .j v1.Rec.Kind, .j v1.Rec.Valid, .j v1.Rec.Uid, .j v1.Rec.Next, .j v1.Rec.Flags, .str v1.Rec.User, .str v1.Rec.Name, .str v1.Rec.Text], 0⟩, some ⟨[.j v1.Rec.Kind, .j v1.Rec.Valid, .j v1.Rec.Uid, .j v1.Rec.Next, .j v1.Rec.Flags, .str v1.Rec.User, .str v1.Rec.Name, .str v1.Rec.Text], 0⟩, some ⟨[.j 0, .j 0, .j 0, .j 0, .j 0, .j 0, .str [], .str [], .str []], 0⟩, some ⟨[.j v9.1.Seq, .j v9.1.Rec.Kind, .j v9.1.Rec.Valid, .j v9.1.Rec.Uid, .j v9.1.Rec.Next, .j v9.1.Rec.Flags, .str v9.1.Rec.User, .str v9.1.Rec.Name, .str v9.1.Rec.Text], 0⟩] rfl rfl ?_
        refine RW.sreg (rl.run 2 rfl (rl.done ?_))
        cases hb : (!v9.2)
        ·have h26 := iteBF h25 hb
         refine RW.cond_f rfl (RW.skip (RW.reg (rl.run 7 rfl ?_)))
         obtain ⟨v10, e10, h27⟩ := bindS h26
         refine rl.call rfl rfl rfl (CallW.val (r' := .tup [.agg (enc_TItem false v10.1), .bool v10.2]) ok_impl_mailItem (law_impl_mailItem e10) (.cons (.lst ek_TItem) (.cons .int (.cons .int (.cons .int .nil)))) (FlL.tup (.cons .refl (.cons .refl .nil))) ?_)
         refine rl.run 5 rfl (rl.done ?_)
         cases h27
         exact ⟨_, rfl, (Gh.ren0 [0, 2] (.cells rfl rfl (.keep .int (.keep .int (.keep .int (.keep .int (.keep .int (.keep .int (.keep .str (.keep .str (.keep .str .nil))))))))) (.cells rfl rfl (.keep .int (.keep .int (.keep .int (.keep .int (.keep .int (.keep .int (.keep .str (.keep .str (.keep .str .nil))))))))) .nil)) rfl (.cons rfl (.ptr rfl) (.cons rfl (.ptr rfl) (.cons rfl (.dat .bool) .nil))))⟩
        ·have h28 := iteBT h25 hb
         refine RW.cond_t rfl (RW.sreg (rl.run 1 rfl (rl.done (RW.ret ?_))))
         cases h28
         have h29 := elimL h5 rfl
         cases h29
         exact RRet.mk rfl .bool (by first | decide | simp)
     ·have h30 := iteBT h7 hb
      refine rl.run 1 rfl (rl.done (RW.cond_t rfl (RW.skip (RW.cond_t rfl (RW.seq (RW.sreg (rl.run 5 rfl ?_)))))))
      obtain ⟨v11, e11, h31⟩ := bindS h30
      refine rl.call rfl rfl rfl (CallW.val (r' := .tup [.agg (enc_TItem false v11.1), .bool v11.2]) ok_impl_mailThere (law_impl_mailThere e11) (.cons (.lst ek_TItem) (.cons .int (.cons .int .nil))) (FlL.tup (.cons .refl (.cons .refl .nil))) ?_)
      refine rl.run 6 rfl (rl.done ?_)
      refine RW.kp [0, 5, 6, 7, 10] [(0, L_TItem x0), (5, .ptr 0 0), (6, .ptr 1 0), (7, .ptr 2 0), (10, .bool v11.2)] [some ⟨[.j v1.Seq, .j v1.Rec.Kind, .j v1.Rec.Valid, .j v1.Rec.Uid, .j v1.Rec.Next, .j v1.Rec.Flags, .str v1.Rec.User, .str v1.Rec.Name, .str v1.Rec.Text], 0⟩, some ⟨[.j v1.Rec.Kind, .j v1.Rec.Valid, .j v1.Rec.Uid, .j v1.Rec.Next, .j v1.Rec.Flags, .str v1.Rec.User, .str v1.Rec.Name, .str v1.Rec.Text], 0⟩, some ⟨[.j 0, .j 0, .j 0, .j 0, .j 0, .j 0, .str [], .str [], .str []], 0⟩, some ⟨[.j v11.1.Seq, .j v11.1.Rec.Kind, .j v11.1.Rec.Valid, .j v11.1.Rec.Uid, .j v11.1.Rec.Next, .j v11.1.Rec.Flags, .str v11.1.Rec.User, .str v11.1.Rec.Name, .str v11.1.Rec.Text], 0⟩] rfl rfl ?_
      refine RW.sreg (rl.run 2 rfl (rl.done ?_))
      cases hb : (!v11.2)
      ·have h32 := iteBF h31 hb
       refine RW.cond_f rfl (RW.skip (RW.reg (rl.run 7 rfl ?_)))
       obtain ⟨v12, e12, h33⟩ := bindS h32
       refine rl.call rfl rfl rfl (CallW.val (r' := .tup [.agg (enc_TItem false v12.1), .bool v12.2]) ok_impl_mailItem (law_impl_mailItem e12) (.cons (.lst ek_TItem) (.cons .int (.cons .int (.cons .int .nil)))) (FlL.tup (.cons .refl (.cons .refl .nil))) ?_)
       refine rl.run 5 rfl (rl.done ?_)
       cases h33
       exact ⟨_, rfl, (Gh.ren0 [0, 2] (.cells rfl rfl (.keep .int (.keep .int (.keep .int (.keep .int (.keep .int (.keep .int (.keep .str (.keep .str (.keep .str .nil))))))))) (.cells rfl rfl (.keep .int (.keep .int (.keep .int (.keep .int (.keep .int (.keep .int (.keep .str (.keep .str (.keep .str .nil))))))))) .nil)) rfl (.cons rfl (.ptr rfl) (.cons rfl (.ptr rfl) (.cons rfl (.dat .bool) .nil))))⟩
      ·have h34 := iteBT h31 hb
       refine RW.cond_t rfl (RW.sreg (rl.run 1 rfl (rl.done (RW.ret ?_))))
       cases h34
       have h35 := elimL h5 rfl
       cases h35
       exact RRet.mk rfl .bool (by first | decide | simp)
    ·have h36 := iteBT h6 hb
     refine rl.run 1 rfl (rl.done (RW.cond_t rfl (RW.seq (RW.sreg (rl.run 2 rfl ?_)))))
     obtain ⟨v13, e13, h37⟩ := bindS h36
     refine rl.call rfl rfl rfl (CallW.embR [1] ok_slices_ContainsFunc_Item (law_slices_ContainsFunc_Item_needed_2 e13) (.cells rfl rfl (.keep .int (.keep .int (.keep .int (.keep .int (.keep .int (.keep .str (.keep .str (.keep .str .nil)))))))) .nil) rfl rfl (.cons (.dat (ek_TItem.rlst)) (.cons (RnL.fn (.cons (.ptr rfl) .nil)) .nil)) .bool ?_)
     cases hb : v13
     ·have h38 := iteBF h37 hb
      refine rl.run 1 rfl (rl.done ?_)
      refine RW.kp [0, 5, 6, 7, 43] [(0, L_TItem x0), (5, .ptr 0 0), (6, .ptr 1 0), (7, .ptr 2 0), (43, .bool true)] [some ⟨[.j v1.Seq, .j v1.Rec.Kind, .j v1.Rec.Valid, .j v1.Rec.Uid, .j v1.Rec.Next, .j v1.Rec.Flags, .str v1.Rec.User, .str v1.Rec.Name, .str v1.Rec.Text], 0⟩, some ⟨[.j v1.Rec.Kind, .j v1.Rec.Valid, .j v1.Rec.Uid, .j v1.Rec.Next, .j v1.Rec.Flags, .str v1.Rec.User, .str v1.Rec.Name, .str v1.Rec.Text], 0⟩, some ⟨[.j 0, .j 0, .j 0, .j 0, .j 0, .j 0, .str [], .str [], .str []], 0⟩] rfl rfl ?_
      refine RW.cond_t rfl (RW.sreg (rl.run 1 rfl (rl.done (RW.ret ?_))))
      cases h38
      have h39 := elimL h5 rfl
      cases h39
      exact RRet.mk rfl .bool (by first | decide | simp)
     ·have h40 := iteBT h37 hb
      refine rl.run 1 rfl (rl.done ?_)
      refine RW.kp [0, 5, 6, 7, 43] [(0, L_TItem x0), (5, .ptr 0 0), (6, .ptr 1 0), (7, .ptr 2 0), (43, .bool false)] [some ⟨[.j v1.Seq, .j v1.Rec.Kind, .j v1.Rec.Valid, .j v1.Rec.Uid, .j v1.Rec.Next, .j v1.Rec.Flags, .str v1.Rec.User, .str v1.Rec.Name, .str v1.Rec.Text], 0⟩, some ⟨[.j v1.Rec.Kind, .j v1.Rec.Valid, .j v1.Rec.Uid, .j v1.Rec.Next, .j v1.Rec.Flags, .str v1.Rec.User, .str v1.Rec.Name, .str v1.Rec.Text], 0⟩, some ⟨[.j 0, .j 0, .j 0, .j 0, .j 0, .j 0, .str [], .str [], .str []], 0⟩] rfl rfl ?_
      refine RW.cond_f rfl (RW.skip (RW.reg (rl.run 2 rfl ?_)))
      obtain ⟨v14, e14, h41⟩ := bindS h40
      refine rl.call rfl rfl rfl (CallW.embR [1] ok_impl_latest (law_impl_latest_needed_3_bySeq e14) (.cells rfl rfl (.keep .int (.keep .int (.keep .int (.keep .int (.keep .int (.keep .str (.keep .str (.keep .str .nil)))))))) .nil) rfl rfl (.cons (.dat (ek_TItem.rlst)) (.cons (RnL.fn (.cons (.ptr rfl) .nil)) (.cons (RnL.fn .nil) .nil))) (.tup (fac (.agg (sc_TItem _ _)) (fac .bool fan))) ?_)
      refine rl.run 5 rfl (rl.done ?_)
      cases h41
      exact ⟨_, rfl, (Gh.ren0 [0, 2] (.cells rfl rfl (.keep .int (.keep .int (.keep .int (.keep .int (.keep .int (.keep .int (.keep .str (.keep .str (.keep .str .nil))))))))) (.cells rfl rfl (.keep .int (.keep .int (.keep .int (.keep .int (.keep .int (.keep .int (.keep .str (.keep .str (.keep .str .nil))))))))) .nil)) rfl (.cons rfl (.ptr rfl) (.cons rfl (.ptr rfl) (.cons rfl (.dat .bool) .nil))))⟩
   ·have h42 := iteBT ey4 hb
    refine rl.run 1 rfl (rl.done (RW.cond_t rfl (RW.reg (rl.run 3 rfl ?_))))
    obtain ⟨v15, e15, h43⟩ := bindS h42
    refine rl.call rfl rfl rfl (CallW.val (r' := .tup [.agg (enc_TItem false v15.1), .bool v15.2]) ok_impl_boxThere (law_impl_boxThere e15) (.cons (.lst ek_TItem) (.cons .int .nil)) (FlL.tup (.cons .refl (.cons .refl .nil))) ?_)
    refine rl.run 5 rfl (rl.done ?_)
    cases h43
    exact ⟨_, rfl, (Gh.ren0 [0, 2] (.cells rfl rfl (.keep .int (.keep .int (.keep .int (.keep .int (.keep .int (.keep .int (.keep .str (.keep .str (.keep .str .nil))))))))) (.cells rfl rfl (.keep .int (.keep .int (.keep .int (.keep .int (.keep .int (.keep .int (.keep .str (.keep .str (.keep .str .nil))))))))) .nil)) rfl (.cons rfl (.ptr rfl) (.cons rfl (.ptr rfl) (.cons rfl (.dat .bool) .nil))))⟩
  ·intro y4_ hC
   have h5 := elimR h5 hC
   refine RW.sreg (rl.run 2 rfl ?_)
   cases hb : y4_.1
   ·have h44 := iteBF h5 hb
    refine rl.run 5 rfl (rl.done (RW.ret ?_))
    cases h44
    exact RRet.mk rfl .bool (by first | decide | simp)
   ·have h45 := iteBT h5 hb
    refine rl.run 5 rfl (rl.done (RW.ret ?_))
    cases h45
    exact RRet.mk rfl .bool (by first | decide | simp)
 ·have h46 := iteBT h3 hb
  refine rl.done (RW.cond_t rfl (RW.sreg (rl.run 1 rfl (rl.done ?_))))
  refine RW.kp [4] [(4, .bool false)] [some ⟨[.j v1.Seq, .j v1.Rec.Kind, .j v1.Rec.Valid, .j v1.Rec.Uid, .j v1.Rec.Next, .j v1.Rec.Flags, .str v1.Rec.User, .str v1.Rec.Name, .str v1.Rec.Text], 0⟩] rfl rfl ?_
  refine RW.ret ?_
  cases h46
  exact RRet.mk rfl .bool (by first | decide | simp)
set_option maxHeartbeats 2000000 in
theorem law_impl_NeededAll {x0 : List TItem} {r : List Bool} (hF : F_impl_NeededAll x0 = some r) : PCalls Try.prog 30 [L_TItem x0] (.lst true 1 (fl (encO true) r) r.length) := by
 refine PCalls.of_r k_impl_NeededAll rfl ?_
 unfold F_impl_NeededAll at hF
 refine RW.sreg (rl.run 1 rfl (rl.done (RW.sreg (rl.run 1 rfl ?_))))
 obtain ⟨v1, e1, h1⟩ := bindS hF
 refine rl.call rfl rfl rfl (CallW.val (r' := .bool v1) ok_impl_ItemsOk (law_impl_ItemsOk e1) (.cons (.lst ek_TItem) .nil) .refl ?_)
 cases hb : v1
 ·have h2 := iteBF h1 hb
  refine rl.run 1 rfl (rl.done (RW.sreg (rl.run 2 rfl (rl.done (RW.seq (RW.sreg (rl.run 3 rfl (rl.done ?_))))))))
  refine RW.gh (Gh.nil_t 4 1 rfl) ?_
  obtain ⟨y5, ey5, h4⟩ := bindS h2
  refine RW.cutq (σ := (List Bool)) (fun y3 => [(4, .sl 0 0 y3.length)]) (fun y3 => [some ⟨fl (encO true) y3, 1⟩]) (fun y => y5 = y) (fun _ _ _ _ g h => RW.gh g h) ?_ ?_
  ·refine RW.blk ?_
   refine RW.iter (σ := Int × (List Bool)) ey5 (fun s2 => [(0, L_TItem x0), (3, .bool false), (4, .sl 0 0 s2.2.length), (10, .j (x0.length : Int)), (11, .j s2.1)]) (fun s2 => [some ⟨fl (encO true) s2.2, 1⟩]) (Gh.ren0 [0] (.same rfl (ekO.fref _ _) .nil) rfl (.cons rfl (.dat (ek_TItem.rlst)) (.cons rfl (.dat .bool) (.cons rfl (.slq rfl rfl) (.cons rfl (.dat .int) (.cons rfl (.dat .int) .nil)))))) (fun s2 B o hS3 hB3 hE3 => ?_)
   unfold S_impl_NeededAll_1 at hS3
   refine RW.sreg ?_
   refine rl.gen rfl rfl fun b hb => ?_
   cases b
   ·have h5 := iteBF hS3 hb
    refine rl.done (RW.seq (RW.cond_f rfl (RW.exit (blkA_eq ?_))))
    cases h5
    exact ⟨_, (hE3 _ rfl).symm, (Gh.ren0 [0] (.same rfl (ekO.fref _ _) .nil) rfl (.cons rfl (.slq rfl rfl) .nil))⟩
   ·have h6 := iteBT hS3 hb
    refine rl.done (RW.seq (RW.cond_t rfl (RW.skip (RW.seq (RW.blk (RW.sreg (rl.run 2 rfl (rl.done (RW.reg (rl.run 8 rfl ?_))))))))))
    obtain ⟨v4, e4, h7⟩ := bindS h6
    refine rl.op (x_app rfl rfl (rapp_sl (l := s2.2) (m := [false]) (o := true) ekO rfl rfl (acont_slq (m := [false]) (o := true) fkO rfl rfl) rfl (fkO.fst _ _) e4)) ?_
    refine rl.run 1 rfl (rl.done (RW.reg (rl.run 2 rfl (rl.done ?_))))
    cases h7
    exact hB3 _ rfl _ _ (Gh.ren0 [2] (.same rfl (ekO.fref _ _) .nil) rfl (.cons rfl (.dat (ek_TItem.rlst)) (.cons rfl (.dat .bool) (.cons rfl (.slq rfl rfl) (.cons rfl (.dat .int) (.cons rfl (.dat .int) .nil))))))
  ·intro y3 hC
   subst hC
   refine RW.sreg (rl.run 2 rfl (rl.done (RW.ret ?_)))
   cases h4
   exact RRet.mk rfl (OutR.ownq ekO rfl rfl) (by first | decide | simp)
 ·have h8 := iteBT h1 hb
  refine rl.run 1 rfl (rl.done (RW.sreg (rl.run 2 rfl (rl.done (RW.seq (RW.sreg (rl.run 3 rfl (rl.done ?_))))))))
  refine RW.gh (Gh.nil_t 4 1 rfl) ?_
  obtain ⟨y10, ey10, h10⟩ := bindS h8
  refine RW.cutq (σ := (List Bool)) (fun y7 => [(4, .sl 0 0 y7.length)]) (fun y7 => [some ⟨fl (encO true) y7, 1⟩]) (fun y => y10 = y) (fun _ _ _ _ g h => RW.gh g h) ?_ ?_
  ·refine RW.blk ?_
   refine RW.iter (σ := Int × (List Bool)) ey10 (fun s6 => [(0, L_TItem x0), (3, .bool true), (4, .sl 0 0 s6.2.length), (10, .j (x0.length : Int)), (11, .j s6.1)]) (fun s6 => [some ⟨fl (encO true) s6.2, 1⟩]) (Gh.ren0 [0] (.same rfl (ekO.fref _ _) .nil) rfl (.cons rfl (.dat (ek_TItem.rlst)) (.cons rfl (.dat .bool) (.cons rfl (.slq rfl rfl) (.cons rfl (.dat .int) (.cons rfl (.dat .int) .nil)))))) (fun s6 B o hS9 hB9 hE9 => ?_)
   unfold S_impl_NeededAll_2 at hS9
   refine RW.sreg ?_
   refine rl.gen rfl rfl fun b hb => ?_
   cases b
   ·have h11 := iteBF hS9 hb
    refine rl.done (RW.seq (RW.cond_f rfl (RW.exit (blkA_eq ?_))))
    cases h11
    exact ⟨_, (hE9 _ rfl).symm, (Gh.ren0 [0] (.same rfl (ekO.fref _ _) .nil) rfl (.cons rfl (.slq rfl rfl) .nil))⟩
   ·have h12 := iteBT hS9 hb
    refine rl.done (RW.seq (RW.cond_t rfl (RW.skip (RW.seq (RW.blk (RW.sreg (rl.run 2 rfl (rl.done (RW.reg (rl.run 5 rfl ?_))))))))))
    obtain ⟨v8, e8, h13⟩ := bindS h12
    refine rl.call rfl rfl rfl (CallW.val (r' := .bool v8) ok_impl_needed (law_impl_needed e8) (.cons (.lst ek_TItem) (.cons .int .nil)) .refl ?_)
    refine rl.run 2 rfl ?_
    obtain ⟨v9, e9, h14⟩ := bindS h13
    refine rl.op (x_app rfl rfl (rapp_sl (l := s6.2) (m := [v8]) (o := true) ekO rfl rfl (acont_slq (m := [v8]) (o := true) fkO rfl rfl) rfl (fkO.fst _ _) e9)) ?_
    refine rl.run 1 rfl (rl.done (RW.reg (rl.run 2 rfl (rl.done ?_))))
    cases h14
    exact hB9 _ rfl _ _ (Gh.ren0 [2] (.same rfl (ekO.fref _ _) .nil) rfl (.cons rfl (.dat (ek_TItem.rlst)) (.cons rfl (.dat .bool) (.cons rfl (.slq rfl rfl) (.cons rfl (.dat .int) (.cons rfl (.dat .int) .nil))))))
  ·intro y7 hC
   subst hC
   refine RW.sreg (rl.run 2 rfl (rl.done (RW.ret ?_)))
   cases h10
   exact RRet.mk rfl (OutR.ownq ekO rfl rfl) (by first | decide | simp)
theorem law_impl_dropped {x0 : List Bool} {x1 : Int} {r : Bool} (hF : F_impl_dropped x0 x1 = some r) : PCalls Try.prog 78 [L_O x0, .j x1] (.bool r) := by
 refine PCalls.of_r k_impl_dropped rfl ?_
 unfold F_impl_dropped at hF
 refine RW.sreg (rl.run 1 rfl (rl.done (RW.sreg (rl.run 3 rfl ?_))))
 refine rl.gen rfl rfl fun b hb => ?_
 cases b
 ·have h1 := iteBF hF hb
  refine rl.run 7 rfl (rl.done ?_)
  refine RW.kp [4] [(4, .bool false)] [] rfl rfl ?_
  refine RW.ret ?_
  cases h1
  exact RRet.mk rfl .bool (by first | decide | simp)
 ·have h2 := iteBT hF hb
  refine rl.run 3 rfl ?_
  obtain ⟨v1, e1, h3⟩ := bindS h2
  refine rl.gop rfl (x_ia_lst (enc := encO) (o := false) rfl rfl rfl e1) ?_
  refine rl.gop rfl (x_ld_el (off' := 0) ekO rfl e1 rfl rfl rfl) ?_
  refine rl.run 2 rfl (rl.done ?_)
  refine RW.kp [4] [(4, .bool v1)] [] rfl rfl ?_
  refine RW.ret ?_
  cases h3
  exact RRet.mk rfl .bool (by first | decide | simp)
theorem law_impl_Without {x0 : List TItem} {x1 : List Bool} {r : List TItem} (hF : F_impl_Without x0 x1 = some r) : PCalls Try.prog 33 [L_TItem x0, L_O x1] (.lst true 9 (fl (enc_TItem true) r) r.length) := by
 refine PCalls.of_r k_impl_Without rfl ?_
 unfold F_impl_Without at hF
 refine RW.sreg (rl.run 1 rfl (rl.done (RW.sreg (rl.run 2 rfl (rl.done (RW.seq (RW.sreg (rl.run 3 rfl (rl.done ?_)))))))))
 refine RW.gh (Gh.nil_t 5 9 rfl) ?_
 obtain ⟨y6, ey6, h2⟩ := bindS hF
 refine RW.cutq (σ := (List TItem)) (fun y2 => [(5, .sl 0 0 y2.length)]) (fun y2 => [some ⟨fl (enc_TItem true) y2, 9⟩]) (fun y => y6 = y) (fun _ _ _ _ g h => RW.gh g h) ?_ ?_
 ·refine RW.blk ?_
  refine RW.iter (σ := Int × (List TItem)) ey6 (fun s1 => [(1, L_O x1), (5, .sl 0 0 s1.2.length), (9, L_TItem x0), (10, .j (x0.length : Int)), (11, .j s1.1)]) (fun s1 => [some ⟨fl (enc_TItem true) s1.2, 9⟩]) (Gh.ren0 [0] (.same rfl (ek_TItem.fref _ _) .nil) rfl (.cons rfl (.dat (ekO.rlst)) (.cons rfl (.slq rfl rfl) (.cons rfl (.dat (ek_TItem.rlst)) (.cons rfl (.dat .int) (.cons rfl (.dat .int) .nil)))))) (fun s1 B o hS1 hB1 hE1 => ?_)
  unfold S_impl_Without_1 at hS1
  refine RW.sreg ?_
  refine rl.gen rfl rfl fun b hb => ?_
  cases b
  ·have h3 := iteBF hS1 hb
   refine rl.done (RW.seq (RW.cond_f rfl (RW.exit (blkA_eq ?_))))
   cases h3
   exact ⟨_, (hE1 _ rfl).symm, (Gh.ren0 [0] (.same rfl (ek_TItem.fref _ _) .nil) rfl (.cons rfl (.slq rfl rfl) .nil))⟩
  ·have h4 := iteBT hS1 hb
   refine rl.done (RW.seq (RW.cond_t rfl (RW.skip (RW.seq (RW.blk (RW.sreg (rl.run 1 rfl ?_)))))))
   obtain ⟨v3, e3, h5⟩ := bindS h4
   refine rl.op (x_ia_lst (enc := enc_TItem) (o := false) rfl rfl rfl e3) ?_
   refine rl.op (x_ld_ela (off' := 0) (vs := (enc_TItem false v3)) ek_TItem rfl e3 rfl rfl rfl) ?_
   refine rl.run 3 rfl (rl.done (RW.sreg (rl.run 2 rfl ?_)))
   obtain ⟨v4, e4, h6⟩ := bindS h5
   refine rl.call rfl rfl rfl (CallW.val (r' := .bool v4) ok_impl_dropped (law_impl_dropped e4) (.cons (.lst ekO) (.cons .int .nil)) .refl ?_)
   cases hb : v4
   ·have h7 := iteBF h6 hb
    refine rl.run 1 rfl (rl.done (RW.cond_t rfl (RW.reg (rl.run 3 rfl ?_))))
    obtain ⟨v5, e5, h8⟩ := bindS h7
    refine rl.op (x_app rfl rfl (rapp_sl (l := s1.2) (m := [v3]) (o := true) ek_TItem rfl rfl (acont_slq (m := [v3]) (o := true) fk_TItem rfl rfl) rfl (fk_TItem.fst _ _) e5)) ?_
    refine rl.run 1 rfl (rl.done (RW.reg (rl.run 2 rfl (rl.done ?_))))
    cases h8
    exact hB1 _ rfl _ _ (Gh.ren0 [3] (.same rfl (ek_TItem.fref _ _) .nil) rfl (.cons rfl (.dat (ekO.rlst)) (.cons rfl (.slq rfl rfl) (.cons rfl (.dat (ek_TItem.rlst)) (.cons rfl (.dat .int) (.cons rfl (.dat .int) .nil))))))
   ·have h9 := iteBT h6 hb
    refine rl.run 1 rfl (rl.done (RW.cond_f rfl (RW.skip (RW.reg (rl.run 2 rfl (rl.done ?_))))))
    cases h9
    exact hB1 _ rfl _ _ (Gh.ren0 [0] (.same rfl (ek_TItem.fref _ _) .nil) rfl (.cons rfl (.dat (ekO.rlst)) (.cons rfl (.slq rfl rfl) (.cons rfl (.dat (ek_TItem.rlst)) (.cons rfl (.dat .int) (.cons rfl (.dat .int) .nil))))))
 ·intro y2 hC
  subst hC
  refine RW.sreg (rl.run 2 rfl (rl.done (RW.ret ?_)))
  cases h2
  exact RRet.mk rfl (OutR.ownq ek_TItem rfl rfl) (by first | decide | simp)
theorem law_impl_StateOf_1 {x0 : TRec} {r : Int × Bool} (hF : F_impl_StateOf_1 x0 = some r) : PCalls Try.prog 132 [.agg (enc_TRec false x0)] (.tup [.j r.1, .bool r.2]) := by
 refine PCalls.of_r k_impl_StateOf_1 rfl ?_
 unfold F_impl_StateOf_1 at hF
 refine RW.sreg (rl.run 3 rfl (rl.done (RW.sdrw (rdraw.op rfl rfl (rdraw.op rfl rfl (rdraw.op rfl rfl (rdraw.op rfl rfl (rdraw.op rfl rfl (rdraw.op rfl rfl (rdraw.op rfl rfl (rdraw.done ?_)))))))))))
 refine RW.ret ?_
 cases hF
 exact RRet.mk rfl (OutT.tup (.cons .int (.cons .bool .nil))) (by first | decide | simp)
theorem law_impl_numbers_StateOf_1 {x0 : List TItem} {r : List Int} (hF : F_impl_numbers_StateOf_1 x0 = some r) : PCalls Try.prog 131 [L_TItem x0, .fn 132 []] (.lst true 1 (fl (encI true) r) r.length) := by
 refine PCalls.of_r k_impl_numbers rfl ?_
 unfold F_impl_numbers_StateOf_1 at hF
 refine RW.sreg (rl.run 1 rfl (rl.done (RW.sreg (rl.run 2 rfl (rl.done (RW.seq (RW.sreg (rl.run 3 rfl (rl.done ?_)))))))))
 refine RW.gh (Gh.nil_t 5 1 rfl) ?_
 obtain ⟨y6, ey6, h2⟩ := bindS hF
 refine RW.cutq (σ := (List Int)) (fun y2 => [(5, .sl 0 0 y2.length)]) (fun y2 => [some ⟨fl (encI true) y2, 1⟩]) (fun y => y6 = y) (fun _ _ _ _ g h => RW.gh g h) ?_ ?_
 ·refine RW.blk ?_
  refine RW.iter (σ := Int × (List Int)) ey6 (fun s1 => [(1, .fn 132 []), (5, .sl 0 0 s1.2.length), (11, L_TItem x0), (12, .j (x0.length : Int)), (13, .j s1.1)]) (fun s1 => [some ⟨fl (encI true) s1.2, 1⟩]) (Gh.ren0 [0] (.same rfl (ekI.fref _ _) .nil) rfl (.cons rfl (RnL.fn .nil) (.cons rfl (.slq rfl rfl) (.cons rfl (.dat (ek_TItem.rlst)) (.cons rfl (.dat .int) (.cons rfl (.dat .int) .nil)))))) (fun s1 B o hS1 hB1 hE1 => ?_)
  unfold S_impl_numbers_StateOf_1_1 at hS1
  refine RW.sreg ?_
  refine rl.gen rfl rfl fun b hb => ?_
  cases b
  ·have h3 := iteBF hS1 hb
   refine rl.done (RW.seq (RW.cond_f rfl (RW.exit (blkA_eq ?_))))
   cases h3
   exact ⟨_, (hE1 _ rfl).symm, (Gh.ren0 [0] (.same rfl (ekI.fref _ _) .nil) rfl (.cons rfl (.slq rfl rfl) .nil))⟩
  ·have h4 := iteBT hS1 hb
   refine rl.done (RW.seq (RW.cond_t rfl (RW.skip (RW.seq (RW.blk (RW.sreg ?_))))))
   obtain ⟨v3, e3, h5⟩ := bindS h4
   refine rl.op (x_ia_lst (enc := enc_TItem) (o := false) rfl rfl rfl e3) ?_
   refine rl.op (x_ld_ela (off' := 0) (vs := (enc_TItem false v3)) ek_TItem rfl e3 rfl rfl rfl) ?_
   refine rl.run 2 rfl (rl.done (RW.sreg (rl.run 3 rfl ?_)))
   obtain ⟨v4, e4, h6⟩ := bindS h5
   refine rl.call rfl rfl rfl (CallW.val (r' := .tup [.j v4.1, .bool v4.2]) ok_impl_StateOf_1 (law_impl_StateOf_1 e4) (.cons (DFL.agg (.cons .int (.cons .int (.cons .int (.cons .int (.cons .int (.cons .str (.cons .str (.cons .str .nil))))))))) .nil) (FlL.tup (.cons .refl (.cons .refl .nil))) ?_)
   refine rl.run 5 rfl (rl.done ?_)
   refine RW.kp [1, 5, 8, 9, 11, 12, 13] [(1, .fn 132 []), (5, .sl 0 0 s1.2.length), (8, .j v4.1), (9, .bool v4.2), (11, L_TItem x0), (12, .j (x0.length : Int)), (13, .j s1.1)] [some ⟨fl (encI true) s1.2, 1⟩, some ⟨[.j v3.Seq, .j v3.Rec.Kind, .j v3.Rec.Valid, .j v3.Rec.Uid, .j v3.Rec.Next, .j v3.Rec.Flags, .str v3.Rec.User, .str v3.Rec.Name, .str v3.Rec.Text], 0⟩] rfl rfl ?_
   refine RW.sreg (rl.run 1 rfl (rl.done ?_))
   cases hb : v4.2
   ·have h7 := iteBF h6 hb
    refine RW.cond_f rfl (RW.skip (RW.reg (rl.run 2 rfl (rl.done ?_))))
    cases h7
    exact hB1 _ rfl _ _ (Gh.ren0 [0] (.same rfl (ekI.fref _ _) .nil) rfl (.cons rfl (RnL.fn .nil) (.cons rfl (.slq rfl rfl) (.cons rfl (.dat (ek_TItem.rlst)) (.cons rfl (.dat .int) (.cons rfl (.dat .int) .nil))))))
   ·have h8 := iteBT h6 hb
    refine RW.cond_t rfl (RW.reg (rl.run 3 rfl ?_))
    obtain ⟨v5, e5, h9⟩ := bindS h8
    refine rl.op (x_app rfl rfl (rapp_sl (l := s1.2) (m := [v4.1]) (o := true) ekI rfl rfl (acont_slq (m := [v4.1]) (o := true) fkI rfl rfl) rfl (fkI.fst _ _) e5)) ?_
    refine rl.run 1 rfl (rl.done (RW.reg (rl.run 2 rfl (rl.done ?_))))
    cases h9
    exact hB1 _ rfl _ _ (Gh.ren0 [3] (.same rfl (ekI.fref _ _) .nil) rfl (.cons rfl (RnL.fn .nil) (.cons rfl (.slq rfl rfl) (.cons rfl (.dat (ek_TItem.rlst)) (.cons rfl (.dat .int) (.cons rfl (.dat .int) .nil))))))
 ·intro y2 hC
  subst hC
  refine RW.sreg (rl.run 1 rfl ?_)
  obtain ⟨v7, e7, h10⟩ := bindS h2
  refine rl.call rfl rfl rfl (CallW.sortI (H' := [some ⟨fl (encI true) v7, 1⟩]) lay_slices_Sort_int e7 rfl rfl rfl rfl ?_)
  refine rl.done (RW.sreg (rl.run 1 rfl ?_))
  obtain ⟨v8, e8, h11⟩ := bindS h10
  refine rl.call rfl rfl rfl (CallW.compI (H' := [some ⟨fl (encI true) v8, 1⟩]) lay_slices_Compact_int e8 rfl ((sort?_length e7)).symm rfl rfl ?_)
  refine rl.run 1 rfl (rl.done (RW.ret ?_))
  cases h11
  exact RRet.mk rfl (OutR.ownq ekI rfl rfl) (by first | decide | simp)
theorem law_impl_boxState_1_w {x0 : TRec} {x1c0 : Int} {r : Int × Bool} (hF : F_impl_boxState_1_w x0 x1c0 = some r) : PCalls Try.prog 157 [.agg (enc_TRec false x0), .el [.j x1c0] 0] (.tup [.j r.1, .bool r.2]) := by
 refine PCalls.of_r k_impl_boxState_1 rfl ?_
 unfold F_impl_boxState_1_w at hF
 refine RW.sreg (rl.run 3 rfl (rl.done (RW.sdrw (rdraw.op rfl rfl (rdraw.op rfl rfl (rdraw.op rfl rfl (rdraw.op rfl rfl ?_)))))))
 obtain ⟨v1, e1, h1⟩ := bindS hF
 refine rdraw.call rfl rfl rfl (CallW.val (r' := .bool v1) ok_impl_about (law_impl_about e1) (.cons (DFL.agg (.cons .int (.cons .int (.cons .int (.cons .int (.cons .int (.cons .str (.cons .str (.cons .str .nil))))))))) (.cons .int (.cons .int .nil))) .refl ⟨rfl, ?_⟩)
 cases hb : v1
 ·have h2 := iteBF h1 hb
  refine rdraw.op rfl rfl (rdraw.op rfl rfl (rdraw.op rfl rfl ?_))
  obtain ⟨v2, e2, h3⟩ := bindS h2
  refine rdraw.call rfl rfl rfl (CallW.val (r' := .bool v2) ok_impl_about (law_impl_about e2) (.cons (DFL.agg (.cons .int (.cons .int (.cons .int (.cons .int (.cons .int (.cons .str (.cons .str (.cons .str .nil))))))))) (.cons .int (.cons .int .nil))) .refl ⟨rfl, ?_⟩)
  refine rdraw.op rfl rfl (rdraw.op rfl rfl (rdraw.op rfl rfl (rdraw.done ?_)))
  refine RW.kp [3, 4] [(3, .j x0.Uid), (4, .bool v2)] [some ⟨[.j x0.Kind, .j x0.Valid, .j x0.Uid, .j x0.Next, .j x0.Flags, .str x0.User, .str x0.Name, .str x0.Text], 0⟩] rfl rfl ?_
  refine RW.ret ?_
  cases h3
  exact RRet.mk rfl (OutT.tup (.cons .int (.cons .bool .nil))) (by first | decide | simp)
 ·have h4 := iteBT h1 hb
  refine rdraw.op rfl rfl (rdraw.off rfl (rdraw.off rfl (rdraw.off rfl (rdraw.op rfl rfl (rdraw.op rfl rfl (rdraw.op rfl rfl (rdraw.done ?_)))))))
  refine RW.kp [3, 4] [(3, .j x0.Uid), (4, .bool true)] [some ⟨[.j x0.Kind, .j x0.Valid, .j x0.Uid, .j x0.Next, .j x0.Flags, .str x0.User, .str x0.Name, .str x0.Text], 0⟩] rfl rfl ?_
  refine RW.ret ?_
  cases h4
  exact RRet.mk rfl (OutT.tup (.cons .int (.cons .bool .nil))) (by first | decide | simp)
end Go.Proofs.Ytldndhdohlfpgaa.V
