/- What a call comes to. -/
import Derived.Test.YtgdcbjoaoagbpaaXT
import Derived.Test.YtgdcbjoaoagbpaaXU
namespace Go.Proofs.Ytgdcbjoaoagbpaa.V
open Go Go.Proofs Go.RowKit
set_option maxRecDepth 100000
theorem law_laws_eqRef {x0 : TRef} {x1 : TRef} {r : Bool} (hF : F_laws_eqRef x0 x1 = some r) : PCalls Try.prog 145 [.agg (enc_TRef false x0), .agg (enc_TRef false x1)] (.bool r) := by
 refine PCalls.of_r k_laws_eqRef rfl ?_
 unfold F_laws_eqRef at hF
 refine RW.sreg (rl.run 3 rfl (rl.done (RW.seq (RW.sreg (rl.run 4 rfl ?_)))))
 refine rl.gen rfl rfl fun b hb => ?_
 cases b
 ·have h1 := iteBF hF hb
  refine rl.done (RW.cond_f rfl (RW.skip (RW.seq (RW.sreg (rl.run 4 rfl ?_)))))
  refine rl.gen rfl rfl fun b hb => ?_
  cases b
  ·have h2 := iteBF h1 hb
   refine rl.done ?_
   refine RW.keep [14] (a' := [(14, .bool false)]) (H' := [some ⟨[.int .i64 x0.No, .int .i64 x0.Gen], 0⟩, some ⟨[.int .i64 x1.No, .int .i64 x1.Gen], 0⟩]) rfl rfl ?_
   refine RW.cond_f rfl (RW.skip (RW.sreg (rl.run 1 rfl (rl.done (RW.ret ?_)))))
   cases h2
   exact RRet.mk rfl .bool (by first | decide | simp)
  ·have h3 := iteBT h1 hb
   refine rl.done ?_
   refine RW.keep [14] (a' := [(14, .bool true)]) (H' := [some ⟨[.int .i64 x0.No, .int .i64 x0.Gen], 0⟩, some ⟨[.int .i64 x1.No, .int .i64 x1.Gen], 0⟩]) rfl rfl ?_
   refine RW.cond_t rfl (RW.sreg (rl.run 1 rfl (rl.done (RW.ret ?_))))
   cases h3
   exact RRet.mk rfl .bool (by first | decide | simp)
 ·have h4 := iteBT hF hb
  refine rl.done (RW.cond_t rfl (RW.sreg (rl.run 1 rfl (rl.done (RW.ret ?_)))))
  cases h4
  exact RRet.mk rfl .bool (by first | decide | simp)
theorem law_laws_eqRefS {x0 : List TRef} {x1 : List TRef} {r : Bool} (hF : F_laws_eqRefS x0 x1 = some r) : PCalls Try.prog 78 [.lst false 2 (fl (enc_TRef false) x0) x0.length, .lst false 2 (fl (enc_TRef false) x1) x1.length] (.bool r) := by
 refine PCalls.of_r k_laws_eqRefS rfl ?_
 unfold F_laws_eqRefS at hF
 refine RW.sreg (rl.run 1 rfl (rl.done (RW.seq (RW.sreg (rl.run 4 rfl ?_)))))
 refine rl.gen rfl rfl fun b hb => ?_
 cases b
 ·have h1 := iteBF hF hb
  refine rl.done (RW.cond_f rfl (RW.skip (RW.seq (RW.sreg (rl.run 1 rfl (rl.done ?_))))))
  obtain ⟨y6, ey6, h3⟩ := bindS h1
  refine RW.cutq (σ := Unit) (fun y2 => []) (fun y2 => []) (fun y => y6 = .inr y) (fun _ _ _ _ g h => RW.gh g h) ?_ ?_
  ·refine RW.blk ?_
   refine RW.iter (σ := Int) ey6 (fun s1 => [(0, .lst false 2 (fl (enc_TRef false) x0) x0.length), (1, .lst false 2 (fl (enc_TRef false) x1) x1.length), (5, .int .i64 s1)]) (fun s1 => []) (Gh.ren0 [] .nil rfl (.cons rfl (.dat (ek_TRef.rlst)) (.cons rfl (.dat (ek_TRef.rlst)) (.cons rfl (.dat .int) .nil)))) (fun s1 B o hS2 hB2 hE2 => ?_)
   unfold S_laws_eqRefS_1 at hS2
   refine RW.seq (RW.sreg (rl.run 3 rfl ?_))
   refine rl.gen rfl rfl fun b hb => ?_
   cases b
   ·have h4 := iteBF hS2 hb
    refine rl.done (RW.cond_f rfl (RW.exit (blkA_eq ?_)))
    cases h4
    exact ⟨_, (hE2 _ rfl).symm, (Gh.ren0 [] .nil rfl .nil)⟩
   ·have h5 := iteBT hS2 hb
    refine rl.done (RW.cond_t rfl (RW.skip (RW.seq (RW.blk (RW.sdrw (rdraw.op rfl rfl (rdraw.op rfl rfl ?_)))))))
    obtain ⟨v3, e3, h6⟩ := bindS h5
    refine rdraw.op rfl (x_ia_lst (enc := enc_TRef) (o := false) rfl rfl rfl e3) ?_
    refine rdraw.op rfl (x_ld_ela (off' := 0) (vs := (enc_TRef false v3)) ek_TRef rfl e3 rfl rfl rfl) ?_
    refine rdraw.op rfl rfl (rdraw.op rfl rfl ?_)
    obtain ⟨v4, e4, h7⟩ := bindS h6
    refine rdraw.op rfl (x_ia_lst (enc := enc_TRef) (o := false) rfl rfl rfl e4) ?_
    refine rdraw.op rfl (x_ld_ela (off' := 0) (vs := (enc_TRef false v4)) ek_TRef rfl e4 rfl rfl rfl) ?_
    obtain ⟨v5, e5, h8⟩ := bindS h7
    refine rdraw.call rfl rfl rfl (CallW.val (r' := .bool v5) ok_laws_eqRef (law_laws_eqRef e5) (.cons (.dat (.agg (ek_TRef.dat false _))) (.cons (.dat (.agg (ek_TRef.dat false _))) .nil)) .refl ⟨rfl, ?_⟩)
    cases hb : v5
    ·have h9 := iteBF h8 hb
     refine rdraw.op rfl rfl (rdraw.done ?_)
     refine RW.keep [0, 1, 5, 26] (a' := [(0, .lst false 2 (fl (enc_TRef false) x0) x0.length), (1, .lst false 2 (fl (enc_TRef false) x1) x1.length), (5, .int .i64 s1), (26, .bool true)]) (H' := []) rfl rfl ?_
     refine RW.cond_t rfl (RW.sreg (rl.run 1 rfl (rl.done (RW.ret ?_))))
     cases h9
     have h10 := elimL h3 (hE2 _ rfl)
     cases h10
     exact RRet.mk rfl .bool (by first | decide | simp)
    ·have h11 := iteBT h8 hb
     refine rdraw.op rfl rfl (rdraw.done ?_)
     refine RW.keep [0, 1, 5, 26] (a' := [(0, .lst false 2 (fl (enc_TRef false) x0) x0.length), (1, .lst false 2 (fl (enc_TRef false) x1) x1.length), (5, .int .i64 s1), (26, .bool false)]) (H' := []) rfl rfl ?_
     refine RW.cond_f rfl (RW.skip (RW.reg (rl.run 3 rfl (rl.done ?_))))
     cases h11
     exact hB2 _ rfl _ _ (Gh.ren0 [] .nil rfl (.cons rfl (.dat (ek_TRef.rlst)) (.cons rfl (.dat (ek_TRef.rlst)) (.cons rfl (.dat .int) .nil))))
  ·intro y2 hC
   have h3 := elimR h3 hC
   refine RW.sreg (rl.run 1 rfl (rl.done (RW.ret ?_)))
   cases h3
   exact RRet.mk rfl .bool (by first | decide | simp)
 ·have h12 := iteBT hF hb
  refine rl.done (RW.cond_t rfl (RW.sreg (rl.run 1 rfl (rl.done (RW.ret ?_)))))
  cases h12
  exact RRet.mk rfl .bool (by first | decide | simp)
theorem law_laws_eqCheck {x0 : TCheck} {x1 : TCheck} {r : Bool} (hF : F_laws_eqCheck x0 x1 = some r) : PCalls Try.prog 37 [.agg (enc_TCheck false x0), .agg (enc_TCheck false x1)] (.bool r) := by
 refine PCalls.of_r k_laws_eqCheck rfl ?_
 unfold F_laws_eqCheck at hF
 refine RW.sreg (rl.run 3 rfl (rl.done (RW.seq (RW.sreg (rl.run 4 rfl ?_)))))
 refine rl.gen rfl rfl fun b hb => ?_
 cases b
 ·have h1 := iteBF hF hb
  refine rl.done (RW.cond_f rfl (RW.skip (RW.seq (RW.sreg (rl.run 4 rfl ?_)))))
  refine rl.gen rfl rfl fun b hb => ?_
  cases b
  ·have h2 := iteBF h1 hb
   refine rl.done ?_
   refine RW.keep [2, 3, 14] (a' := [(2, .ptr 0 0), (3, .ptr 1 0), (14, .bool false)]) (H' := [some ⟨[.int .i64 x0.Stamp, .int .i64 x0.NextGen, .int .i64 x0.NextSeq, .int .i64 x0.NextValid, .lst false 2 (fl (enc_TRef false) x0.Refs) x0.Refs.length], 0⟩, some ⟨[.int .i64 x1.Stamp, .int .i64 x1.NextGen, .int .i64 x1.NextSeq, .int .i64 x1.NextValid, .lst false 2 (fl (enc_TRef false) x1.Refs) x1.Refs.length], 0⟩]) rfl rfl ?_
   refine RW.cond_f rfl (RW.skip (RW.seq (RW.sreg (rl.run 4 rfl ?_))))
   refine rl.gen rfl rfl fun b hb => ?_
   cases b
   ·have h3 := iteBF h2 hb
    refine rl.done (RW.cond_f rfl (RW.skip (RW.seq (RW.sreg (rl.run 4 rfl ?_)))))
    refine rl.gen rfl rfl fun b hb => ?_
    cases b
    ·have h4 := iteBF h3 hb
     refine rl.done (RW.cond_f rfl (RW.skip (RW.seq (RW.sreg (rl.run 4 rfl ?_)))))
     obtain ⟨v1, e1, h5⟩ := bindS h4
     refine rl.call rfl rfl rfl (CallW.val (r' := .bool v1) ok_laws_eqRefS (law_laws_eqRefS e1) (.cons (.lst ek_TRef) (.cons (.lst ek_TRef) .nil)) .refl ?_)
     cases hb : v1
     ·have h6 := iteBF h5 hb
      refine rl.run 1 rfl (rl.done ?_)
      refine RW.keep [30] (a' := [(30, .bool true)]) (H' := [some ⟨[.int .i64 x0.Stamp, .int .i64 x0.NextGen, .int .i64 x0.NextSeq, .int .i64 x0.NextValid, .lst false 2 (fl (enc_TRef false) x0.Refs) x0.Refs.length], 0⟩, some ⟨[.int .i64 x1.Stamp, .int .i64 x1.NextGen, .int .i64 x1.NextSeq, .int .i64 x1.NextValid, .lst false 2 (fl (enc_TRef false) x1.Refs) x1.Refs.length], 0⟩]) rfl rfl ?_
      refine RW.cond_t rfl (RW.sreg (rl.run 1 rfl (rl.done (RW.ret ?_))))
      cases h6
      exact RRet.mk rfl .bool (by first | decide | simp)
     ·have h7 := iteBT h5 hb
      refine rl.run 1 rfl (rl.done ?_)
      refine RW.keep [30] (a' := [(30, .bool false)]) (H' := [some ⟨[.int .i64 x0.Stamp, .int .i64 x0.NextGen, .int .i64 x0.NextSeq, .int .i64 x0.NextValid, .lst false 2 (fl (enc_TRef false) x0.Refs) x0.Refs.length], 0⟩, some ⟨[.int .i64 x1.Stamp, .int .i64 x1.NextGen, .int .i64 x1.NextSeq, .int .i64 x1.NextValid, .lst false 2 (fl (enc_TRef false) x1.Refs) x1.Refs.length], 0⟩]) rfl rfl ?_
      refine RW.cond_f rfl (RW.skip (RW.sreg (rl.run 1 rfl (rl.done (RW.ret ?_)))))
      cases h7
      exact RRet.mk rfl .bool (by first | decide | simp)
    ·have h8 := iteBT h3 hb
     refine rl.done (RW.cond_t rfl (RW.sreg (rl.run 1 rfl (rl.done ?_))))
     refine RW.keep [4] (a' := [(4, .bool false)]) (H' := [some ⟨[.int .i64 x0.Stamp, .int .i64 x0.NextGen, .int .i64 x0.NextSeq, .int .i64 x0.NextValid, .lst false 2 (fl (enc_TRef false) x0.Refs) x0.Refs.length], 0⟩, some ⟨[.int .i64 x1.Stamp, .int .i64 x1.NextGen, .int .i64 x1.NextSeq, .int .i64 x1.NextValid, .lst false 2 (fl (enc_TRef false) x1.Refs) x1.Refs.length], 0⟩]) rfl rfl ?_
     refine RW.ret ?_
     cases h8
     exact RRet.mk rfl .bool (by first | decide | simp)
   ·have h9 := iteBT h2 hb
    refine rl.done (RW.cond_t rfl (RW.sreg (rl.run 1 rfl (rl.done (RW.ret ?_)))))
    cases h9
    exact RRet.mk rfl .bool (by first | decide | simp)
  ·have h10 := iteBT h1 hb
   refine rl.done ?_
   refine RW.keep [2, 3, 14] (a' := [(2, .ptr 0 0), (3, .ptr 1 0), (14, .bool true)]) (H' := [some ⟨[.int .i64 x0.Stamp, .int .i64 x0.NextGen, .int .i64 x0.NextSeq, .int .i64 x0.NextValid, .lst false 2 (fl (enc_TRef false) x0.Refs) x0.Refs.length], 0⟩, some ⟨[.int .i64 x1.Stamp, .int .i64 x1.NextGen, .int .i64 x1.NextSeq, .int .i64 x1.NextValid, .lst false 2 (fl (enc_TRef false) x1.Refs) x1.Refs.length], 0⟩]) rfl rfl ?_
   refine RW.cond_t rfl (RW.sreg (rl.run 1 rfl (rl.done (RW.ret ?_))))
   cases h10
   exact RRet.mk rfl .bool (by first | decide | simp)
 ·have h11 := iteBT hF hb
  refine rl.done (RW.cond_t rfl (RW.sreg (rl.run 1 rfl (rl.done (RW.ret ?_)))))
  cases h11
  exact RRet.mk rfl .bool (by first | decide | simp)
theorem law_laws_markRefS_w {x0 : List TRef} {x1 : Int} {r : Int × (List TRef)} (hF : F_laws_markRefS_w x0 x1 = some r) : ACalls Try.prog 0 79 [.sl 0 0 x0.length, .int .i64 x1] [some ⟨fl (enc_TRef true) x0, 2⟩] (.int .i64 r.1) [some ⟨fl (enc_TRef true) r.2, 2⟩] := by
 refine ACalls.of_s k_laws_markRefS rfl ?_
 unfold F_laws_markRefS_w at hF
 refine RW.sreg (rl.run 1 rfl (rl.done (RW.seq (RW.sreg (rl.run 1 rfl (rl.done ?_))))))
 obtain ⟨y7, ey7, h2⟩ := bindS hF
 refine RW.cutq (σ := Int × (List TRef)) (fun y2 => [(1, .int .i64 y2.1)]) (fun y2 => [some ⟨fl (enc_TRef true) y2.2, 2⟩]) (fun y => y7 = y) (fun _ _ _ _ g h => RW.gh g h) ?_ ?_
 ·refine RW.blk ?_
  refine RW.iter (σ := Int × Int × (List TRef)) ey7 (fun s1 => [(0, .sl 0 0 s1.2.2.length), (1, .int .i64 s1.1), (5, .int .i64 s1.2.1)]) (fun s1 => [some ⟨fl (enc_TRef true) s1.2.2, 2⟩]) (Gh.renN [0] (.same rfl (ek_TRef.fref _ _) .nil) rfl rfl rfl (.cons rfl (.slq rfl rfl) (.cons rfl (.dat .int) (.cons rfl (.dat .int) .nil)))) (fun s1 B o hS1 hB1 hE1 => ?_)
  unfold S_laws_markRefS_w_1 at hS1
  refine RW.seq (RW.sreg (rl.run 3 rfl ?_))
  refine rl.gen rfl rfl fun b hb => ?_
  cases b
  ·have h3 := iteBF hS1 hb
   refine rl.done (RW.cond_f rfl (RW.exit (blkA_eq ?_)))
   cases h3
   exact ⟨_, (hE1 _ rfl).symm, (Gh.renN [0] (.same rfl (ek_TRef.fref _ _) .nil) rfl rfl rfl (.cons rfl (.dat .int) .nil))⟩
  ·have h4 := iteBT hS1 hb
   refine rl.done (RW.cond_t rfl (RW.skip (RW.seq (RW.blk (RW.sreg (rl.run 3 rfl ?_))))))
   obtain ⟨v3, e3, h5⟩ := bindS h4
   refine rl.op (x_ia_sl rfl rfl rfl rfl e3) ?_
   refine rl.run 1 rfl ?_
   obtain ⟨v4, e4, h6⟩ := bindS h5
   refine rl.op0 (x_st_sl' (off' := 0) (o := true) (e' := ({ No := s1.1, Gen := v3.Gen } : TRef)) ek_TRef e3 rfl rfl rfl rfl rfl rfl rfl rfl rfl e4) ?_
   refine rl.done (RW.sreg (rl.run 3 rfl (rl.done ?_)))
   refine RW.keep [0, 1, 5] (a' := [(0, .sl 0 0 s1.2.2.length), (1, .int .i64 (w64 (s1.1 + 1))), (5, .int .i64 s1.2.1)]) (H' := [some ⟨fl (enc_TRef true) v4, 2⟩]) rfl rfl ?_
   refine RW.sreg (rl.run 3 rfl ?_)
   obtain ⟨v5, e5, h7⟩ := bindS h6
   refine rl.op (x_ia_sl rfl rfl rfl (set'_len e4) e5) ?_
   refine rl.run 1 rfl ?_
   obtain ⟨v6, e6, h8⟩ := bindS h7
   refine rl.op0 (x_st_sl' (off' := 1) (o := true) (e' := ({ No := v5.No, Gen := w64 (s1.1 + 1) } : TRef)) ek_TRef e5 rfl rfl rfl rfl rfl rfl rfl rfl rfl e6) ?_
   refine rl.done (RW.reg (rl.run 3 rfl (rl.done (RW.reg (rl.run 3 rfl (rl.done ?_))))))
   cases h8
   exact hB1 _ rfl _ _ (Gh.renN [0] (.same rfl (ek_TRef.fref _ _) .nil) rfl rfl rfl (.cons rfl (.slq rfl ((set'_len e4).trans (set'_len e6))) (.cons rfl (.dat .int) (.cons rfl (.dat .int) .nil))))
 ·intro y2 hC
  subst hC
  refine RW.sreg (rl.run 2 rfl (rl.done (RW.ret ?_)))
  cases h2
  exact RRetS.mk rfl .int (Gh.renN [0] (.same rfl (ek_TRef.fref _ _) .nil) rfl rfl rfl .nil)
theorem law_laws_markCheck_w {x0 : Int} {x1 : Int} {x2 : Int} {x3 : Int} {x4 : List TRef} {x5 : Int} {r : Int × (List TRef)} (hF : F_laws_markCheck_w x0 x1 x2 x3 x4 x5 = some r) : ACalls Try.prog 0 38 [.agg [.int .i64 x0, .int .i64 x1, .int .i64 x2, .int .i64 x3, .sl 0 0 x4.length], .int .i64 x5] [some ⟨fl (enc_TRef true) x4, 2⟩] (.int .i64 r.1) [some ⟨fl (enc_TRef true) r.2, 2⟩] := by
 refine ACalls.of_s k_laws_markCheck rfl ?_
 unfold F_laws_markCheck_w at hF
 refine RW.sreg (rl.run 2 rfl (rl.done (RW.sreg (rl.run 3 rfl ?_))))
 obtain ⟨v1, e1, h1⟩ := bindS hF
 refine rl.call rfl rfl rfl (CallW.embW (r0 := .int .i64 v1.1) (H' := [some ⟨fl (enc_TRef true) v1.2, 2⟩, some ⟨[.int .i64 x0, .int .i64 x1, .int .i64 x2, .int .i64 x3, .sl 0 0 x4.length], 0⟩]) [⟨fl (enc_TRef true) x4, 2⟩] [⟨fl (enc_TRef true) v1.2, 2⟩] [0] ok_laws_markRefS (law_laws_markRefS_w (guardO_s e1)) (.cons rfl (ek_TRef.fref _ _) (ek_TRef.fown _) .nil) rfl (.cons (.slq rfl rfl) (.cons (.dat .int) .nil)) .int rfl rfl ?_)
 refine rl.run 1 rfl (rl.done (RW.sreg (rl.run 2 rfl (rl.done (RW.ret ?_)))))
 cases h1
 exact RRetS.mk rfl .int (Gh.renN [0] (.same rfl (ek_TRef.fref _ _) .nil) rfl rfl rfl .nil)
theorem law_laws_heldRefS {x0 : List TRef} {x1 : Int} {r : Int} (hF : F_laws_heldRefS x0 x1 = some r) : PCalls Try.prog 80 [.lst false 2 (fl (enc_TRef false) x0) x0.length, .int .i64 x1] (.int .i64 r) := by
 refine PCalls.of_r k_laws_heldRefS rfl ?_
 unfold F_laws_heldRefS at hF
 refine RW.sreg (rl.run 1 rfl (rl.done (RW.seq (RW.sreg (rl.run 1 rfl (rl.done ?_))))))
 obtain ⟨y5, ey5, h2⟩ := bindS hF
 refine RW.cutq (σ := Int) (fun y2 => [(1, .int .i64 y2)]) (fun y2 => []) (fun y => y5 = .inr y) (fun _ _ _ _ g h => RW.gh g h) ?_ ?_
 ·refine RW.blk ?_
  refine RW.iter (σ := Int × Int) ey5 (fun s1 => [(0, .lst false 2 (fl (enc_TRef false) x0) x0.length), (1, .int .i64 s1.1), (5, .int .i64 s1.2)]) (fun s1 => []) (Gh.ren0 [] .nil rfl (.cons rfl (.dat (ek_TRef.rlst)) (.cons rfl (.dat .int) (.cons rfl (.dat .int) .nil)))) (fun s1 B o hS1 hB1 hE1 => ?_)
  unfold S_laws_heldRefS_1 at hS1
  refine RW.seq (RW.sreg (rl.run 3 rfl ?_))
  refine rl.gen rfl rfl fun b hb => ?_
  cases b
  ·have h3 := iteBF hS1 hb
   refine rl.done (RW.cond_f rfl (RW.exit (blkA_eq ?_)))
   cases h3
   exact ⟨_, (hE1 _ rfl).symm, (Gh.ren0 [] .nil rfl (.cons rfl (.dat .int) .nil))⟩
  ·have h4 := iteBT hS1 hb
   refine rl.done (RW.cond_t rfl (RW.skip (RW.seq (RW.blk (RW.seq (RW.sreg (rl.run 2 rfl ?_)))))))
   obtain ⟨v3, e3, h5⟩ := bindS h4
   refine rl.op (x_ia_lst (enc := enc_TRef) (o := false) rfl rfl rfl e3) ?_
   refine rl.run 1 rfl ?_
   refine rl.op (x_ld_el (off' := 0) ek_TRef rfl e3 rfl rfl rfl) ?_
   refine rl.run 1 rfl ?_
   refine rl.gen rfl rfl fun b hb => ?_
   cases b
   ·have h6 := iteBF h5 hb
    refine rl.done (RW.cond_f rfl (RW.skip (RW.sreg (rl.run 3 rfl (rl.done ?_)))))
    refine RW.keep [0, 1, 5] (a' := [(0, .lst false 2 (fl (enc_TRef false) x0) x0.length), (1, .int .i64 (w64 (s1.1 + 1))), (5, .int .i64 s1.2)]) (H' := []) rfl rfl ?_
    refine RW.seq (RW.sreg (rl.run 2 rfl ?_))
    obtain ⟨v4, e4, h7⟩ := bindS h6
    refine rl.op (x_ia_lst (enc := enc_TRef) (o := false) rfl rfl rfl e4) ?_
    refine rl.run 1 rfl ?_
    refine rl.op (x_ld_el (off' := 1) ek_TRef rfl e4 rfl rfl rfl) ?_
    refine rl.run 1 rfl ?_
    refine rl.gen rfl rfl fun b hb => ?_
    cases b
    ·have h8 := iteBF h7 hb
     refine rl.done (RW.cond_f rfl (RW.skip (RW.reg (rl.run 3 rfl (rl.done (RW.reg (rl.run 3 rfl (rl.done ?_))))))))
     cases h8
     exact hB1 _ rfl _ _ (Gh.ren0 [] .nil rfl (.cons rfl (.dat (ek_TRef.rlst)) (.cons rfl (.dat .int) (.cons rfl (.dat .int) .nil))))
    ·have h9 := iteBT h7 hb
     refine rl.done (RW.cond_t rfl (RW.sreg (rl.run 1 rfl (rl.done (RW.ret ?_)))))
     cases h9
     have h10 := elimL h2 (hE1 _ rfl)
     cases h10
     exact RRet.mk rfl .int (by first | decide | simp)
   ·have h11 := iteBT h5 hb
    refine rl.done (RW.cond_t rfl (RW.sreg (rl.run 1 rfl (rl.done ?_))))
    refine RW.keep [4] (a' := [(4, .int .i64 (-1))]) (H' := []) rfl rfl ?_
    refine RW.ret ?_
    cases h11
    have h12 := elimL h2 (hE1 _ rfl)
    cases h12
    exact RRet.mk rfl .int (by first | decide | simp)
 ·intro y2 hC
  have h2 := elimR h2 hC
  refine RW.sreg (rl.run 2 rfl (rl.done (RW.ret ?_)))
  cases h2
  exact RRet.mk rfl .int (by first | decide | simp)
theorem law_laws_heldCheck {x0 : TCheck} {x1 : Int} {r : Int} (hF : F_laws_heldCheck x0 x1 = some r) : PCalls Try.prog 39 [.agg (enc_TCheck false x0), .int .i64 x1] (.int .i64 r) := by
 refine PCalls.of_r k_laws_heldCheck rfl ?_
 unfold F_laws_heldCheck at hF
 refine RW.sreg (rl.run 2 rfl (rl.done (RW.sreg (rl.run 3 rfl ?_))))
 obtain ⟨v1, e1, h1⟩ := bindS hF
 refine rl.call rfl rfl rfl (CallW.val (r' := .int .i64 v1) ok_laws_heldRefS (law_laws_heldRefS e1) (.cons (.lst ek_TRef) (.cons .int .nil)) .refl ?_)
 refine rl.run 1 rfl (rl.done (RW.seq (RW.sreg (rl.run 1 rfl ?_))))
 refine rl.gen rfl rfl fun b hb => ?_
 cases b
 ·have h2 := iteBF h1 hb
  refine rl.done (RW.cond_f rfl (RW.skip (RW.sreg (rl.run 2 rfl (rl.done (RW.ret ?_))))))
  cases h2
  exact RRet.mk rfl .int (by first | decide | simp)
 ·have h3 := iteBT h1 hb
  refine rl.done (RW.cond_t rfl (RW.sreg (rl.run 1 rfl (rl.done (RW.ret ?_)))))
  cases h3
  exact RRet.mk rfl .int (by first | decide | simp)
theorem law_laws_szStringS {x0 : List (List UInt8)} {x1 : Int} {r : Int} (hF : F_laws_szStringS x0 x1 = some r) : PCalls Try.prog 81 [.lst false 1 (fl (encS false) x0) x0.length, .int .i64 x1] (.int .i64 r) := by
 refine PCalls.of_r k_laws_szStringS rfl ?_
 unfold F_laws_szStringS at hF
 refine RW.sreg (rl.run 1 rfl (rl.done (RW.sreg (rl.run 5 rfl (rl.done (RW.seq (RW.sreg (rl.run 1 rfl ?_))))))))
 refine rl.gen rfl rfl fun b hb => ?_
 cases b
 ·have h1 := iteBF hF hb
  refine rl.done (RW.cond_f rfl (RW.skip (RW.seq (RW.sreg (rl.run 1 rfl (rl.done ?_))))))
  obtain ⟨y4, ey4, h3⟩ := bindS h1
  refine RW.cutq (σ := Int) (fun y2 => [(1, .int .i64 y2)]) (fun y2 => []) (fun y => y4 = .inr y) (fun _ _ _ _ g h => RW.gh g h) ?_ ?_
  ·refine RW.blk ?_
   refine RW.iter (σ := Int × Int) ey4 (fun s1 => [(0, .lst false 1 (fl (encS false) x0) x0.length), (1, .int .i64 s1.1), (5, .int .i64 s1.2)]) (fun s1 => []) (Gh.ren0 [] .nil rfl (.cons rfl (.dat (ekS.rlst)) (.cons rfl (.dat .int) (.cons rfl (.dat .int) .nil)))) (fun s1 B o hS2 hB2 hE2 => ?_)
   unfold S_laws_szStringS_1 at hS2
   refine RW.seq (RW.sreg (rl.run 3 rfl ?_))
   refine rl.gen rfl rfl fun b hb => ?_
   cases b
   ·have h4 := iteBF hS2 hb
    refine rl.done (RW.cond_f rfl (RW.exit (blkA_eq ?_)))
    cases h4
    exact ⟨_, (hE2 _ rfl).symm, (Gh.ren0 [] .nil rfl (.cons rfl (.dat .int) .nil))⟩
   ·have h5 := iteBT hS2 hb
    refine rl.done (RW.cond_t rfl (RW.skip (RW.seq (RW.blk (RW.sreg (rl.run 3 rfl ?_))))))
    obtain ⟨v3, e3, h6⟩ := bindS h5
    refine rl.op (x_ia_lst (enc := encS) (o := false) rfl rfl rfl e3) ?_
    refine rl.op (x_ld_el (off' := 0) ekS rfl e3 rfl rfl rfl) ?_
    refine rl.run 3 rfl (rl.done ?_)
    refine RW.keep [0, 1, 5] (a' := [(0, .lst false 1 (fl (encS false) x0) x0.length), (1, .int .i64 (w64 (s1.1 - (v3.length : Int)))), (5, .int .i64 s1.2)]) (H' := []) rfl rfl ?_
    refine RW.sreg (rl.run 1 rfl ?_)
    refine rl.gen rfl rfl fun b hb => ?_
    cases b
    ·have h7 := iteBF h6 hb
     refine rl.done (RW.cond_f rfl (RW.skip (RW.reg (rl.run 3 rfl (rl.done ?_)))))
     cases h7
     exact hB2 _ rfl _ _ (Gh.ren0 [] .nil rfl (.cons rfl (.dat (ekS.rlst)) (.cons rfl (.dat .int) (.cons rfl (.dat .int) .nil))))
    ·have h8 := iteBT h6 hb
     refine rl.done (RW.cond_t rfl (RW.sreg (rl.run 1 rfl (rl.done (RW.ret ?_)))))
     cases h8
     have h9 := elimL h3 (hE2 _ rfl)
     cases h9
     exact RRet.mk rfl .int (by first | decide | simp)
  ·intro y2 hC
   have h3 := elimR h3 hC
   refine RW.sreg (rl.run 2 rfl (rl.done (RW.ret ?_)))
   cases h3
   exact RRet.mk rfl .int (by first | decide | simp)
 ·have h10 := iteBT hF hb
  refine rl.done (RW.cond_t rfl (RW.sreg (rl.run 1 rfl (rl.done (RW.ret ?_)))))
  cases h10
  exact RRet.mk rfl .int (by first | decide | simp)
theorem law_laws_szWrite {x0 : TWrite} {x1 : Int} {r : Int} (hF : F_laws_szWrite x0 x1 = some r) : PCalls Try.prog 146 [.agg (enc_TWrite false x0), .int .i64 x1] (.int .i64 r) := by
 refine PCalls.of_r k_laws_szWrite rfl ?_
 unfold F_laws_szWrite at hF
 refine RW.sreg (rl.run 2 rfl (rl.done (RW.sreg (rl.run 6 rfl (rl.done (RW.seq (RW.sreg (rl.run 1 rfl ?_))))))))
 refine rl.gen rfl rfl fun b hb => ?_
 cases b
 ·have h1 := iteBF hF hb
  refine rl.done (RW.cond_f rfl (RW.skip (RW.sreg (rl.run 2 rfl (rl.done ?_)))))
  refine RW.keep [4] (a' := [(4, .int .i64 (w64 (x1 - (x0.Text.length : Int))))]) (H' := [some ⟨[.int .i64 x0.At, .str x0.Text], 0⟩]) rfl rfl ?_
  refine RW.ret ?_
  cases h1
  exact RRet.mk rfl .int (by first | decide | simp)
 ·have h2 := iteBT hF hb
  refine rl.done (RW.cond_t rfl (RW.sreg (rl.run 1 rfl (rl.done (RW.ret ?_)))))
  cases h2
  exact RRet.mk rfl .int (by first | decide | simp)
theorem law_laws_szWriteS {x0 : List TWrite} {x1 : Int} {r : Int} (hF : F_laws_szWriteS x0 x1 = some r) : PCalls Try.prog 82 [.lst false 2 (fl (enc_TWrite false) x0) x0.length, .int .i64 x1] (.int .i64 r) := by
 refine PCalls.of_r k_laws_szWriteS rfl ?_
 unfold F_laws_szWriteS at hF
 refine RW.sreg (rl.run 1 rfl (rl.done (RW.sreg (rl.run 5 rfl (rl.done (RW.seq (RW.sreg (rl.run 1 rfl ?_))))))))
 refine rl.gen rfl rfl fun b hb => ?_
 cases b
 ·have h1 := iteBF hF hb
  refine rl.done (RW.cond_f rfl (RW.skip (RW.seq (RW.sreg (rl.run 1 rfl (rl.done ?_))))))
  obtain ⟨y5, ey5, h3⟩ := bindS h1
  refine RW.cutq (σ := Int) (fun y2 => [(1, .int .i64 y2)]) (fun y2 => []) (fun y => y5 = .inr y) (fun _ _ _ _ g h => RW.gh g h) ?_ ?_
  ·refine RW.blk ?_
   refine RW.iter (σ := Int × Int) ey5 (fun s1 => [(0, .lst false 2 (fl (enc_TWrite false) x0) x0.length), (1, .int .i64 s1.1), (5, .int .i64 s1.2)]) (fun s1 => []) (Gh.ren0 [] .nil rfl (.cons rfl (.dat (ek_TWrite.rlst)) (.cons rfl (.dat .int) (.cons rfl (.dat .int) .nil)))) (fun s1 B o hS2 hB2 hE2 => ?_)
   unfold S_laws_szWriteS_1 at hS2
   refine RW.seq (RW.sreg (rl.run 3 rfl ?_))
   refine rl.gen rfl rfl fun b hb => ?_
   cases b
   ·have h4 := iteBF hS2 hb
    refine rl.done (RW.cond_f rfl (RW.exit (blkA_eq ?_)))
    cases h4
    exact ⟨_, (hE2 _ rfl).symm, (Gh.ren0 [] .nil rfl (.cons rfl (.dat .int) .nil))⟩
   ·have h5 := iteBT hS2 hb
    refine rl.done (RW.cond_t rfl (RW.skip (RW.seq (RW.blk (RW.sreg (rl.run 2 rfl ?_))))))
    obtain ⟨v3, e3, h6⟩ := bindS h5
    refine rl.op (x_ia_lst (enc := enc_TWrite) (o := false) rfl rfl rfl e3) ?_
    refine rl.op (x_ld_ela (off' := 0) (vs := (enc_TWrite false v3)) ek_TWrite rfl e3 rfl rfl rfl) ?_
    refine rl.run 1 rfl ?_
    obtain ⟨v4, e4, h7⟩ := bindS h6
    refine rl.call rfl rfl rfl (CallW.val (r' := .int .i64 v4) ok_laws_szWrite (law_laws_szWrite e4) (.cons (.dat (.agg (ek_TWrite.dat false _))) (.cons .int .nil)) .refl ?_)
    refine rl.run 1 rfl (rl.done (RW.sreg (rl.run 1 rfl ?_)))
    refine rl.gen rfl rfl fun b hb => ?_
    cases b
    ·have h8 := iteBF h7 hb
     refine rl.done ?_
     refine RW.keep [0, 1, 5, 25] (a' := [(0, .lst false 2 (fl (enc_TWrite false) x0) x0.length), (1, .int .i64 v4), (5, .int .i64 s1.2), (25, .bool false)]) (H' := []) rfl rfl ?_
     refine RW.cond_f rfl (RW.skip (RW.reg (rl.run 3 rfl (rl.done ?_))))
     cases h8
     exact hB2 _ rfl _ _ (Gh.ren0 [] .nil rfl (.cons rfl (.dat (ek_TWrite.rlst)) (.cons rfl (.dat .int) (.cons rfl (.dat .int) .nil))))
    ·have h9 := iteBT h7 hb
     refine rl.done ?_
     refine RW.keep [0, 1, 5, 25] (a' := [(0, .lst false 2 (fl (enc_TWrite false) x0) x0.length), (1, .int .i64 v4), (5, .int .i64 s1.2), (25, .bool true)]) (H' := []) rfl rfl ?_
     refine RW.cond_t rfl (RW.sreg (rl.run 1 rfl (rl.done (RW.ret ?_))))
     cases h9
     have h10 := elimL h3 (hE2 _ rfl)
     cases h10
     exact RRet.mk rfl .int (by first | decide | simp)
  ·intro y2 hC
   have h3 := elimR h3 hC
   refine RW.sreg (rl.run 2 rfl (rl.done (RW.ret ?_)))
   cases h3
   exact RRet.mk rfl .int (by first | decide | simp)
 ·have h11 := iteBT hF hb
  refine rl.done (RW.cond_t rfl (RW.sreg (rl.run 1 rfl (rl.done (RW.ret ?_)))))
  cases h11
  exact RRet.mk rfl .int (by first | decide | simp)
theorem law_laws_szDisk {x0 : TDisk} {x1 : Int} {r : Int} (hF : F_laws_szDisk x0 x1 = some r) : PCalls Try.prog 40 [.agg (enc_TDisk false x0), .int .i64 x1] (.int .i64 r) := by
 refine PCalls.of_r k_laws_szDisk rfl ?_
 unfold F_laws_szDisk at hF
 refine RW.sreg (rl.run 2 rfl (rl.done (RW.sreg (rl.run 3 rfl ?_))))
 obtain ⟨v1, e1, h1⟩ := bindS hF
 refine rl.call rfl rfl rfl (CallW.val (r' := .int .i64 v1) ok_laws_szStringS (law_laws_szStringS e1) (.cons (.lst ekS) (.cons .int .nil)) .refl ?_)
 refine rl.run 1 rfl (rl.done (RW.seq (RW.sreg (rl.run 1 rfl ?_))))
 refine rl.gen rfl rfl fun b hb => ?_
 cases b
 ·have h2 := iteBF h1 hb
  refine rl.done (RW.cond_f rfl (RW.skip (RW.sreg (rl.run 3 rfl ?_))))
  obtain ⟨v2, e2, h3⟩ := bindS h2
  refine rl.call rfl rfl rfl (CallW.val (r' := .int .i64 v2) ok_laws_szWriteS (law_laws_szWriteS e2) (.cons (.lst ek_TWrite) (.cons .int .nil)) .refl ?_)
  refine rl.run 1 rfl (rl.done ?_)
  refine RW.keep [1] (a' := [(1, .int .i64 v2)]) (H' := [some ⟨[.lst false 1 (fl (encS false) x0.Sectors) x0.Sectors.length, .lst false 2 (fl (enc_TWrite false) x0.Cache) x0.Cache.length], 0⟩]) rfl rfl ?_
  refine RW.seq (RW.sreg (rl.run 1 rfl ?_))
  refine rl.gen rfl rfl fun b hb => ?_
  cases b
  ·have h4 := iteBF h3 hb
   refine rl.done (RW.cond_f rfl (RW.skip (RW.sreg (rl.run 2 rfl (rl.done (RW.ret ?_))))))
   cases h4
   exact RRet.mk rfl .int (by first | decide | simp)
  ·have h5 := iteBT h3 hb
   refine rl.done (RW.cond_t rfl (RW.sreg (rl.run 1 rfl (rl.done (RW.ret ?_)))))
   cases h5
   exact RRet.mk rfl .int (by first | decide | simp)
 ·have h6 := iteBT h1 hb
  refine rl.done (RW.cond_t rfl (RW.sreg (rl.run 1 rfl (rl.done (RW.ret ?_)))))
  cases h6
  exact RRet.mk rfl .int (by first | decide | simp)
theorem law_spec_l01In {x0 : Int} {x1 : Int} {x2 : Int} {r : Bool} (hF : F_spec_l01In x0 x1 x2 = some r) : PCalls Try.prog 113 [.int .i64 x0, .int .i64 x1, .int .i64 x2] (.bool r) := by
 refine PCalls.of_r k_spec_l01In rfl ?_
 unfold F_spec_l01In at hF
 refine RW.sreg (rl.run 1 rfl (rl.done (RW.sreg (rl.run 2 rfl ?_))))
 refine rl.gen rfl rfl fun b hb => ?_
 cases b
 ·have h1 := iteBF hF hb
  refine rl.run 6 rfl (rl.done ?_)
  refine RW.keep [6] (a' := [(6, .bool false)]) (H' := []) rfl rfl ?_
  refine RW.ret ?_
  cases h1
  exact RRet.mk rfl .bool (by first | decide | simp)
 ·have h2 := iteBT hF hb
  refine rl.run 6 rfl (rl.done ?_)
  refine RW.keep [6] (a' := [(6, .bool (decide (x0 ≤ x2)))]) (H' := []) rfl rfl ?_
  refine RW.ret ?_
  cases h2
  exact RRet.mk rfl .bool (by first | decide | simp)
theorem law_spec_ReadSector {x0 : TDisk} {x1 : Int} {r : (List UInt8) × Bool} (hF : F_spec_ReadSector x0 x1 = some r) : PCalls Try.prog 147 [.agg (enc_TDisk false x0), .int .i64 x1] (.tup [.str r.1, .bool r.2]) := by
 refine PCalls.of_r k_spec_ReadSector rfl ?_
 unfold F_spec_ReadSector at hF
 refine RW.sreg (rl.run 3 rfl (rl.done (RW.seq (RW.sreg (rl.run 5 rfl ?_)))))
 obtain ⟨v1, e1, h1⟩ := bindS hF
 refine rl.call rfl rfl rfl (CallW.val (r' := .bool v1) ok_spec_l01In (law_spec_l01In e1) (.cons .int (.cons .int (.cons .int .nil))) .refl ?_)
 cases hb : v1
 ·have h2 := iteBF h1 hb
  refine rl.run 1 rfl (rl.done (RW.cond_t rfl (RW.sreg (rl.run 2 rfl (rl.done (RW.ret ?_))))))
  cases h2
  exact RRet.mk rfl (OutT.tup (.cons .str (.cons .bool .nil))) (by first | decide | simp)
 ·have h3 := iteBT h1 hb
  refine rl.run 1 rfl (rl.done (RW.cond_f rfl (RW.skip (RW.seq (RW.sreg (rl.run 5 rfl (rl.done ?_)))))))
  refine RW.keep [1, 2, 6] (a' := [(1, .int .i64 x1), (2, .ptr 0 0), (6, .int .i64 (w64 ((x0.Cache.length : Int) - 1)))]) (H' := [some ⟨[.lst false 1 (fl (encS false) x0.Sectors) x0.Sectors.length, .lst false 2 (fl (enc_TWrite false) x0.Cache) x0.Cache.length], 0⟩]) rfl rfl ?_
  obtain ⟨y6, ey6, h5⟩ := bindS h3
  refine RW.cutq (σ := Unit) (fun y3 => [(1, .int .i64 x1), (2, .ptr 0 0)]) (fun y3 => [some ⟨[.lst false 1 (fl (encS false) x0.Sectors) x0.Sectors.length, .lst false 2 (fl (enc_TWrite false) x0.Cache) x0.Cache.length], 0⟩]) (fun y => y6 = .inr y) (fun _ _ _ _ g h => RW.gh g h) ?_ ?_
  ·refine RW.blk ?_
   refine RW.iter (σ := Int) ey6 (fun s2 => [(1, .int .i64 x1), (2, .ptr 0 0), (6, .int .i64 s2)]) (fun s2 => [some ⟨[.lst false 1 (fl (encS false) x0.Sectors) x0.Sectors.length, .lst false 2 (fl (enc_TWrite false) x0.Cache) x0.Cache.length], 0⟩]) (Gh.ren0 [0] (.cells rfl rfl (.keep (ekS.rlst) (.keep (ek_TWrite.rlst) .nil)) .nil) rfl (.cons rfl (.dat .int) (.cons rfl (.ptr rfl) (.cons rfl (.dat .int) .nil)))) (fun s2 B o hS4 hB4 hE4 => ?_)
   unfold S_spec_ReadSector_1 at hS4
   refine RW.seq (RW.sreg (rl.run 1 rfl ?_))
   refine rl.gen rfl rfl fun b hb => ?_
   cases b
   ·have h6 := iteBF hS4 hb
    refine rl.done (RW.cond_f rfl (RW.exit (blkA_eq ?_)))
    cases h6
    exact ⟨_, (hE4 _ rfl).symm, (Gh.ren0 [0] (.cells rfl rfl (.keep (ekS.rlst) (.keep (ek_TWrite.rlst) .nil)) .nil) rfl (.cons rfl (.dat .int) (.cons rfl (.ptr rfl) .nil)))⟩
   ·have h7 := iteBT hS4 hb
    refine rl.done (RW.cond_t rfl (RW.skip (RW.seq (RW.blk (RW.sreg (rl.run 3 rfl ?_))))))
    obtain ⟨v4, e4, h8⟩ := bindS h7
    refine rl.op (x_ia_lst (enc := enc_TWrite) (o := false) rfl rfl rfl e4) ?_
    refine rl.run 1 rfl ?_
    refine rl.op (x_ld_el (off' := 0) ek_TWrite rfl e4 rfl rfl rfl) ?_
    refine rl.run 1 rfl ?_
    refine rl.gen rfl rfl fun b hb => ?_
    cases b
    ·have h9 := iteBF h8 hb
     refine rl.done (RW.cond_f rfl (RW.skip (RW.reg (rl.run 3 rfl (rl.done ?_)))))
     cases h9
     exact hB4 _ rfl _ _ (Gh.ren0 [0] (.cells rfl rfl (.keep (ekS.rlst) (.keep (ek_TWrite.rlst) .nil)) .nil) rfl (.cons rfl (.dat .int) (.cons rfl (.ptr rfl) (.cons rfl (.dat .int) .nil))))
    ·have h10 := iteBT h8 hb
     refine rl.done (RW.cond_t rfl (RW.sreg (rl.run 3 rfl ?_)))
     obtain ⟨v5, e5, h11⟩ := bindS h10
     refine rl.op (x_ia_lst (enc := enc_TWrite) (o := false) rfl rfl rfl e5) ?_
     refine rl.run 1 rfl ?_
     refine rl.op (x_ld_el (off' := 1) ek_TWrite rfl e5 rfl rfl rfl) ?_
     refine rl.run 2 rfl (rl.done ?_)
     refine RW.keep [4, 5] (a' := [(4, .str v5.Text), (5, .bool true)]) (H' := [some ⟨[.lst false 1 (fl (encS false) x0.Sectors) x0.Sectors.length, .lst false 2 (fl (enc_TWrite false) x0.Cache) x0.Cache.length], 0⟩]) rfl rfl ?_
     refine RW.ret ?_
     cases h11
     have h12 := elimL h5 (hE4 _ rfl)
     cases h12
     exact RRet.mk rfl (OutT.tup (.cons .str (.cons .bool .nil))) (by first | decide | simp)
  ·intro y3 hC
   have h5 := elimR h5 hC
   refine RW.sreg (rl.run 3 rfl ?_)
   obtain ⟨v7, e7, h13⟩ := bindS h5
   refine rl.op (x_ia_lst (enc := encS) (o := false) rfl rfl rfl e7) ?_
   refine rl.op (x_ld_el (off' := 0) ekS rfl e7 rfl rfl rfl) ?_
   refine rl.run 2 rfl (rl.done (RW.ret ?_))
   cases h13
   exact RRet.mk rfl (OutT.tup (.cons .str (.cons .bool .nil))) (by first | decide | simp)
theorem law_spec_SectorText {x0 : TDisk} {x1 : Int} {x2 : Int} {r : (List UInt8) × Bool} (hF : F_spec_SectorText x0 x1 x2 = some r) : PCalls Try.prog 83 [.agg (enc_TDisk false x0), .int .i64 x1, .int .i64 x2] (.tup [.str r.1, .bool r.2]) := by
 refine PCalls.of_r k_spec_SectorText rfl ?_
 unfold F_spec_SectorText at hF
 refine RW.sreg (rl.run 3 rfl (rl.done (RW.seq (RW.sreg (rl.run 1 rfl ?_)))))
 obtain ⟨v1, e1, h1⟩ := bindS hF
 refine rl.call rfl rfl rfl (CallW.val (r' := .bool v1) ok_spec_l01In (law_spec_l01In e1) (.cons .int (.cons .int (.cons .int .nil))) .refl ?_)
 cases hb : v1
 ·have h2 := iteBF h1 hb
  refine rl.run 1 rfl (rl.done (RW.cond_t rfl (RW.sreg (rl.run 2 rfl (rl.done (RW.ret ?_))))))
  cases h2
  exact RRet.mk rfl (OutT.tup (.cons .str (.cons .bool .nil))) (by first | decide | simp)
 ·have h3 := iteBT h1 hb
  refine rl.run 1 rfl (rl.done (RW.cond_f rfl (RW.skip (RW.sreg (rl.run 1 rfl (rl.done (RW.seq (RW.sreg (rl.run 1 rfl (rl.done ?_))))))))))
  obtain ⟨y7, ey7, h5⟩ := bindS h3
  refine RW.cutq (σ := (List UInt8)) (fun y3 => [(8, .str y3)]) (fun y3 => []) (fun y => y7 = .inr y) (fun _ _ _ _ g h => RW.gh g h) ?_ ?_
  ·refine RW.blk ?_
   refine RW.iter (σ := (List UInt8) × Int) ey7 (fun s2 => [(1, .int .i64 x1), (2, .int .i64 x2), (3, .ptr 0 0), (8, .str s2.1), (9, .int .i64 s2.2)]) (fun s2 => [some ⟨[.lst false 1 (fl (encS false) x0.Sectors) x0.Sectors.length, .lst false 2 (fl (enc_TWrite false) x0.Cache) x0.Cache.length], 0⟩]) (Gh.ren0 [0] (.cells rfl rfl (.keep (ekS.rlst) (.keep (ek_TWrite.rlst) .nil)) .nil) rfl (.cons rfl (.dat .int) (.cons rfl (.dat .int) (.cons rfl (.ptr rfl) (.cons rfl (.dat .str) (.cons rfl (.dat .int) .nil)))))) (fun s2 B o hS4 hB4 hE4 => ?_)
   unfold S_spec_SectorText_1 at hS4
   refine RW.seq (RW.sreg (rl.run 2 rfl ?_))
   refine rl.gen rfl rfl fun b hb => ?_
   cases b
   ·have h6 := iteBF hS4 hb
    refine rl.done (RW.cond_f rfl (RW.exit (blkA_eq ?_)))
    cases h6
    exact ⟨_, (hE4 _ rfl).symm, (Gh.ren0 [] .nil rfl (.cons rfl (.dat .str) .nil))⟩
   ·have h7 := iteBT hS4 hb
    refine rl.done (RW.cond_t rfl (RW.skip (RW.seq (RW.blk (RW.seq (RW.seq ?_))))))
    obtain ⟨y4, ey4, h8⟩ := bindS h7
    refine RW.cutq (σ := Bool) (fun y4 => [(1, .int .i64 x1), (2, .int .i64 x2), (3, .ptr 0 0), (8, .str s2.1), (9, .int .i64 s2.2), (28, .bool y4)]) (fun y4 => [some ⟨[.lst false 1 (fl (encS false) x0.Sectors) x0.Sectors.length, .lst false 2 (fl (enc_TWrite false) x0.Cache) x0.Cache.length], 0⟩]) (fun y => y4 = y) (fun _ _ _ _ g h => RW.gh g h) ?_ ?_
    ·refine RW.reg ?_
     refine rl.run 1 rfl ?_
     refine rl.gen rfl rfl fun b hb => ?_
     cases b
     ·have h9 := iteBF ey4 hb
      refine rl.run 5 rfl ?_
      refine rl.gen rfl rfl fun b hb => ?_
      cases b
      ·have h10 := iteBF h9 hb
       refine rl.run 1 rfl (rl.done ?_)
       cases h10
       exact ⟨_, rfl, (Gh.ren0 [0] (.cells rfl rfl (.keep (ekS.rlst) (.keep (ek_TWrite.rlst) .nil)) .nil) rfl (.cons rfl (.dat .int) (.cons rfl (.dat .int) (.cons rfl (.ptr rfl) (.cons rfl (.dat .str) (.cons rfl (.dat .int) (.cons rfl (.dat .bool) .nil)))))))⟩
      ·have h11 := iteBT h9 hb
       refine rl.run 1 rfl (rl.done ?_)
       cases h11
       exact ⟨_, rfl, (Gh.ren0 [0] (.cells rfl rfl (.keep (ekS.rlst) (.keep (ek_TWrite.rlst) .nil)) .nil) rfl (.cons rfl (.dat .int) (.cons rfl (.dat .int) (.cons rfl (.ptr rfl) (.cons rfl (.dat .str) (.cons rfl (.dat .int) (.cons rfl (.dat .bool) .nil)))))))⟩
     ·have h12 := iteBT ey4 hb
      refine rl.run 7 rfl (rl.done ?_)
      cases h12
      exact ⟨_, rfl, (Gh.ren0 [0] (.cells rfl rfl (.keep (ekS.rlst) (.keep (ek_TWrite.rlst) .nil)) .nil) rfl (.cons rfl (.dat .int) (.cons rfl (.dat .int) (.cons rfl (.ptr rfl) (.cons rfl (.dat .str) (.cons rfl (.dat .int) (.cons rfl (.dat .bool) .nil)))))))⟩
    ·intro y hC
     subst hC
     cases hb : y4
     ·have h13 := iteBF h8 hb
      refine RW.cond_f rfl (RW.skip (RW.sreg (rl.run 4 rfl ?_)))
      obtain ⟨v5, e5, h14⟩ := bindS h13
      refine rl.call rfl rfl rfl (CallW.val (r' := .tup [.str v5.1, .bool v5.2]) ok_spec_ReadSector (law_spec_ReadSector e5) (.cons (DFL.agg (.cons (.lst ekS) (.cons (.lst ek_TWrite) .nil))) (.cons .int .nil)) (FlL.tup (.cons .refl (.cons .refl .nil))) ?_)
      refine rl.run 5 rfl (rl.done (RW.seq (RW.sreg (rl.run 2 rfl (rl.done ?_)))))
      refine RW.keep [1, 2, 3, 8, 9, 10, 38] (a' := [(1, .int .i64 x1), (2, .int .i64 x2), (3, .ptr 0 0), (8, .str s2.1), (9, .int .i64 s2.2), (10, .str v5.1), (38, .bool (!v5.2))]) (H' := [some ⟨[.lst false 1 (fl (encS false) x0.Sectors) x0.Sectors.length, .lst false 2 (fl (enc_TWrite false) x0.Cache) x0.Cache.length], 0⟩]) rfl rfl ?_
      cases hb : (!v5.2)
      ·have h15 := iteBF h14 hb
       refine RW.cond_f rfl (RW.skip (RW.reg (rl.run 2 rfl ?_)))
       obtain ⟨v6, e6, h16⟩ := bindS h15
       refine rl.op (x_cat rfl rfl e6) ?_
       refine rl.run 1 rfl (rl.done (RW.reg (rl.run 3 rfl (rl.done ?_))))
       cases h16
       exact hB4 _ rfl _ _ (Gh.ren0 [0] (.cells rfl rfl (.keep (ekS.rlst) (.keep (ek_TWrite.rlst) .nil)) .nil) rfl (.cons rfl (.dat .int) (.cons rfl (.dat .int) (.cons rfl (.ptr rfl) (.cons rfl (.dat .str) (.cons rfl (.dat .int) .nil))))))
      ·have h17 := iteBT h14 hb
       refine RW.cond_t rfl (RW.sreg (rl.run 2 rfl (rl.done (RW.ret ?_))))
       cases h17
       have h18 := elimL h5 (hE4 _ rfl)
       cases h18
       exact RRet.mk rfl (OutT.tup (.cons .str (.cons .bool .nil))) (by first | decide | simp)
     ·have h19 := iteBT h8 hb
      refine RW.cond_t rfl (RW.sreg (rl.run 2 rfl (rl.done (RW.ret ?_))))
      cases h19
      have h20 := elimL h5 (hE4 _ rfl)
      cases h20
      exact RRet.mk rfl (OutT.tup (.cons .str (.cons .bool .nil))) (by first | decide | simp)
  ·intro y3 hC
   have h5 := elimR h5 hC
   refine RW.sreg (rl.run 3 rfl (rl.done (RW.ret ?_)))
   cases h5
   exact RRet.mk rfl (OutT.tup (.cons .str (.cons .bool .nil))) (by first | decide | simp)
theorem law_spec_l01Var {x0 : Int} {r : List UInt8} (hF : F_spec_l01Var x0 = some r) : PCalls Try.prog 158 [.int .i64 x0] (.str r) := by
 refine PCalls.of_r k_spec_l01Var rfl ?_
 unfold F_spec_l01Var at hF
 refine RW.sreg (rl.run 1 rfl (rl.done (RW.sreg (rl.run 2 rfl (rl.done (RW.seq ?_))))))
 refine RW.gh (Gh.nil_t 3 1 rfl) ?_
 obtain ⟨y4, ey4, h2⟩ := bindS hF
 refine RW.cutq (σ := Int × (List Int)) (fun y2 => [(0, .int .i64 y2.1), (3, .sl 0 0 y2.2.length)]) (fun y2 => [some ⟨fl (encB true) y2.2, 1⟩]) (fun y => y4 = y) (fun _ _ _ _ g h => RW.gh g h) ?_ ?_
 ·refine RW.blk ?_
  refine RW.iter (σ := Int × (List Int)) ey4 (fun s1 => [(0, .int .i64 s1.1), (3, .sl 0 0 s1.2.length)]) (fun s1 => [some ⟨fl (encB true) s1.2, 1⟩]) (Gh.ren0 [0] (.same rfl (ekB.fref _ _) .nil) rfl (.cons rfl (.dat .int) (.cons rfl (.slq rfl rfl) .nil))) (fun s1 B o hS1 hB1 hE1 => ?_)
  unfold S_spec_l01Var_1 at hS1
  refine RW.seq (RW.sreg (rl.run 1 rfl ?_))
  refine rl.gen rfl rfl fun b hb => ?_
  cases b
  ·have h3 := iteBF hS1 hb
   refine rl.done (RW.cond_f rfl (RW.exit (blkA_eq ?_)))
   cases h3
   exact ⟨_, (hE1 _ rfl).symm, (Gh.ren0 [0] (.same rfl (ekB.fref _ _) .nil) rfl (.cons rfl (.dat .int) (.cons rfl (.slq rfl rfl) .nil)))⟩
  ·have h4 := iteBT hS1 hb
   refine rl.done (RW.cond_t rfl (RW.skip (RW.blk (RW.sreg (rl.run 6 rfl ?_)))))
   obtain ⟨v3, e3, h5⟩ := bindS h4
   refine rl.op (x_app rfl rfl (rapp_sl (l := s1.2) (m := [IntKind.u8.wrap (w64 ((Int.tmod s1.1 128) + 128))]) (o := true) ekB rfl rfl (acont_slq (m := [IntKind.u8.wrap (w64 ((Int.tmod s1.1 128) + 128))]) (o := true) fkB rfl rfl) rfl (fkB.fst _ _) e3)) ?_
   refine rl.run 1 rfl (rl.done (RW.reg (rl.run 3 rfl (rl.done ?_))))
   cases h5
   exact hB1 _ rfl _ _ (Gh.ren0 [2] (.same rfl (ekB.fref _ _) .nil) rfl (.cons rfl (.dat .int) (.cons rfl (.slq rfl rfl) .nil)))
 ·intro y2 hC
  subst hC
  refine RW.sreg (rl.run 4 rfl ?_)
  obtain ⟨v5, e5, h6⟩ := bindS h2
  refine rl.op (x_app rfl rfl (rapp_sl (l := y4.2) (m := [IntKind.u8.wrap y4.1]) (o := true) ekB rfl rfl (acont_slq (m := [IntKind.u8.wrap y4.1]) (o := true) fkB rfl rfl) rfl (fkB.fst _ _) e5)) ?_
  refine rl.op (x_cvb_sl (o := true) (l := v5) rfl rfl) ?_
  refine rl.run 1 rfl (rl.done (RW.ret ?_))
  cases h6
  exact RRet.mk rfl .str (by first | decide | simp)
theorem law_spec_ReadVar {x0 : List UInt8} {x1 : Int} {r : Int × Int × Bool} (hF : F_spec_ReadVar x0 x1 = some r) : PCalls Try.prog 196 [.str x0, .int .i64 x1] (.tup [.int .i64 r.1, .int .i64 r.2.1, .bool r.2.2]) := by
 refine PCalls.of_r k_spec_ReadVar rfl ?_
 unfold F_spec_ReadVar at hF
 refine RW.sreg (rl.run 3 rfl (rl.done (RW.seq (RW.sreg (rl.run 3 rfl ?_)))))
 obtain ⟨v1, e1, h1⟩ := bindS hF
 refine rl.call rfl rfl rfl (CallW.val (r' := .bool v1) ok_spec_l01In (law_spec_l01In e1) (.cons .int (.cons .int (.cons .int .nil))) .refl ?_)
 cases hb : v1
 ·have h2 := iteBF h1 hb
  refine rl.run 1 rfl (rl.done (RW.cond_t rfl (RW.sreg (rl.run 3 rfl (rl.done (RW.ret ?_))))))
  cases h2
  exact RRet.mk rfl (OutT.tup (.cons .int (.cons .int (.cons .bool .nil)))) (by first | decide | simp)
 ·have h3 := iteBT h1 hb
  refine rl.run 1 rfl (rl.done (RW.cond_f rfl (RW.skip (RW.sreg (rl.run 1 rfl (rl.done (RW.sreg (rl.run 1 rfl (rl.done (RW.seq (RW.sreg ?_)))))))))))
  refine rl.run 2 rfl (rl.done ?_)
  obtain ⟨y10, ey10, h5⟩ := bindS h3
  refine RW.cutq (σ := Unit) (fun y3 => []) (fun y3 => []) (fun y => y10 = .inr y) (fun _ _ _ _ g h => RW.gh g h) ?_ ?_
  ·refine RW.blk ?_
   refine RW.iter (σ := Int × Int × Int) ey10 (fun s2 => [(0, .str x0), (1, .int .i64 x1), (7, .int .i64 s2.1), (8, .int .i64 s2.2.1), (9, .int .i64 s2.2.2)]) (fun s2 => []) (Gh.ren0 [] .nil rfl (.cons rfl (.dat .str) (.cons rfl (.dat .int) (.cons rfl (.dat .int) (.cons rfl (.dat .int) (.cons rfl (.dat .int) .nil)))))) (fun s2 B o hS4 hB4 hE4 => ?_)
   unfold S_spec_ReadVar_1 at hS4
   refine RW.seq (RW.seq ?_)
   obtain ⟨y4, ey4, h6⟩ := bindS hS4
   refine RW.cutq (σ := Bool) (fun y4 => [(0, .str x0), (1, .int .i64 x1), (7, .int .i64 s2.1), (8, .int .i64 s2.2.1), (9, .int .i64 s2.2.2), (25, .bool y4)]) (fun y4 => []) (fun y => y4 = y) (fun _ _ _ _ g h => RW.gh g h) ?_ ?_
   ·refine RW.reg ?_
    refine rl.run 3 rfl ?_
    refine rl.gen rfl rfl fun b hb => ?_
    cases b
    ·have h7 := iteBF ey4 hb
     refine rl.run 6 rfl (rl.done ?_)
     cases h7
     exact ⟨_, rfl, (Gh.ren0 [] .nil rfl (.cons rfl (.dat .str) (.cons rfl (.dat .int) (.cons rfl (.dat .int) (.cons rfl (.dat .int) (.cons rfl (.dat .int) (.cons rfl (.dat .bool) .nil)))))))⟩
    ·have h8 := iteBT ey4 hb
     refine rl.run 4 rfl ?_
     refine rl.gen rfl rfl fun b hb => ?_
     cases b
     ·have h9 := iteBF h8 hb
      refine rl.run 1 rfl (rl.done ?_)
      cases h9
      exact ⟨_, rfl, (Gh.ren0 [] .nil rfl (.cons rfl (.dat .str) (.cons rfl (.dat .int) (.cons rfl (.dat .int) (.cons rfl (.dat .int) (.cons rfl (.dat .int) (.cons rfl (.dat .bool) .nil)))))))⟩
     ·have h10 := iteBT h8 hb
      refine rl.run 1 rfl (rl.done ?_)
      cases h10
      exact ⟨_, rfl, (Gh.ren0 [] .nil rfl (.cons rfl (.dat .str) (.cons rfl (.dat .int) (.cons rfl (.dat .int) (.cons rfl (.dat .int) (.cons rfl (.dat .int) (.cons rfl (.dat .bool) .nil)))))))⟩
   ·intro y hC
    subst hC
    cases hb : y4
    ·have h11 := iteBF h6 hb
     refine RW.cond_f rfl (RW.exit (blkA_eq ?_))
     cases h11
     exact ⟨_, (hE4 _ rfl).symm, (Gh.ren0 [] .nil rfl .nil)⟩
    ·have h12 := iteBT h6 hb
     refine RW.cond_t rfl (RW.skip (RW.seq (RW.blk (RW.sreg (rl.run 3 rfl ?_)))))
     obtain ⟨v5, e5, h13⟩ := bindS h12
     refine rl.op (x_idx rfl rfl e5) ?_
     refine rl.run 6 rfl (rl.done (RW.sreg (rl.run 3 rfl (rl.done ?_))))
     refine RW.keep [0, 1, 7, 8, 9] (a' := [(0, .str x0), (1, .int .i64 x1), (7, .int .i64 (w64 (s2.1 + (w64 ((Int.tmod (w64 (v5.toNat : Int)) 128) * s2.2.1))))), (8, .int .i64 (w64 (s2.2.1 * 128))), (9, .int .i64 s2.2.2)]) (H' := []) rfl rfl ?_
     refine RW.sreg (rl.run 2 rfl ?_)
     obtain ⟨v6, e6, h14⟩ := bindS h13
     refine rl.op (x_idx rfl rfl e6) ?_
     refine rl.gen rfl rfl fun b hb => ?_
     cases b
     ·have h15 := iteBF h14 hb
      refine rl.done (RW.cond_f rfl (RW.skip (RW.reg (rl.run 3 rfl (rl.done ?_)))))
      cases h15
      exact hB4 _ rfl _ _ (Gh.ren0 [] .nil rfl (.cons rfl (.dat .str) (.cons rfl (.dat .int) (.cons rfl (.dat .int) (.cons rfl (.dat .int) (.cons rfl (.dat .int) .nil))))))
     ·have h16 := iteBT h14 hb
      refine rl.done (RW.cond_t rfl (RW.seq (RW.seq ?_)))
      obtain ⟨y7, ey7, h17⟩ := bindS h16
      refine RW.cutq (σ := Bool) (fun y7 => [(7, .int .i64 (w64 (s2.1 + (w64 ((Int.tmod (w64 (v5.toNat : Int)) 128) * s2.2.1))))), (9, .int .i64 s2.2.2), (54, .bool y7)]) (fun y7 => []) (fun y => y7 = y) (fun _ _ _ _ g h => RW.gh g h) ?_ ?_
      ·refine RW.drw ?_
       refine rdraw.op rfl rfl ?_
       refine rdraw.gen rfl rfl fun b hb => ?_
       cases b
       ·have h18 := iteBF ey7 hb
        refine rdraw.op rfl rfl (rdraw.op rfl rfl ?_)
        obtain ⟨v8, e8, h19⟩ := bindS h18
        refine rdraw.call rfl rfl rfl (CallW.val (r' := .str v8) ok_spec_l01Var (law_spec_l01Var e8) (.cons .int .nil) .refl ⟨rfl, ?_⟩)
        refine rdraw.op rfl rfl (rdraw.op rfl rfl (rdraw.op rfl rfl (rdraw.op rfl rfl ?_)))
        obtain ⟨v9, e9, h20⟩ := bindS h19
        refine rdraw.op rfl (x_sls rfl rfl rfl abnd_both e9) ?_
        refine rdraw.gen rfl rfl fun b hb => ?_
        cases b
        ·have h21 := iteBF h20 hb
         refine rdraw.op rfl rfl (rdraw.done ?_)
         cases h21
         exact ⟨_, rfl, (Gh.ren0 [] .nil rfl (.cons rfl (.dat .int) (.cons rfl (.dat .int) (.cons rfl (.dat .bool) .nil))))⟩
        ·have h22 := iteBT h20 hb
         refine rdraw.op rfl rfl (rdraw.done ?_)
         cases h22
         exact ⟨_, rfl, (Gh.ren0 [] .nil rfl (.cons rfl (.dat .int) (.cons rfl (.dat .int) (.cons rfl (.dat .bool) .nil))))⟩
       ·have h23 := iteBT ey7 hb
        refine rdraw.op rfl rfl (rdraw.off rfl (rdraw.off rfl (rdraw.off rfl (rdraw.off rfl (rdraw.off rfl (rdraw.off rfl (rdraw.off rfl (rdraw.off rfl (rdraw.op rfl rfl (rdraw.done ?_))))))))))
        cases h23
        exact ⟨_, rfl, (Gh.ren0 [] .nil rfl (.cons rfl (.dat .int) (.cons rfl (.dat .int) (.cons rfl (.dat .bool) .nil))))⟩
      ·intro y hC
       subst hC
       cases hb : y7
       ·have h24 := iteBF h17 hb
        refine RW.cond_f rfl (RW.skip (RW.sreg (rl.run 6 rfl (rl.done (RW.ret ?_)))))
        cases h24
        have h25 := elimL h5 (hE4 _ rfl)
        cases h25
        exact RRet.mk rfl (OutT.tup (.cons .int (.cons .int (.cons .bool .nil)))) (by first | decide | simp)
       ·have h26 := iteBT h17 hb
        refine RW.cond_t rfl (RW.sreg (rl.run 3 rfl (rl.done (RW.ret ?_))))
        cases h26
        have h27 := elimL h5 (hE4 _ rfl)
        cases h27
        exact RRet.mk rfl (OutT.tup (.cons .int (.cons .int (.cons .bool .nil)))) (by first | decide | simp)
  ·intro y3 hC
   have h5 := elimR h5 hC
   refine RW.sreg (rl.run 3 rfl (rl.done (RW.ret ?_)))
   cases h5
   exact RRet.mk rfl (OutT.tup (.cons .int (.cons .int (.cons .bool .nil)))) (by first | decide | simp)
theorem law_spec_ReadShort {x0 : List UInt8} {x1 : Int} {r : (List UInt8) × Int × Bool} (hF : F_spec_ReadShort x0 x1 = some r) : PCalls Try.prog 148 [.str x0, .int .i64 x1] (.tup [.str r.1, .int .i64 r.2.1, .bool r.2.2]) := by
 refine PCalls.of_r k_spec_ReadShort rfl ?_
 unfold F_spec_ReadShort at hF
 refine RW.sreg (rl.run 3 rfl (rl.done (RW.sreg (rl.run 2 rfl ?_))))
 obtain ⟨v1, e1, h1⟩ := bindS hF
 refine rl.call rfl rfl rfl (CallW.val (r' := .tup [.int .i64 v1.1, .int .i64 v1.2.1, .bool v1.2.2]) ok_spec_ReadVar (law_spec_ReadVar e1) (.cons .str (.cons .int .nil)) (FlL.tup (.cons .refl (.cons .refl (.cons .refl .nil)))) ?_)
 refine rl.run 7 rfl (rl.done ?_)
 refine RW.keep [0, 7, 8, 9] (a' := [(0, .str x0), (7, .int .i64 v1.1), (8, .int .i64 v1.2.1), (9, .bool v1.2.2)]) (H' := []) rfl rfl ?_
 refine RW.seq (RW.seq ?_)
 obtain ⟨y2, ey2, h2⟩ := bindS h1
 refine RW.cutq (σ := Bool) (fun y2 => [(0, .str x0), (7, .int .i64 v1.1), (8, .int .i64 v1.2.1), (30, .bool y2)]) (fun y2 => []) (fun y => y2 = y) (fun _ _ _ _ g h => RW.gh g h) ?_ ?_
 ·refine RW.reg ?_
  refine rl.run 3 rfl ?_
  cases hb : (!v1.2.2)
  ·have h3 := iteBF ey2 hb
   refine rl.run 1 rfl ?_
   refine rl.gen rfl rfl fun b hb => ?_
   cases b
   ·have h4 := iteBF h3 hb
    refine rl.run 7 rfl ?_
    refine rl.gen rfl rfl fun b hb => ?_
    cases b
    ·have h5 := iteBF h4 hb
     refine rl.run 1 rfl (rl.done ?_)
     cases h5
     exact ⟨_, rfl, (Gh.ren0 [] .nil rfl (.cons rfl (.dat .str) (.cons rfl (.dat .int) (.cons rfl (.dat .int) (.cons rfl (.dat .bool) .nil)))))⟩
    ·have h6 := iteBT h4 hb
     refine rl.run 1 rfl (rl.done ?_)
     cases h6
     exact ⟨_, rfl, (Gh.ren0 [] .nil rfl (.cons rfl (.dat .str) (.cons rfl (.dat .int) (.cons rfl (.dat .int) (.cons rfl (.dat .bool) .nil)))))⟩
   ·have h7 := iteBT h3 hb
    refine rl.run 9 rfl (rl.done ?_)
    cases h7
    exact ⟨_, rfl, (Gh.ren0 [] .nil rfl (.cons rfl (.dat .str) (.cons rfl (.dat .int) (.cons rfl (.dat .int) (.cons rfl (.dat .bool) .nil)))))⟩
  ·have h8 := iteBT ey2 hb
   refine rl.run 11 rfl (rl.done ?_)
   cases h8
   exact ⟨_, rfl, (Gh.ren0 [] .nil rfl (.cons rfl (.dat .str) (.cons rfl (.dat .int) (.cons rfl (.dat .int) (.cons rfl (.dat .bool) .nil)))))⟩
 ·intro y hC
  subst hC
  cases hb : y2
  ·have h9 := iteBF h2 hb
   refine RW.cond_f rfl (RW.skip (RW.sreg (rl.run 5 rfl ?_)))
   obtain ⟨v3, e3, h10⟩ := bindS h9
   refine rl.op (x_sls rfl rfl rfl abnd_both e3) ?_
   refine rl.run 6 rfl (rl.done ?_)
   refine RW.keep [4, 5, 6] (a' := [(4, .str v3), (5, .int .i64 (w64 (v1.2.1 + v1.1))), (6, .bool true)]) (H' := []) rfl rfl ?_
   refine RW.ret ?_
   cases h10
   exact RRet.mk rfl (OutT.tup (.cons .str (.cons .int (.cons .bool .nil)))) (by first | decide | simp)
  ·have h11 := iteBT h2 hb
   refine RW.cond_t rfl (RW.sreg (rl.run 3 rfl (rl.done (RW.ret ?_))))
   cases h11
   exact RRet.mk rfl (OutT.tup (.cons .str (.cons .int (.cons .bool .nil)))) (by first | decide | simp)
theorem law_spec_l02Four {x0 : Int} {r : List UInt8} (hF : F_spec_l02Four x0 = some r) : PCalls Try.prog 197 [.int .u32 x0] (.str r) := by
 refine PCalls.of_r k_spec_l02Four rfl ?_
 unfold F_spec_l02Four at hF
 refine RW.sreg (rl.run 1 rfl (rl.done (RW.sreg (rl.run 12 rfl ?_))))
 refine rl.op (x_cvb_sl (o := true) (l := [IntKind.u8.wrap (shrv .u32 x0 24), IntKind.u8.wrap (shrv .u32 x0 16), IntKind.u8.wrap (shrv .u32 x0 8), IntKind.u8.wrap x0]) rfl rfl) ?_
 refine rl.run 1 rfl (rl.done ?_)
 refine RW.keep [2] (a' := [(2, .str ([IntKind.u8.wrap (shrv .u32 x0 24), IntKind.u8.wrap (shrv .u32 x0 16), IntKind.u8.wrap (shrv .u32 x0 8), IntKind.u8.wrap x0].map ofI))]) (H' := [some ⟨fl (encB true) [IntKind.u8.wrap (shrv .u32 x0 24), IntKind.u8.wrap (shrv .u32 x0 16), IntKind.u8.wrap (shrv .u32 x0 8), IntKind.u8.wrap x0], 1⟩]) rfl rfl ?_
 refine RW.ret ?_
 cases hF
 exact RRet.mk rfl .str (by first | decide | simp)
theorem law_spec_SumMore {x0 : Int} {x1 : List UInt8} {r : Int} (hF : F_spec_SumMore x0 x1 = some r) : PCalls Try.prog 214 [.int .u32 x0, .str x1] (.int .u32 r) := by
 refine PCalls.of_r k_spec_SumMore rfl ?_
 unfold F_spec_SumMore at hF
 refine RW.sreg (rl.run 1 rfl (rl.done (RW.seq (RW.sreg (rl.run 1 rfl (rl.done ?_))))))
 obtain ⟨y7, ey7, h2⟩ := bindS hF
 refine RW.cutq (σ := Int) (fun y2 => [(0, .int .u32 y2)]) (fun y2 => []) (fun y => y7 = y) (fun _ _ _ _ g h => RW.gh g h) ?_ ?_
 ·refine RW.blk ?_
  refine RW.iter (σ := Int × Int) ey7 (fun s1 => [(0, .int .u32 s1.1), (1, .str x1), (5, .int .i64 s1.2)]) (fun s1 => []) (Gh.ren0 [] .nil rfl (.cons rfl (.dat .int) (.cons rfl (.dat .str) (.cons rfl (.dat .int) .nil)))) (fun s1 B o hS1 hB1 hE1 => ?_)
  unfold S_spec_SumMore_1 at hS1
  refine RW.seq (RW.sreg (rl.run 3 rfl ?_))
  refine rl.gen rfl rfl fun b hb => ?_
  cases b
  ·have h3 := iteBF hS1 hb
   refine rl.done (RW.cond_f rfl (RW.exit (blkA_eq ?_)))
   cases h3
   exact ⟨_, (hE1 _ rfl).symm, (Gh.ren0 [] .nil rfl (.cons rfl (.dat .int) .nil))⟩
  ·have h4 := iteBT hS1 hb
   refine rl.done (RW.cond_t rfl (RW.skip (RW.seq (RW.blk (RW.sreg (rl.run 3 rfl ?_))))))
   obtain ⟨v3, e3, h5⟩ := bindS h4
   refine rl.op (x_idx rfl rfl e3) ?_
   refine rl.run 3 rfl (rl.done (RW.sreg (rl.run 1 rfl (rl.done ?_))))
   obtain ⟨y6, ey6, h7⟩ := bindS h5
   refine RW.cutq (σ := Int) (fun y5 => [(0, .int .u32 y5), (1, .str x1), (5, .int .i64 s1.2)]) (fun y5 => []) (fun y => y6 = y) (fun _ _ _ _ g h => RW.gh g h) ?_ ?_
   ·refine RW.blk ?_
    refine RW.iter (σ := Int × Int) ey6 (fun s4 => [(0, .int .u32 s4.1), (1, .str x1), (5, .int .i64 s1.2), (6, .int .i64 s4.2)]) (fun s4 => []) (Gh.ren0 [] .nil rfl (.cons rfl (.dat .int) (.cons rfl (.dat .str) (.cons rfl (.dat .int) (.cons rfl (.dat .int) .nil))))) (fun s4 B o hS6 hB6 hE6 => ?_)
    unfold S_spec_SumMore_2 at hS6
    refine RW.seq (RW.sreg (rl.run 1 rfl ?_))
    refine rl.gen rfl rfl fun b hb => ?_
    cases b
    ·have h8 := iteBF hS6 hb
     refine rl.done (RW.cond_f rfl (RW.exit (blkA_eq ?_)))
     cases h8
     exact ⟨_, (hE6 _ rfl).symm, (Gh.ren0 [] .nil rfl (.cons rfl (.dat .int) (.cons rfl (.dat .str) (.cons rfl (.dat .int) .nil))))⟩
    ·have h9 := iteBT hS6 hb
     refine rl.done (RW.cond_t rfl (RW.skip (RW.seq (RW.blk (RW.sreg (rl.run 2 rfl ?_))))))
     refine rl.gen rfl rfl fun b hb => ?_
     cases b
     ·have h10 := iteBF h9 hb
      refine rl.run 1 rfl (rl.done (RW.sreg (rl.run 3 rfl (rl.done (RW.sreg (rl.run 1 rfl (rl.done (RW.cond_f rfl (RW.skip (RW.reg (rl.run 3 rfl ?_)))))))))))
      refine rl.done ?_
      cases h10
      exact hB6 _ rfl _ _ (Gh.ren0 [] .nil rfl (.cons rfl (.dat .int) (.cons rfl (.dat .str) (.cons rfl (.dat .int) (.cons rfl (.dat .int) .nil)))))
     ·have h11 := iteBT h9 hb
      refine rl.run 1 rfl (rl.done (RW.sreg (rl.run 3 rfl (rl.done (RW.sreg (rl.run 1 rfl (rl.done (RW.cond_t rfl (RW.reg (rl.run 3 rfl (rl.done ?_)))))))))))
      refine RW.reg (rl.run 3 rfl (rl.done ?_))
      cases h11
      exact hB6 _ rfl _ _ (Gh.ren0 [] .nil rfl (.cons rfl (.dat .int) (.cons rfl (.dat .str) (.cons rfl (.dat .int) (.cons rfl (.dat .int) .nil)))))
   ·intro y5 hC
    subst hC
    refine RW.reg (rl.run 3 rfl (rl.done ?_))
    cases h7
    exact hB1 _ rfl _ _ (Gh.ren0 [] .nil rfl (.cons rfl (.dat .int) (.cons rfl (.dat .str) (.cons rfl (.dat .int) .nil))))
 ·intro y2 hC
  subst hC
  refine RW.sreg (rl.run 2 rfl (rl.done (RW.ret ?_)))
  cases h2
  exact RRet.mk rfl .int (by first | decide | simp)
theorem law_spec_SumOf {x0 : List UInt8} {r : Int} (hF : F_spec_SumOf x0 = some r) : PCalls Try.prog 198 [.str x0] (.int .u32 r) := by
 refine PCalls.of_r k_spec_SumOf rfl ?_
 unfold F_spec_SumOf at hF
 refine RW.sreg (rl.run 1 rfl (rl.done (RW.sreg (rl.run 1 rfl ?_))))
 obtain ⟨v1, e1, h1⟩ := bindS hF
 refine rl.call rfl rfl rfl (CallW.val (r' := .int .u32 v1) ok_spec_SumMore (law_spec_SumMore e1) (.cons .int (.cons .str .nil)) .refl ?_)
 refine rl.run 1 rfl (rl.done (RW.ret ?_))
 cases h1
 exact RRet.mk rfl .int (by first | decide | simp)
theorem law_spec_Unsealed {x0 : List UInt8} {r : (List UInt8) × Bool} (hF : F_spec_Unsealed x0 = some r) : PCalls Try.prog 149 [.str x0] (.tup [.str r.1, .bool r.2]) := by
 refine PCalls.of_r k_spec_Unsealed rfl ?_
 unfold F_spec_Unsealed at hF
 refine RW.sreg (rl.run 2 rfl (rl.done (RW.sreg (rl.run 4 rfl (rl.done (RW.seq (RW.seq ?_)))))))
 obtain ⟨y1, ey1, h1⟩ := bindS hF
 refine RW.cutq (σ := Bool) (fun y1 => [(0, .str x0), (4, .int .i64 (w64 ((x0.length : Int) - 4))), (24, .bool y1)]) (fun y1 => []) (fun y => y1 = y) (fun _ _ _ _ g h => RW.gh g h) ?_ ?_
 ·refine RW.drw ?_
  refine rdraw.op rfl rfl ?_
  refine rdraw.gen rfl rfl fun b hb => ?_
  cases b
  ·have h2 := iteBF ey1 hb
   refine rdraw.op rfl rfl (rdraw.op rfl rfl ?_)
   refine rdraw.gen rfl rfl fun b hb => ?_
   cases b
   ·have h3 := iteBF h2 hb
    refine rdraw.op rfl rfl (rdraw.op rfl rfl (rdraw.op rfl rfl (rdraw.op rfl rfl ?_)))
    obtain ⟨v2, e2, h4⟩ := bindS h3
    refine rdraw.op rfl (x_sls rfl rfl rfl abnd_lo e2) ?_
    refine rdraw.op rfl rfl (rdraw.op rfl rfl ?_)
    obtain ⟨v3, e3, h5⟩ := bindS h4
    refine rdraw.op rfl (x_sls rfl rfl rfl abnd_hi e3) ?_
    obtain ⟨v4, e4, h6⟩ := bindS h5
    refine rdraw.call rfl rfl rfl (CallW.val (r' := .int .u32 v4) ok_spec_SumOf (law_spec_SumOf e4) (.cons .str .nil) .refl ⟨rfl, ?_⟩)
    obtain ⟨v5, e5, h7⟩ := bindS h6
    refine rdraw.call rfl rfl rfl (CallW.val (r' := .str v5) ok_spec_l02Four (law_spec_l02Four e5) (.cons .int .nil) .refl ⟨rfl, ?_⟩)
    refine rdraw.gen rfl rfl fun b hb => ?_
    cases b
    ·have h8 := iteBF h7 hb
     refine rdraw.op rfl rfl (rdraw.done ?_)
     cases h8
     exact ⟨_, rfl, (Gh.ren0 [] .nil rfl (.cons rfl (.dat .str) (.cons rfl (.dat .int) (.cons rfl (.dat .bool) .nil))))⟩
    ·have h9 := iteBT h7 hb
     refine rdraw.op rfl rfl (rdraw.done ?_)
     cases h9
     exact ⟨_, rfl, (Gh.ren0 [] .nil rfl (.cons rfl (.dat .str) (.cons rfl (.dat .int) (.cons rfl (.dat .bool) .nil))))⟩
   ·have h10 := iteBT h2 hb
    refine rdraw.op rfl rfl (rdraw.op rfl rfl (rdraw.off rfl (rdraw.off rfl (rdraw.off rfl (rdraw.off rfl (rdraw.off rfl (rdraw.off rfl (rdraw.off rfl (rdraw.off rfl (rdraw.off rfl (rdraw.op rfl rfl ?_)))))))))))
    refine rdraw.done ?_
    cases h10
    exact ⟨_, rfl, (Gh.ren0 [] .nil rfl (.cons rfl (.dat .str) (.cons rfl (.dat .int) (.cons rfl (.dat .bool) .nil))))⟩
  ·have h11 := iteBT ey1 hb
   refine rdraw.op rfl rfl (rdraw.off rfl (rdraw.off rfl (rdraw.op rfl rfl (rdraw.op rfl rfl (rdraw.off rfl (rdraw.off rfl (rdraw.off rfl (rdraw.off rfl (rdraw.off rfl (rdraw.off rfl (rdraw.off rfl ?_)))))))))))
   refine rdraw.off rfl (rdraw.off rfl (rdraw.op rfl rfl (rdraw.done ?_)))
   cases h11
   exact ⟨_, rfl, (Gh.ren0 [] .nil rfl (.cons rfl (.dat .str) (.cons rfl (.dat .int) (.cons rfl (.dat .bool) .nil))))⟩
 ·intro y hC
  subst hC
  cases hb : y1
  ·have h12 := iteBF h1 hb
   refine RW.cond_f rfl (RW.skip (RW.sreg (rl.run 2 rfl ?_)))
   obtain ⟨v6, e6, h13⟩ := bindS h12
   refine rl.op (x_sls rfl rfl rfl abnd_hi e6) ?_
   refine rl.run 2 rfl (rl.done (RW.ret ?_))
   cases h13
   exact RRet.mk rfl (OutT.tup (.cons .str (.cons .bool .nil))) (by first | decide | simp)
  ·have h14 := iteBT h1 hb
   refine RW.cond_t rfl (RW.sreg (rl.run 2 rfl (rl.done (RW.ret ?_))))
   cases h14
   exact RRet.mk rfl (OutT.tup (.cons .str (.cons .bool .nil))) (by first | decide | simp)
theorem law_spec_l06Var_w {x0 : TL06Cur} {r : Int × TL06Cur} (hF : F_spec_l06Var_w x0 = some r) : ACalls Try.prog 0 150 [.ptr 0 0] [some ⟨[.str x0.mText, .int .i64 x0.mAt, .bool x0.mBad], 0⟩] (.int .i64 r.1) [some ⟨[.str r.2.mText, .int .i64 r.2.mAt, .bool r.2.mBad], 0⟩] := by
 refine ACalls.of_s k_spec_l06Var rfl ?_
 unfold F_spec_l06Var_w at hF
 refine RW.sreg (rl.run 1 rfl (rl.done (RW.sdrw (rdraw.op rfl rfl (rdraw.op rfl rfl (rdraw.op rfl rfl (rdraw.op rfl rfl (rdraw.op rfl rfl (rdraw.op rfl rfl (rdraw.op rfl rfl (rdraw.op rfl rfl ?_)))))))))))
 obtain ⟨v1, e1, h1⟩ := bindS hF
 refine rdraw.call rfl rfl rfl (CallW.val (r' := .tup [.int .i64 v1.1, .int .i64 v1.2.1, .bool v1.2.2]) ok_spec_ReadVar (law_spec_ReadVar e1) (.cons .str (.cons .int .nil)) (FlL.tup (.cons .refl (.cons .refl (.cons .refl .nil)))) ⟨rfl, ?_⟩)
 refine rdraw.op rfl rfl (rdraw.op rfl rfl (rdraw.op rfl rfl (rdraw.op rfl rfl (rdraw.op rfl rfl (rdraw.op rfl rfl (rdraw.op rfl rfl (rdraw.done ?_)))))))
 refine RW.keep [0, 3, 4, 5] (a' := [(0, .ptr 0 0), (3, .int .i64 v1.1), (4, .int .i64 v1.2.1), (5, .bool v1.2.2)]) (H' := [some ⟨[.str x0.mText, .int .i64 x0.mAt, .bool x0.mBad], 0⟩]) rfl rfl ?_
 refine RW.seq (RW.sreg (rl.run 5 rfl ?_))
 cases hb : x0.mBad
 ·have h2 := iteBF h1 hb
  refine rl.run 3 rfl (rl.done ?_)
  cases hb : (!v1.2.2)
  ·have h3 := iteBF h2 hb
   refine RW.cond_f rfl (RW.skip (RW.sreg (rl.run 5 rfl (rl.done ?_))))
   refine RW.keep [3] (a' := [(3, .int .i64 v1.1)]) (H' := [some ⟨[.str x0.mText, .int .i64 v1.2.1, .bool false], 0⟩]) rfl rfl ?_
   refine RW.sreg (rl.run 2 rfl (rl.done (RW.ret ?_)))
   cases h3
   exact RRetS.mk rfl .int (Gh.renN [0] (.cells rfl rfl (.keep .str (.keep .int (.keep .bool .nil))) .nil) rfl rfl rfl .nil)
  ·have h4 := iteBT h2 hb
   refine RW.cond_t rfl (RW.sreg (rl.run 4 rfl (rl.done ?_)))
   refine RW.keep [] (a' := []) (H' := [some ⟨[.str x0.mText, .int .i64 x0.mAt, .bool true], 0⟩]) rfl rfl ?_
   refine RW.sreg (rl.run 1 rfl (rl.done (RW.ret ?_)))
   cases h4
   exact RRetS.mk rfl .int (Gh.renN [0] (.cells rfl rfl (.keep .str (.keep .int (.keep .bool .nil))) .nil) rfl rfl rfl .nil)
 ·have h5 := iteBT h1 hb
  refine rl.run 3 rfl (rl.done (RW.cond_t rfl (RW.sreg (rl.run 4 rfl (rl.done ?_)))))
  refine RW.keep [] (a' := []) (H' := [some ⟨[.str x0.mText, .int .i64 x0.mAt, .bool true], 0⟩]) rfl rfl ?_
  refine RW.sreg (rl.run 1 rfl (rl.done (RW.ret ?_)))
  cases h5
  exact RRetS.mk rfl .int (Gh.renN [0] (.cells rfl rfl (.keep .str (.keep .int (.keep .bool .nil))) .nil) rfl rfl rfl .nil)
set_option maxHeartbeats 2000000 in
theorem law_spec_CheckOk {x0 : TCheck} {r : Bool} (hF : F_spec_CheckOk x0 = some r) : PCalls Try.prog 157 [.agg (enc_TCheck false x0)] (.bool r) := by
 refine PCalls.of_r k_spec_CheckOk rfl ?_
 unfold F_spec_CheckOk at hF
 refine RW.sreg (rl.run 2 rfl (rl.done (RW.seq (RW.seq ?_))))
 obtain ⟨y1, ey1, h1⟩ := bindS hF
 refine RW.cutq (σ := Bool) (fun y1 => [(1, .ptr 0 0), (34, .bool y1)]) (fun y1 => [some ⟨[.int .i64 x0.Stamp, .int .i64 x0.NextGen, .int .i64 x0.NextSeq, .int .i64 x0.NextValid, .lst false 2 (fl (enc_TRef false) x0.Refs) x0.Refs.length], 0⟩]) (fun y => y1 = y) (fun _ _ _ _ g h => RW.gh g h) ?_ ?_
 ·refine RW.reg ?_
  refine rl.run 2 rfl ?_
  obtain ⟨v2, e2, h2⟩ := bindS ey1
  refine rl.call rfl rfl rfl (CallW.val (r' := .bool v2) ok_spec_l01In (law_spec_l01In e2) (.cons .int (.cons .int (.cons .int .nil))) .refl ?_)
  cases hb : v2
  ·have h3 := iteBF h2 hb
   refine rl.run 26 rfl (rl.done ?_)
   cases h3
   exact ⟨_, rfl, (Gh.ren0 [0] (.cells rfl rfl (.keep .int (.keep .int (.keep .int (.keep .int (.keep (ek_TRef.rlst) .nil))))) .nil) rfl (.cons rfl (.ptr rfl) (.cons rfl (.dat .bool) .nil)))⟩
  ·have h4 := iteBT h2 hb
   refine rl.run 4 rfl ?_
   obtain ⟨v3, e3, h5⟩ := bindS h4
   refine rl.call rfl rfl rfl (CallW.val (r' := .bool v3) ok_spec_l01In (law_spec_l01In e3) (.cons .int (.cons .int (.cons .int .nil))) .refl ?_)
   cases hb : v3
   ·have h6 := iteBF h5 hb
    refine rl.run 21 rfl (rl.done ?_)
    cases h6
    exact ⟨_, rfl, (Gh.ren0 [0] (.cells rfl rfl (.keep .int (.keep .int (.keep .int (.keep .int (.keep (ek_TRef.rlst) .nil))))) .nil) rfl (.cons rfl (.ptr rfl) (.cons rfl (.dat .bool) .nil)))⟩
   ·have h7 := iteBT h5 hb
    refine rl.run 5 rfl ?_
    obtain ⟨v4, e4, h8⟩ := bindS h7
    refine rl.call rfl rfl rfl (CallW.val (r' := .bool v4) ok_spec_l01In (law_spec_l01In e4) (.cons .int (.cons .int (.cons .int .nil))) .refl ?_)
    cases hb : v4
    ·have h9 := iteBF h8 hb
     refine rl.run 15 rfl (rl.done ?_)
     cases h9
     exact ⟨_, rfl, (Gh.ren0 [0] (.cells rfl rfl (.keep .int (.keep .int (.keep .int (.keep .int (.keep (ek_TRef.rlst) .nil))))) .nil) rfl (.cons rfl (.ptr rfl) (.cons rfl (.dat .bool) .nil)))⟩
    ·have h10 := iteBT h8 hb
     refine rl.run 5 rfl ?_
     obtain ⟨v5, e5, h11⟩ := bindS h10
     refine rl.call rfl rfl rfl (CallW.val (r' := .bool v5) ok_spec_l01In (law_spec_l01In e5) (.cons .int (.cons .int (.cons .int .nil))) .refl ?_)
     cases hb : v5
     ·have h12 := iteBF h11 hb
      refine rl.run 9 rfl (rl.done ?_)
      cases h12
      exact ⟨_, rfl, (Gh.ren0 [0] (.cells rfl rfl (.keep .int (.keep .int (.keep .int (.keep .int (.keep (ek_TRef.rlst) .nil))))) .nil) rfl (.cons rfl (.ptr rfl) (.cons rfl (.dat .bool) .nil)))⟩
     ·have h13 := iteBT h11 hb
      refine rl.run 6 rfl ?_
      obtain ⟨v6, e6, h14⟩ := bindS h13
      refine rl.call rfl rfl rfl (CallW.val (r' := .bool v6) ok_spec_l01In (law_spec_l01In e6) (.cons .int (.cons .int (.cons .int .nil))) .refl ?_)
      cases hb : v6
      ·have h15 := iteBF h14 hb
       refine rl.run 2 rfl (rl.done ?_)
       cases h15
       exact ⟨_, rfl, (Gh.ren0 [0] (.cells rfl rfl (.keep .int (.keep .int (.keep .int (.keep .int (.keep (ek_TRef.rlst) .nil))))) .nil) rfl (.cons rfl (.ptr rfl) (.cons rfl (.dat .bool) .nil)))⟩
      ·have h16 := iteBT h14 hb
       refine rl.run 2 rfl (rl.done ?_)
       cases h16
       exact ⟨_, rfl, (Gh.ren0 [0] (.cells rfl rfl (.keep .int (.keep .int (.keep .int (.keep .int (.keep (ek_TRef.rlst) .nil))))) .nil) rfl (.cons rfl (.ptr rfl) (.cons rfl (.dat .bool) .nil)))⟩
 ·intro y hC
  subst hC
  cases hb : y1
  ·have h17 := iteBF h1 hb
   refine RW.cond_f rfl (RW.skip (RW.seq (RW.sreg (rl.run 1 rfl (rl.done ?_)))))
   obtain ⟨y18, ey18, h19⟩ := bindS h17
   refine RW.cutq (σ := Unit) (fun y8 => []) (fun y8 => []) (fun y => y18 = .inr y) (fun _ _ _ _ g h => RW.gh g h) ?_ ?_
   ·refine RW.blk ?_
    refine RW.iter (σ := Int) ey18 (fun s7 => [(1, .ptr 0 0), (3, .int .i64 s7)]) (fun s7 => [some ⟨[.int .i64 x0.Stamp, .int .i64 x0.NextGen, .int .i64 x0.NextSeq, .int .i64 x0.NextValid, .lst false 2 (fl (enc_TRef false) x0.Refs) x0.Refs.length], 0⟩]) (Gh.ren0 [0] (.cells rfl rfl (.keep .int (.keep .int (.keep .int (.keep .int (.keep (ek_TRef.rlst) .nil))))) .nil) rfl (.cons rfl (.ptr rfl) (.cons rfl (.dat .int) .nil))) (fun s7 B o hS18 hB18 hE18 => ?_)
    unfold S_spec_CheckOk_1 at hS18
    refine RW.seq (RW.sreg (rl.run 4 rfl ?_))
    refine rl.gen rfl rfl fun b hb => ?_
    cases b
    ·have h20 := iteBF hS18 hb
     refine rl.done (RW.cond_f rfl (RW.exit (blkA_eq ?_)))
     cases h20
     exact ⟨_, (hE18 _ rfl).symm, (Gh.ren0 [] .nil rfl .nil)⟩
    ·have h21 := iteBT hS18 hb
     refine rl.done (RW.cond_t rfl (RW.skip (RW.seq (RW.blk (RW.sreg (rl.run 3 rfl ?_))))))
     obtain ⟨v9, e9, h22⟩ := bindS h21
     refine rl.op (x_ia_lst (enc := enc_TRef) (o := false) rfl rfl rfl e9) ?_
     refine rl.op (x_ld_ela (off' := 0) (vs := (enc_TRef false v9)) ek_TRef rfl e9 rfl rfl rfl) ?_
     refine rl.run 2 rfl (rl.done (RW.seq (RW.seq ?_)))
     obtain ⟨y10, ey10, h23⟩ := bindS h22
     refine RW.cutq (σ := Bool) (fun y10 => [(1, .ptr 0 0), (3, .int .i64 s7), (4, .ptr 1 0), (75, .bool y10)]) (fun y10 => [some ⟨[.int .i64 x0.Stamp, .int .i64 x0.NextGen, .int .i64 x0.NextSeq, .int .i64 x0.NextValid, .lst false 2 (fl (enc_TRef false) x0.Refs) x0.Refs.length], 0⟩, some ⟨[.int .i64 v9.No, .int .i64 v9.Gen], 0⟩]) (fun y => y10 = y) (fun _ _ _ _ g h => RW.gh g h) ?_ ?_
     ·refine RW.drw ?_
      refine rdraw.op rfl rfl (rdraw.op rfl rfl ?_)
      obtain ⟨v11, e11, h24⟩ := bindS ey10
      refine rdraw.call rfl rfl rfl (CallW.val (r' := .bool v11) ok_spec_l01In (law_spec_l01In e11) (.cons .int (.cons .int (.cons .int .nil))) .refl ⟨rfl, ?_⟩)
      cases hb : v11
      ·have h25 := iteBF h24 hb
       refine rdraw.op rfl rfl (rdraw.op rfl rfl (rdraw.off rfl (rdraw.off rfl (rdraw.off rfl (rdraw.off rfl (rdraw.off rfl (rdraw.off rfl (rdraw.off rfl (rdraw.op rfl rfl (rdraw.op rfl rfl (rdraw.off rfl ?_)))))))))))
       refine rdraw.off rfl (rdraw.off rfl (rdraw.off rfl (rdraw.off rfl (rdraw.off rfl (rdraw.off rfl (rdraw.off rfl (rdraw.off rfl (rdraw.off rfl (rdraw.off rfl (rdraw.off rfl (rdraw.off rfl ?_)))))))))))
       refine rdraw.off rfl (rdraw.op rfl rfl (rdraw.done ?_))
       cases h25
       exact ⟨_, rfl, (Gh.ren0 [0, 1] (.cells rfl rfl (.keep .int (.keep .int (.keep .int (.keep .int (.keep (ek_TRef.rlst) .nil))))) (.cells rfl rfl (.keep .int (.keep .int .nil)) .nil)) rfl (.cons rfl (.ptr rfl) (.cons rfl (.dat .int) (.cons rfl (.ptr rfl) (.cons rfl (.dat .bool) .nil)))))⟩
      ·have h26 := iteBT h24 hb
       refine rdraw.op rfl rfl (rdraw.op rfl rfl (rdraw.op rfl rfl (rdraw.op rfl rfl (rdraw.op rfl rfl (rdraw.op rfl rfl (rdraw.op rfl rfl ?_))))))
       obtain ⟨v12, e12, h27⟩ := bindS h26
       refine rdraw.call rfl rfl rfl (CallW.val (r' := .bool v12) ok_spec_l01In (law_spec_l01In e12) (.cons .int (.cons .int (.cons .int .nil))) .refl ⟨rfl, ?_⟩)
       cases hb : v12
       ·have h28 := iteBF h27 hb
        refine rdraw.op rfl rfl (rdraw.op rfl rfl (rdraw.op rfl rfl (rdraw.off rfl (rdraw.off rfl (rdraw.off rfl (rdraw.off rfl (rdraw.off rfl (rdraw.off rfl (rdraw.off rfl (rdraw.off rfl (rdraw.off rfl ?_)))))))))))
        refine rdraw.off rfl (rdraw.off rfl (rdraw.off rfl (rdraw.off rfl (rdraw.off rfl (rdraw.op rfl rfl (rdraw.done ?_))))))
        cases h28
        exact ⟨_, rfl, (Gh.ren0 [0, 1] (.cells rfl rfl (.keep .int (.keep .int (.keep .int (.keep .int (.keep (ek_TRef.rlst) .nil))))) (.cells rfl rfl (.keep .int (.keep .int .nil)) .nil)) rfl (.cons rfl (.ptr rfl) (.cons rfl (.dat .int) (.cons rfl (.ptr rfl) (.cons rfl (.dat .bool) .nil)))))⟩
       ·have h29 := iteBT h27 hb
        refine rdraw.op rfl rfl (rdraw.op rfl rfl (rdraw.op rfl rfl (rdraw.op rfl rfl ?_)))
        refine rdraw.gen rfl rfl fun b hb => ?_
        cases b
        ·have h30 := iteBF h29 hb
         refine rdraw.op rfl rfl (rdraw.off rfl (rdraw.off rfl (rdraw.off rfl (rdraw.off rfl (rdraw.off rfl (rdraw.off rfl (rdraw.off rfl (rdraw.off rfl (rdraw.off rfl (rdraw.off rfl (rdraw.op rfl rfl ?_)))))))))))
         refine rdraw.op rfl rfl (rdraw.done ?_)
         cases h30
         exact ⟨_, rfl, (Gh.ren0 [0, 1] (.cells rfl rfl (.keep .int (.keep .int (.keep .int (.keep .int (.keep (ek_TRef.rlst) .nil))))) (.cells rfl rfl (.keep .int (.keep .int .nil)) .nil)) rfl (.cons rfl (.ptr rfl) (.cons rfl (.dat .int) (.cons rfl (.ptr rfl) (.cons rfl (.dat .bool) .nil)))))⟩
        ·have h31 := iteBT h29 hb
         refine rdraw.op rfl rfl (rdraw.op rfl rfl (rdraw.op rfl rfl (rdraw.op rfl rfl (rdraw.op rfl rfl ?_))))
         obtain ⟨v13, e13, h32⟩ := bindS h31
         refine rdraw.op rfl (x_ia_lst (enc := enc_TRef) (o := false) rfl rfl rfl e13) ?_
         refine rdraw.op rfl rfl ?_
         refine rdraw.op rfl (x_ld_el (off' := 1) ek_TRef rfl e13 rfl rfl rfl) ?_
         refine rdraw.op rfl rfl (rdraw.op rfl rfl ?_)
         refine rdraw.gen rfl rfl fun b hb => ?_
         cases b
         ·have h33 := iteBF h32 hb
          refine rdraw.op rfl rfl (rdraw.op rfl rfl (rdraw.done ?_))
          cases h33
          exact ⟨_, rfl, (Gh.ren0 [0, 1] (.cells rfl rfl (.keep .int (.keep .int (.keep .int (.keep .int (.keep (ek_TRef.rlst) .nil))))) (.cells rfl rfl (.keep .int (.keep .int .nil)) .nil)) rfl (.cons rfl (.ptr rfl) (.cons rfl (.dat .int) (.cons rfl (.ptr rfl) (.cons rfl (.dat .bool) .nil)))))⟩
         ·have h34 := iteBT h32 hb
          refine rdraw.op rfl rfl (rdraw.op rfl rfl (rdraw.done ?_))
          cases h34
          exact ⟨_, rfl, (Gh.ren0 [0, 1] (.cells rfl rfl (.keep .int (.keep .int (.keep .int (.keep .int (.keep (ek_TRef.rlst) .nil))))) (.cells rfl rfl (.keep .int (.keep .int .nil)) .nil)) rfl (.cons rfl (.ptr rfl) (.cons rfl (.dat .int) (.cons rfl (.ptr rfl) (.cons rfl (.dat .bool) .nil)))))⟩
     ·intro y hC
      subst hC
      cases hb : y10
      ·have h35 := iteBF h23 hb
       refine RW.cond_f rfl (RW.skip (RW.sreg (rl.run 1 rfl (rl.done ?_))))
       obtain ⟨y17, ey17, h37⟩ := bindS h35
       refine RW.cutq (σ := Unit) (fun y15 => [(1, .ptr 0 0), (3, .int .i64 s7)]) (fun y15 => [some ⟨[.int .i64 x0.Stamp, .int .i64 x0.NextGen, .int .i64 x0.NextSeq, .int .i64 x0.NextValid, .lst false 2 (fl (enc_TRef false) x0.Refs) x0.Refs.length], 0⟩]) (fun y => y17 = .inr y) (fun _ _ _ _ g h => RW.gh g h) ?_ ?_
       ·refine RW.blk ?_
        refine RW.iter (σ := Int) ey17 (fun s14 => [(1, .ptr 0 0), (3, .int .i64 s7), (4, .ptr 1 0), (5, .int .i64 s14)]) (fun s14 => [some ⟨[.int .i64 x0.Stamp, .int .i64 x0.NextGen, .int .i64 x0.NextSeq, .int .i64 x0.NextValid, .lst false 2 (fl (enc_TRef false) x0.Refs) x0.Refs.length], 0⟩, some ⟨[.int .i64 v9.No, .int .i64 v9.Gen], 0⟩]) (Gh.ren0 [0, 1] (.cells rfl rfl (.keep .int (.keep .int (.keep .int (.keep .int (.keep (ek_TRef.rlst) .nil))))) (.cells rfl rfl (.keep .int (.keep .int .nil)) .nil)) rfl (.cons rfl (.ptr rfl) (.cons rfl (.dat .int) (.cons rfl (.ptr rfl) (.cons rfl (.dat .int) .nil))))) (fun s14 B o hS36 hB36 hE36 => ?_)
        unfold S_spec_CheckOk_2 at hS36
        refine RW.seq (RW.sreg (rl.run 2 rfl ?_))
        refine rl.gen rfl rfl fun b hb => ?_
        cases b
        ·have h38 := iteBF hS36 hb
         refine rl.done (RW.cond_f rfl (RW.exit (blkA_eq ?_)))
         cases h38
         exact ⟨_, (hE36 _ rfl).symm, (Gh.ren0 [0] (.cells rfl rfl (.keep .int (.keep .int (.keep .int (.keep .int (.keep (ek_TRef.rlst) .nil))))) .nil) rfl (.cons rfl (.ptr rfl) (.cons rfl (.dat .int) .nil)))⟩
        ·have h39 := iteBT hS36 hb
         refine rl.done (RW.cond_t rfl (RW.skip (RW.seq (RW.blk (RW.sdrw (rdraw.op rfl rfl (rdraw.op rfl rfl (rdraw.op rfl rfl ?_))))))))
         obtain ⟨v16, e16, h40⟩ := bindS h39
         refine rdraw.op rfl (x_ia_lst (enc := enc_TRef) (o := false) rfl rfl rfl e16) ?_
         refine rdraw.op rfl rfl ?_
         refine rdraw.op rfl (x_ld_el (off' := 0) ek_TRef rfl e16 rfl rfl rfl) ?_
         refine rdraw.op rfl rfl (rdraw.op rfl rfl ?_)
         refine rdraw.gen rfl rfl fun b hb => ?_
         cases b
         ·have h41 := iteBF h40 hb
          refine rdraw.done ?_
          refine RW.keep [1, 3, 4, 5, 89] (a' := [(1, .ptr 0 0), (3, .int .i64 s7), (4, .ptr 1 0), (5, .int .i64 s14), (89, .bool false)]) (H' := [some ⟨[.int .i64 x0.Stamp, .int .i64 x0.NextGen, .int .i64 x0.NextSeq, .int .i64 x0.NextValid, .lst false 2 (fl (enc_TRef false) x0.Refs) x0.Refs.length], 0⟩, some ⟨[.int .i64 v9.No, .int .i64 v9.Gen], 0⟩]) rfl rfl ?_
          refine RW.cond_f rfl (RW.skip (RW.reg (rl.run 3 rfl (rl.done ?_))))
          cases h41
          exact hB36 _ rfl _ _ (Gh.ren0 [0, 1] (.cells rfl rfl (.keep .int (.keep .int (.keep .int (.keep .int (.keep (ek_TRef.rlst) .nil))))) (.cells rfl rfl (.keep .int (.keep .int .nil)) .nil)) rfl (.cons rfl (.ptr rfl) (.cons rfl (.dat .int) (.cons rfl (.ptr rfl) (.cons rfl (.dat .int) .nil)))))
         ·have h42 := iteBT h40 hb
          refine rdraw.done ?_
          refine RW.keep [1, 3, 4, 5, 89] (a' := [(1, .ptr 0 0), (3, .int .i64 s7), (4, .ptr 1 0), (5, .int .i64 s14), (89, .bool true)]) (H' := [some ⟨[.int .i64 x0.Stamp, .int .i64 x0.NextGen, .int .i64 x0.NextSeq, .int .i64 x0.NextValid, .lst false 2 (fl (enc_TRef false) x0.Refs) x0.Refs.length], 0⟩, some ⟨[.int .i64 v9.No, .int .i64 v9.Gen], 0⟩]) rfl rfl ?_
          refine RW.cond_t rfl (RW.sreg (rl.run 1 rfl (rl.done (RW.ret ?_))))
          cases h42
          have h43 := elimL h37 (hE36 _ rfl)
          cases h43
          have h44 := elimL h19 (hE18 _ rfl)
          cases h44
          exact RRet.mk rfl .bool (by first | decide | simp)
       ·intro y15 hC
        have h37 := elimR h37 hC
        refine RW.reg (rl.run 3 rfl (rl.done ?_))
        cases h37
        exact hB18 _ rfl _ _ (Gh.ren0 [0] (.cells rfl rfl (.keep .int (.keep .int (.keep .int (.keep .int (.keep (ek_TRef.rlst) .nil))))) .nil) rfl (.cons rfl (.ptr rfl) (.cons rfl (.dat .int) .nil)))
      ·have h45 := iteBT h23 hb
       refine RW.cond_t rfl (RW.sreg (rl.run 1 rfl (rl.done (RW.ret ?_))))
       cases h45
       have h46 := elimL h19 (hE18 _ rfl)
       cases h46
       exact RRet.mk rfl .bool (by first | decide | simp)
   ·intro y8 hC
    have h19 := elimR h19 hC
    refine RW.sreg (rl.run 1 rfl (rl.done (RW.ret ?_)))
    cases h19
    exact RRet.mk rfl .bool (by first | decide | simp)
  ·have h47 := iteBT h1 hb
   refine RW.cond_t rfl (RW.sreg (rl.run 1 rfl (rl.done (RW.ret ?_))))
   cases h47
   exact RRet.mk rfl .bool (by first | decide | simp)
theorem law_spec_Sealed {x0 : List UInt8} {r : (List UInt8) × Bool} (hF : F_spec_Sealed x0 = some r) : PCalls Try.prog 159 [.str x0] (.tup [.str r.1, .bool r.2]) := by
 refine PCalls.of_r k_spec_Sealed rfl ?_
 unfold F_spec_Sealed at hF
 refine RW.sreg (rl.run 2 rfl (rl.done (RW.seq (RW.sreg (rl.run 2 rfl ?_)))))
 refine rl.gen rfl rfl fun b hb => ?_
 cases b
 ·have h1 := iteBF hF hb
  refine rl.done (RW.cond_f rfl (RW.skip (RW.sreg (rl.run 2 rfl ?_))))
  obtain ⟨v1, e1, h2⟩ := bindS h1
  refine rl.call rfl rfl rfl (CallW.val (r' := .int .u32 v1) ok_spec_SumOf (law_spec_SumOf e1) (.cons .str .nil) .refl ?_)
  obtain ⟨v2, e2, h3⟩ := bindS h2
  refine rl.call rfl rfl rfl (CallW.val (r' := .str v2) ok_spec_l02Four (law_spec_l02Four e2) (.cons .int .nil) .refl ?_)
  obtain ⟨v3, e3, h4⟩ := bindS h3
  refine rl.op (x_cat rfl rfl e3) ?_
  refine rl.run 2 rfl (rl.done (RW.ret ?_))
  cases h4
  exact RRet.mk rfl (OutT.tup (.cons .str (.cons .bool .nil))) (by first | decide | simp)
 ·have h5 := iteBT hF hb
  refine rl.done (RW.cond_t rfl (RW.sreg (rl.run 2 rfl (rl.done (RW.ret ?_)))))
  cases h5
  exact RRet.mk rfl (OutT.tup (.cons .str (.cons .bool .nil))) (by first | decide | simp)
theorem law_spec_l06Short {x0 : List UInt8} {r : List UInt8} (hF : F_spec_l06Short x0 = some r) : PCalls Try.prog 160 [.str x0] (.str r) := by
 refine PCalls.of_r k_spec_l06Short rfl ?_
 unfold F_spec_l06Short at hF
 refine RW.sreg (rl.run 1 rfl (rl.done (RW.sreg (rl.run 2 rfl ?_))))
 obtain ⟨v1, e1, h1⟩ := bindS hF
 refine rl.call rfl rfl rfl (CallW.val (r' := .str v1) ok_spec_l01Var (law_spec_l01Var e1) (.cons .int .nil) .refl ?_)
 refine rl.run 1 rfl ?_
 obtain ⟨v2, e2, h2⟩ := bindS h1
 refine rl.op (x_cat rfl rfl e2) ?_
 refine rl.run 1 rfl (rl.done (RW.ret ?_))
 cases h2
 exact RRet.mk rfl .str (by first | decide | simp)
theorem law_spec_CheckText {x0 : TCheck} {r : (List UInt8) × Bool} (hF : F_spec_CheckText x0 = some r) : PCalls Try.prog 94 [.agg (enc_TCheck false x0)] (.tup [.str r.1, .bool r.2]) := by
 refine PCalls.of_r k_spec_CheckText rfl ?_
 unfold F_spec_CheckText at hF
 refine RW.sreg (rl.run 3 rfl (rl.done (RW.seq (RW.sreg (rl.run 1 rfl ?_)))))
 obtain ⟨v1, e1, h1⟩ := bindS hF
 refine rl.call rfl rfl rfl (CallW.val (r' := .bool v1) ok_spec_CheckOk (law_spec_CheckOk e1) (.cons (DFL.agg (.cons .int (.cons .int (.cons .int (.cons .int (.cons (.lst ek_TRef) .nil)))))) .nil) .refl ?_)
 cases hb : v1
 ·have h2 := iteBF h1 hb
  refine rl.run 1 rfl (rl.done (RW.cond_t rfl (RW.sreg (rl.run 2 rfl (rl.done (RW.ret ?_))))))
  cases h2
  exact RRet.mk rfl (OutT.tup (.cons .str (.cons .bool .nil))) (by first | decide | simp)
 ·have h3 := iteBT h1 hb
  refine rl.run 1 rfl (rl.done (RW.cond_f rfl (RW.skip (RW.sdrw (rdraw.op rfl rfl (rdraw.op rfl rfl ?_))))))
  obtain ⟨v2, e2, h4⟩ := bindS h3
  refine rdraw.call rfl rfl rfl (CallW.val (r' := .str v2) ok_spec_l01Var (law_spec_l01Var e2) (.cons .int .nil) .refl ⟨rfl, ?_⟩)
  refine rdraw.op rfl rfl (rdraw.op rfl rfl ?_)
  obtain ⟨v3, e3, h5⟩ := bindS h4
  refine rdraw.call rfl rfl rfl (CallW.val (r' := .str v3) ok_spec_l01Var (law_spec_l01Var e3) (.cons .int .nil) .refl ⟨rfl, ?_⟩)
  obtain ⟨v4, e4, h6⟩ := bindS h5
  refine rdraw.op rfl (x_cat rfl rfl e4) ?_
  refine rdraw.op rfl rfl (rdraw.op rfl rfl ?_)
  obtain ⟨v5, e5, h7⟩ := bindS h6
  refine rdraw.call rfl rfl rfl (CallW.val (r' := .str v5) ok_spec_l01Var (law_spec_l01Var e5) (.cons .int .nil) .refl ⟨rfl, ?_⟩)
  obtain ⟨v6, e6, h8⟩ := bindS h7
  refine rdraw.op rfl (x_cat rfl rfl e6) ?_
  refine rdraw.op rfl rfl (rdraw.op rfl rfl ?_)
  obtain ⟨v7, e7, h9⟩ := bindS h8
  refine rdraw.call rfl rfl rfl (CallW.val (r' := .str v7) ok_spec_l01Var (law_spec_l01Var e7) (.cons .int .nil) .refl ⟨rfl, ?_⟩)
  obtain ⟨v8, e8, h10⟩ := bindS h9
  refine rdraw.op rfl (x_cat rfl rfl e8) ?_
  refine rdraw.op rfl rfl (rdraw.op rfl rfl (rdraw.op rfl rfl ?_))
  obtain ⟨v9, e9, h11⟩ := bindS h10
  refine rdraw.call rfl rfl rfl (CallW.val (r' := .str v9) ok_spec_l01Var (law_spec_l01Var e9) (.cons .int .nil) .refl ⟨rfl, ?_⟩)
  obtain ⟨v10, e10, h12⟩ := bindS h11
  refine rdraw.op rfl (x_cat rfl rfl e10) ?_
  refine rdraw.op rfl rfl (rdraw.done ?_)
  refine RW.keep [1, 4] (a' := [(1, .ptr 0 0), (4, .str v10)]) (H' := [some ⟨[.int .i64 x0.Stamp, .int .i64 x0.NextGen, .int .i64 x0.NextSeq, .int .i64 x0.NextValid, .lst false 2 (fl (enc_TRef false) x0.Refs) x0.Refs.length], 0⟩]) rfl rfl ?_
  refine RW.seq (RW.sreg (rl.run 1 rfl (rl.done ?_)))
  obtain ⟨y19, ey19, h14⟩ := bindS h12
  refine RW.cutq (σ := (List UInt8)) (fun y12 => [(4, .str y12)]) (fun y12 => []) (fun y => y19 = y) (fun _ _ _ _ g h => RW.gh g h) ?_ ?_
  ·refine RW.blk ?_
   refine RW.iter (σ := (List UInt8) × Int) ey19 (fun s11 => [(1, .ptr 0 0), (4, .str s11.1), (5, .int .i64 s11.2)]) (fun s11 => [some ⟨[.int .i64 x0.Stamp, .int .i64 x0.NextGen, .int .i64 x0.NextSeq, .int .i64 x0.NextValid, .lst false 2 (fl (enc_TRef false) x0.Refs) x0.Refs.length], 0⟩]) (Gh.ren0 [0] (.cells rfl rfl (.keep .int (.keep .int (.keep .int (.keep .int (.keep (ek_TRef.rlst) .nil))))) .nil) rfl (.cons rfl (.ptr rfl) (.cons rfl (.dat .str) (.cons rfl (.dat .int) .nil)))) (fun s11 B o hS13 hB13 hE13 => ?_)
   unfold S_spec_CheckText_1 at hS13
   refine RW.seq (RW.sreg (rl.run 4 rfl ?_))
   refine rl.gen rfl rfl fun b hb => ?_
   cases b
   ·have h15 := iteBF hS13 hb
    refine rl.done (RW.cond_f rfl (RW.exit (blkA_eq ?_)))
    cases h15
    exact ⟨_, (hE13 _ rfl).symm, (Gh.ren0 [] .nil rfl (.cons rfl (.dat .str) .nil))⟩
   ·have h16 := iteBT hS13 hb
    refine rl.done (RW.cond_t rfl (RW.skip (RW.seq (RW.blk (RW.drw (rdraw.op rfl rfl (rdraw.op rfl rfl (rdraw.op rfl rfl (rdraw.op rfl rfl ?_)))))))))
    obtain ⟨v13, e13, h17⟩ := bindS h16
    refine rdraw.op rfl (x_ia_lst (enc := enc_TRef) (o := false) rfl rfl rfl e13) ?_
    refine rdraw.op rfl rfl ?_
    refine rdraw.op rfl (x_ld_el (off' := 0) ek_TRef rfl e13 rfl rfl rfl) ?_
    obtain ⟨v14, e14, h18⟩ := bindS h17
    refine rdraw.call rfl rfl rfl (CallW.val (r' := .str v14) ok_spec_l01Var (law_spec_l01Var e14) (.cons .int .nil) .refl ⟨rfl, ?_⟩)
    obtain ⟨v15, e15, h19⟩ := bindS h18
    refine rdraw.op rfl (x_cat rfl rfl e15) ?_
    refine rdraw.op rfl rfl (rdraw.op rfl rfl (rdraw.op rfl rfl ?_))
    obtain ⟨v16, e16, h20⟩ := bindS h19
    refine rdraw.op rfl (x_ia_lst (enc := enc_TRef) (o := false) rfl rfl rfl e16) ?_
    refine rdraw.op rfl rfl ?_
    refine rdraw.op rfl (x_ld_el (off' := 1) ek_TRef rfl e16 rfl rfl rfl) ?_
    obtain ⟨v17, e17, h21⟩ := bindS h20
    refine rdraw.call rfl rfl rfl (CallW.val (r' := .str v17) ok_spec_l01Var (law_spec_l01Var e17) (.cons .int .nil) .refl ⟨rfl, ?_⟩)
    obtain ⟨v18, e18, h22⟩ := bindS h21
    refine rdraw.op rfl (x_cat rfl rfl e18) ?_
    refine rdraw.op rfl rfl (rdraw.done (RW.reg (rl.run 3 rfl (rl.done ?_))))
    cases h22
    exact hB13 _ rfl _ _ (Gh.ren0 [0] (.cells rfl rfl (.keep .int (.keep .int (.keep .int (.keep .int (.keep (ek_TRef.rlst) .nil))))) .nil) rfl (.cons rfl (.ptr rfl) (.cons rfl (.dat .str) (.cons rfl (.dat .int) .nil))))
  ·intro y12 hC
   subst hC
   refine RW.sreg (rl.run 1 rfl ?_)
   obtain ⟨v20, e20, h23⟩ := bindS h14
   refine rl.call rfl rfl rfl (CallW.val (r' := .tup [.str v20.1, .bool v20.2]) ok_spec_Sealed (law_spec_Sealed e20) (.cons .str .nil) (FlL.tup (.cons .refl (.cons .refl .nil))) ?_)
   refine rl.run 5 rfl (rl.done (RW.sreg (rl.run 1 rfl ?_)))
   obtain ⟨v21, e21, h24⟩ := bindS h23
   refine rl.call rfl rfl rfl (CallW.val (r' := .str v21) ok_spec_l06Short (law_spec_l06Short e21) (.cons .str .nil) .refl ?_)
   refine rl.run 1 rfl (rl.done (RW.seq (RW.seq ?_)))
   obtain ⟨y22, ey22, h25⟩ := bindS h24
   refine RW.cutq (σ := Bool) (fun y22 => [(8, .str v21), (69, .bool y22)]) (fun y22 => []) (fun y => y22 = y) (fun _ _ _ _ g h => RW.gh g h) ?_ ?_
   ·refine RW.reg ?_
    refine rl.run 3 rfl ?_
    cases hb : (!v20.2)
    ·have h26 := iteBF ey22 hb
     refine rl.run 2 rfl ?_
     refine rl.gen rfl rfl fun b hb => ?_
     cases b
     ·have h27 := iteBF h26 hb
      refine rl.run 1 rfl (rl.done ?_)
      cases h27
      exact ⟨_, rfl, (Gh.ren0 [] .nil rfl (.cons rfl (.dat .str) (.cons rfl (.dat .bool) .nil)))⟩
     ·have h28 := iteBT h26 hb
      refine rl.run 1 rfl (rl.done ?_)
      cases h28
      exact ⟨_, rfl, (Gh.ren0 [] .nil rfl (.cons rfl (.dat .str) (.cons rfl (.dat .bool) .nil)))⟩
    ·have h29 := iteBT ey22 hb
     refine rl.run 4 rfl (rl.done ?_)
     cases h29
     exact ⟨_, rfl, (Gh.ren0 [] .nil rfl (.cons rfl (.dat .str) (.cons rfl (.dat .bool) .nil)))⟩
   ·intro y hC
    subst hC
    cases hb : y22
    ·have h30 := iteBF h25 hb
     refine RW.cond_f rfl (RW.skip (RW.sreg (rl.run 3 rfl (rl.done (RW.ret ?_)))))
     cases h30
     exact RRet.mk rfl (OutT.tup (.cons .str (.cons .bool .nil))) (by first | decide | simp)
    ·have h31 := iteBT h25 hb
     refine RW.cond_t rfl (RW.sreg (rl.run 2 rfl (rl.done (RW.ret ?_))))
     cases h31
     exact RRet.mk rfl (OutT.tup (.cons .str (.cons .bool .nil))) (by first | decide | simp)
theorem law_spec_ReadCheck {x0 : List UInt8} {r : TCheck × Bool} (hF : F_spec_ReadCheck x0 = some r) : PCalls Try.prog 84 [.str x0] (.tup [.agg (enc_TCheck true r.1), .bool r.2]) := by
 refine PCalls.of_r k_spec_ReadCheck rfl ?_
 unfold F_spec_ReadCheck at hF
 refine RW.sreg (rl.run 2 rfl (rl.done (RW.sreg (rl.run 1 rfl ?_))))
 obtain ⟨v1, e1, h1⟩ := bindS hF
 refine rl.call rfl rfl rfl (CallW.val (r' := .tup [.str v1.1, .int .i64 v1.2.1, .bool v1.2.2]) ok_spec_ReadShort (law_spec_ReadShort e1) (.cons .str (.cons .int .nil)) (FlL.tup (.cons .refl (.cons .refl (.cons .refl .nil)))) ?_)
 refine rl.run 7 rfl (rl.done (RW.sreg (rl.run 1 rfl ?_)))
 obtain ⟨v2, e2, h2⟩ := bindS h1
 refine rl.call rfl rfl rfl (CallW.val (r' := .tup [.str v2.1, .bool v2.2]) ok_spec_Unsealed (law_spec_Unsealed e2) (.cons .str .nil) (FlL.tup (.cons .refl (.cons .refl .nil))) ?_)
 refine rl.run 5 rfl (rl.done ?_)
 refine RW.keep [0, 2, 5, 6, 7, 8] (a' := [(0, .str x0), (2, .ptr 0 0), (5, .int .i64 v1.2.1), (6, .bool v1.2.2), (7, .str v2.1), (8, .bool v2.2)]) (H' := [some ⟨[.int .i64 0, .int .i64 0, .int .i64 0, .int .i64 0, .nils], 0⟩]) rfl rfl ?_
 refine RW.seq (RW.sreg (rl.run 3 rfl ?_))
 cases hb : (!v1.2.2)
 ·have h3 := iteBF h2 hb
  refine rl.run 3 rfl (rl.done ?_)
  cases hb : (!v2.2)
  ·have h4 := iteBF h3 hb
   refine RW.cond_f rfl (RW.skip (RW.sreg (rl.run 4 rfl (rl.done ?_))))
   refine RW.keep [0, 2, 5, 9] (a' := [(0, .str x0), (2, .ptr 0 0), (5, .int .i64 v1.2.1), (9, .ptr 1 0)]) (H' := [some ⟨[.int .i64 0, .int .i64 0, .int .i64 0, .int .i64 0, .nils], 0⟩, some ⟨[.str v2.1, .int .i64 0, .bool false], 0⟩]) rfl rfl ?_
   refine RW.sreg (rl.run 1 rfl ?_)
   obtain ⟨v3, e3, h5⟩ := bindS h4
   refine rl.call rfl rfl rfl (CallW.embW (r0 := .int .i64 v3.1) (H' := [some ⟨[.int .i64 0, .int .i64 0, .int .i64 0, .int .i64 0, .nils], 0⟩, some ⟨[.str v3.2.mText, .int .i64 v3.2.mAt, .bool v3.2.mBad], 0⟩]) [⟨[.str v2.1, .int .i64 0, .bool false], 0⟩] [⟨[.str v3.2.mText, .int .i64 v3.2.mAt, .bool v3.2.mBad], 0⟩] [1] ok_spec_l06Var (law_spec_l06Var_w e3) (.cons rfl (fac .str (fac .int (fac .bool fan))) (fac .str (fac .int (fac .bool fan))) .nil) rfl (.cons (.ptr rfl) .nil) .int rfl rfl ?_)
   refine rl.run 3 rfl (rl.done (RW.sreg (rl.run 1 rfl ?_)))
   obtain ⟨v4, e4, h6⟩ := bindS h5
   refine rl.call rfl rfl rfl (CallW.embW (r0 := .int .i64 v4.1) (H' := [some ⟨[.int .i64 0, .int .i64 0, .int .i64 0, .int .i64 0, .nils], 0⟩, some ⟨[.str v4.2.mText, .int .i64 v4.2.mAt, .bool v4.2.mBad], 0⟩, some ⟨[.int .i64 v3.1, .int .i64 0, .int .i64 0, .int .i64 0, .nils], 0⟩]) [⟨[.str v3.2.mText, .int .i64 v3.2.mAt, .bool v3.2.mBad], 0⟩] [⟨[.str v4.2.mText, .int .i64 v4.2.mAt, .bool v4.2.mBad], 0⟩] [1] ok_spec_l06Var (law_spec_l06Var_w e4) (.cons rfl (fac .str (fac .int (fac .bool fan))) (fac .str (fac .int (fac .bool fan))) .nil) rfl (.cons (.ptr rfl) .nil) .int rfl rfl ?_)
   refine rl.run 2 rfl (rl.done (RW.sreg (rl.run 1 rfl ?_)))
   obtain ⟨v5, e5, h7⟩ := bindS h6
   refine rl.call rfl rfl rfl (CallW.embW (r0 := .int .i64 v5.1) (H' := [some ⟨[.int .i64 0, .int .i64 0, .int .i64 0, .int .i64 0, .nils], 0⟩, some ⟨[.str v5.2.mText, .int .i64 v5.2.mAt, .bool v5.2.mBad], 0⟩, some ⟨[.int .i64 v3.1, .int .i64 v4.1, .int .i64 0, .int .i64 0, .nils], 0⟩]) [⟨[.str v4.2.mText, .int .i64 v4.2.mAt, .bool v4.2.mBad], 0⟩] [⟨[.str v5.2.mText, .int .i64 v5.2.mAt, .bool v5.2.mBad], 0⟩] [1] ok_spec_l06Var (law_spec_l06Var_w e5) (.cons rfl (fac .str (fac .int (fac .bool fan))) (fac .str (fac .int (fac .bool fan))) .nil) rfl (.cons (.ptr rfl) .nil) .int rfl rfl ?_)
   refine rl.run 2 rfl (rl.done (RW.sreg (rl.run 1 rfl ?_)))
   obtain ⟨v6, e6, h8⟩ := bindS h7
   refine rl.call rfl rfl rfl (CallW.embW (r0 := .int .i64 v6.1) (H' := [some ⟨[.int .i64 0, .int .i64 0, .int .i64 0, .int .i64 0, .nils], 0⟩, some ⟨[.str v6.2.mText, .int .i64 v6.2.mAt, .bool v6.2.mBad], 0⟩, some ⟨[.int .i64 v3.1, .int .i64 v4.1, .int .i64 v5.1, .int .i64 0, .nils], 0⟩]) [⟨[.str v5.2.mText, .int .i64 v5.2.mAt, .bool v5.2.mBad], 0⟩] [⟨[.str v6.2.mText, .int .i64 v6.2.mAt, .bool v6.2.mBad], 0⟩] [1] ok_spec_l06Var (law_spec_l06Var_w e6) (.cons rfl (fac .str (fac .int (fac .bool fan))) (fac .str (fac .int (fac .bool fan))) .nil) rfl (.cons (.ptr rfl) .nil) .int rfl rfl ?_)
   refine rl.run 2 rfl (rl.done ?_)
   refine RW.keep [0, 2, 5, 9, 10] (a' := [(0, .str x0), (2, .ptr 0 0), (5, .int .i64 v1.2.1), (9, .ptr 1 0), (10, .ptr 2 0)]) (H' := [some ⟨[.int .i64 0, .int .i64 0, .int .i64 0, .int .i64 0, .nils], 0⟩, some ⟨[.str v6.2.mText, .int .i64 v6.2.mAt, .bool v6.2.mBad], 0⟩, some ⟨[.int .i64 v3.1, .int .i64 v4.1, .int .i64 v5.1, .int .i64 v6.1, .nils], 0⟩]) rfl rfl ?_
   refine RW.sreg (rl.run 1 rfl ?_)
   obtain ⟨v7, e7, h9⟩ := bindS h8
   refine rl.call rfl rfl rfl (CallW.embW (r0 := .int .i64 v7.1) (H' := [some ⟨[.int .i64 0, .int .i64 0, .int .i64 0, .int .i64 0, .nils], 0⟩, some ⟨[.str v7.2.mText, .int .i64 v7.2.mAt, .bool v7.2.mBad], 0⟩, some ⟨[.int .i64 v3.1, .int .i64 v4.1, .int .i64 v5.1, .int .i64 v6.1, .nils], 0⟩]) [⟨[.str v6.2.mText, .int .i64 v6.2.mAt, .bool v6.2.mBad], 0⟩] [⟨[.str v7.2.mText, .int .i64 v7.2.mAt, .bool v7.2.mBad], 0⟩] [1] ok_spec_l06Var (law_spec_l06Var_w e7) (.cons rfl (fac .str (fac .int (fac .bool fan))) (fac .str (fac .int (fac .bool fan))) .nil) rfl (.cons (.ptr rfl) .nil) .int rfl rfl ?_)
   refine rl.run 1 rfl (rl.done (RW.seq (RW.sreg (rl.run 1 rfl (rl.done ?_)))))
   refine RW.gh (Gh.nil_c 2 4 2 rfl rfl) ?_
   obtain ⟨y14, ey14, h11⟩ := bindS h9
   refine RW.cutq (σ := (List UInt8) × Int × Bool × (List TRef)) (fun y9 => [(0, .str x0), (2, .ptr 0 0), (5, .int .i64 v1.2.1), (9, .ptr 1 0), (10, .ptr 2 0)]) (fun y9 => [some ⟨[.int .i64 0, .int .i64 0, .int .i64 0, .int .i64 0, .nils], 0⟩, some ⟨[.str y9.1, .int .i64 y9.2.1, .bool y9.2.2.1], 0⟩, some ⟨[.int .i64 v3.1, .int .i64 v4.1, .int .i64 v5.1, .int .i64 v6.1, .sl 3 0 y9.2.2.2.length], 0⟩, some ⟨fl (enc_TRef true) y9.2.2.2, 2⟩]) (fun y => y14 = y) (fun _ _ _ _ g h => RW.gh g h) ?_ ?_
   ·refine RW.blk ?_
    refine RW.iter (σ := Int × (List UInt8) × Int × Bool × (List TRef)) ey14 (fun s8 => [(0, .str x0), (2, .ptr 0 0), (5, .int .i64 v1.2.1), (9, .ptr 1 0), (10, .ptr 2 0), (11, .int .i64 v7.1), (12, .int .i64 s8.1)]) (fun s8 => [some ⟨[.int .i64 0, .int .i64 0, .int .i64 0, .int .i64 0, .nils], 0⟩, some ⟨[.str s8.2.1, .int .i64 s8.2.2.1, .bool s8.2.2.2.1], 0⟩, some ⟨[.int .i64 v3.1, .int .i64 v4.1, .int .i64 v5.1, .int .i64 v6.1, .sl 3 0 s8.2.2.2.2.length], 0⟩, some ⟨fl (enc_TRef true) s8.2.2.2.2, 2⟩]) (Gh.ren0 [0, 1, 2, 3] (.cells rfl rfl (.keep .int (.keep .int (.keep .int (.keep .int (.keep .nils .nil))))) (.cells rfl rfl (.keep .str (.keep .int (.keep .bool .nil))) (.cells rfl rfl (.keep .int (.keep .int (.keep .int (.keep .int (.slq rfl rfl .nil))))) (.same rfl (ek_TRef.fref _ _) .nil)))) rfl (.cons rfl (.dat .str) (.cons rfl (.ptr rfl) (.cons rfl (.dat .int) (.cons rfl (.ptr rfl) (.cons rfl (.ptr rfl) (.cons rfl (.dat .int) (.cons rfl (.dat .int) .nil)))))))) (fun s8 B o hS10 hB10 hE10 => ?_)
    unfold S_spec_ReadCheck_1 at hS10
    refine RW.seq (RW.seq ?_)
    obtain ⟨y10, ey10, h12⟩ := bindS hS10
    refine RW.cutq (σ := Bool) (fun y10 => [(0, .str x0), (2, .ptr 0 0), (5, .int .i64 v1.2.1), (9, .ptr 1 0), (10, .ptr 2 0), (11, .int .i64 v7.1), (12, .int .i64 s8.1), (64, .bool y10)]) (fun y10 => [some ⟨[.int .i64 0, .int .i64 0, .int .i64 0, .int .i64 0, .nils], 0⟩, some ⟨[.str s8.2.1, .int .i64 s8.2.2.1, .bool s8.2.2.2.1], 0⟩, some ⟨[.int .i64 v3.1, .int .i64 v4.1, .int .i64 v5.1, .int .i64 v6.1, .sl 3 0 s8.2.2.2.2.length], 0⟩, some ⟨fl (enc_TRef true) s8.2.2.2.2, 2⟩]) (fun y => y10 = y) (fun _ _ _ _ g h => RW.gh g h) ?_ ?_
    ·refine RW.reg ?_
     refine rl.run 2 rfl ?_
     refine rl.gen rfl rfl fun b hb => ?_
     cases b
     ·have h13 := iteBF ey10 hb
      refine rl.run 11 rfl (rl.done ?_)
      cases h13
      exact ⟨_, rfl, (Gh.ren0 [0, 1, 2, 3] (.cells rfl rfl (.keep .int (.keep .int (.keep .int (.keep .int (.keep .nils .nil))))) (.cells rfl rfl (.keep .str (.keep .int (.keep .bool .nil))) (.cells rfl rfl (.keep .int (.keep .int (.keep .int (.keep .int (.slq rfl rfl .nil))))) (.same rfl (ek_TRef.fref _ _) .nil)))) rfl (.cons rfl (.dat .str) (.cons rfl (.ptr rfl) (.cons rfl (.dat .int) (.cons rfl (.ptr rfl) (.cons rfl (.ptr rfl) (.cons rfl (.dat .int) (.cons rfl (.dat .int) (.cons rfl (.dat .bool) .nil)))))))))⟩
     ·have h14 := iteBT ey10 hb
      refine rl.run 2 rfl ?_
      refine rl.gen rfl rfl fun b hb => ?_
      cases b
      ·have h15 := iteBF h14 hb
       refine rl.run 8 rfl (rl.done ?_)
       cases h15
       exact ⟨_, rfl, (Gh.ren0 [0, 1, 2, 3] (.cells rfl rfl (.keep .int (.keep .int (.keep .int (.keep .int (.keep .nils .nil))))) (.cells rfl rfl (.keep .str (.keep .int (.keep .bool .nil))) (.cells rfl rfl (.keep .int (.keep .int (.keep .int (.keep .int (.slq rfl rfl .nil))))) (.same rfl (ek_TRef.fref _ _) .nil)))) rfl (.cons rfl (.dat .str) (.cons rfl (.ptr rfl) (.cons rfl (.dat .int) (.cons rfl (.ptr rfl) (.cons rfl (.ptr rfl) (.cons rfl (.dat .int) (.cons rfl (.dat .int) (.cons rfl (.dat .bool) .nil)))))))))⟩
      ·have h16 := iteBT h14 hb
       refine rl.run 8 rfl (rl.done ?_)
       cases h16
       exact ⟨_, rfl, (Gh.ren0 [0, 1, 2, 3] (.cells rfl rfl (.keep .int (.keep .int (.keep .int (.keep .int (.keep .nils .nil))))) (.cells rfl rfl (.keep .str (.keep .int (.keep .bool .nil))) (.cells rfl rfl (.keep .int (.keep .int (.keep .int (.keep .int (.slq rfl rfl .nil))))) (.same rfl (ek_TRef.fref _ _) .nil)))) rfl (.cons rfl (.dat .str) (.cons rfl (.ptr rfl) (.cons rfl (.dat .int) (.cons rfl (.ptr rfl) (.cons rfl (.ptr rfl) (.cons rfl (.dat .int) (.cons rfl (.dat .int) (.cons rfl (.dat .bool) .nil)))))))))⟩
    ·intro y hC
     subst hC
     cases hb : y10
     ·have h17 := iteBF h12 hb
      refine RW.cond_f rfl (RW.exit (blkA_eq ?_))
      cases h17
      exact ⟨_, (hE10 _ rfl).symm, (Gh.ren0 [0, 1, 2, 3] (.cells rfl rfl (.keep .int (.keep .int (.keep .int (.keep .int (.keep .nils .nil))))) (.cells rfl rfl (.keep .str (.keep .int (.keep .bool .nil))) (.cells rfl rfl (.keep .int (.keep .int (.keep .int (.keep .int (.slq rfl rfl .nil))))) (.same rfl (ek_TRef.fref _ _) .nil)))) rfl (.cons rfl (.dat .str) (.cons rfl (.ptr rfl) (.cons rfl (.dat .int) (.cons rfl (.ptr rfl) (.cons rfl (.ptr rfl) .nil))))))⟩
     ·have h18 := iteBT h12 hb
      refine RW.cond_t rfl (RW.skip (RW.seq (RW.blk (RW.sreg (rl.run 1 rfl ?_)))))
      obtain ⟨v11, e11, h19⟩ := bindS h18
      refine rl.call rfl rfl rfl (CallW.embW (r0 := .int .i64 v11.1) (H' := [some ⟨[.int .i64 0, .int .i64 0, .int .i64 0, .int .i64 0, .nils], 0⟩, some ⟨[.str v11.2.mText, .int .i64 v11.2.mAt, .bool v11.2.mBad], 0⟩, some ⟨[.int .i64 v3.1, .int .i64 v4.1, .int .i64 v5.1, .int .i64 v6.1, .sl 3 0 s8.2.2.2.2.length], 0⟩, some ⟨fl (enc_TRef true) s8.2.2.2.2, 2⟩]) [⟨[.str s8.2.1, .int .i64 s8.2.2.1, .bool s8.2.2.2.1], 0⟩] [⟨[.str v11.2.mText, .int .i64 v11.2.mAt, .bool v11.2.mBad], 0⟩] [1] ok_spec_l06Var (law_spec_l06Var_w e11) (.cons rfl (fac .str (fac .int (fac .bool fan))) (fac .str (fac .int (fac .bool fan))) .nil) rfl (.cons (.ptr rfl) .nil) .int rfl rfl ?_)
      refine rl.run 3 rfl (rl.done (RW.sreg (rl.run 1 rfl ?_)))
      obtain ⟨v12, e12, h20⟩ := bindS h19
      refine rl.call rfl rfl rfl (CallW.embW (r0 := .int .i64 v12.1) (H' := [some ⟨[.int .i64 0, .int .i64 0, .int .i64 0, .int .i64 0, .nils], 0⟩, some ⟨[.str v12.2.mText, .int .i64 v12.2.mAt, .bool v12.2.mBad], 0⟩, some ⟨[.int .i64 v3.1, .int .i64 v4.1, .int .i64 v5.1, .int .i64 v6.1, .sl 3 0 s8.2.2.2.2.length], 0⟩, some ⟨fl (enc_TRef true) s8.2.2.2.2, 2⟩, some ⟨[.int .i64 v11.1, .int .i64 0], 0⟩]) [⟨[.str v11.2.mText, .int .i64 v11.2.mAt, .bool v11.2.mBad], 0⟩] [⟨[.str v12.2.mText, .int .i64 v12.2.mAt, .bool v12.2.mBad], 0⟩] [1] ok_spec_l06Var (law_spec_l06Var_w e12) (.cons rfl (fac .str (fac .int (fac .bool fan))) (fac .str (fac .int (fac .bool fan))) .nil) rfl (.cons (.ptr rfl) .nil) .int rfl rfl ?_)
      refine rl.run 2 rfl (rl.done (RW.reg (rl.run 4 rfl ?_)))
      obtain ⟨v13, e13, h21⟩ := bindS h20
      refine rl.op (x_app rfl rfl (rapp_sl (l := s8.2.2.2.2) (m := [({ No := v11.1, Gen := v12.1 } : TRef)]) (o := true) ek_TRef rfl rfl (acont_slq (m := [({ No := v11.1, Gen := v12.1 } : TRef)]) (o := true) fk_TRef rfl rfl) rfl (fk_TRef.fst _ _) e13)) ?_
      refine rl.run 2 rfl (rl.done (RW.reg (rl.run 3 rfl (rl.done ?_))))
      cases h21
      exact hB10 _ rfl _ _ (Gh.ren0 [0, 1, 2, 6] (.cells rfl rfl (.keep .int (.keep .int (.keep .int (.keep .int (.keep .nils .nil))))) (.cells rfl rfl (.keep .str (.keep .int (.keep .bool .nil))) (.cells rfl rfl (.keep .int (.keep .int (.keep .int (.keep .int (.slq rfl rfl .nil))))) (.same rfl (ek_TRef.fref _ _) .nil)))) rfl (.cons rfl (.dat .str) (.cons rfl (.ptr rfl) (.cons rfl (.dat .int) (.cons rfl (.ptr rfl) (.cons rfl (.ptr rfl) (.cons rfl (.dat .int) (.cons rfl (.dat .int) .nil))))))))
   ·intro y9 hC
    subst hC
    refine RW.sreg (rl.run 1 rfl ?_)
    obtain ⟨v15, e15, h22⟩ := bindS h11
    refine rl.call rfl rfl rfl (CallW.val (r' := .tup [.str v15.1, .bool v15.2]) ok_spec_CheckText (law_spec_CheckText e15) (.cons (DFL.agg (.cons .int (.cons .int (.cons .int (.cons .int (.cons (.slq ek_TRef rfl rfl) .nil)))))) .nil) (FlL.tup (.cons .refl (.cons .refl .nil))) ?_)
    refine rl.run 5 rfl (rl.done (RW.seq (RW.seq ?_)))
    obtain ⟨y16, ey16, h23⟩ := bindS h22
    refine RW.cutq (σ := Bool) (fun y16 => [(2, .ptr 0 0), (10, .ptr 1 0), (98, .bool y16)]) (fun y16 => [some ⟨[.int .i64 0, .int .i64 0, .int .i64 0, .int .i64 0, .nils], 0⟩, some ⟨[.int .i64 v3.1, .int .i64 v4.1, .int .i64 v5.1, .int .i64 v6.1, .sl 2 0 y14.2.2.2.length], 0⟩, some ⟨fl (enc_TRef true) y14.2.2.2, 2⟩]) (fun y => y16 = y) (fun _ _ _ _ g h => RW.gh g h) ?_ ?_
    ·refine RW.reg ?_
     refine rl.run 5 rfl ?_
     cases hb : y14.2.2.1
     ·have h24 := iteBF ey16 hb
      refine rl.run 4 rfl ?_
      cases hb : (!v15.2)
      ·have h25 := iteBF h24 hb
       refine rl.run 3 rfl ?_
       obtain ⟨v17, e17, h26⟩ := bindS h25
       refine rl.gop rfl (x_sls rfl rfl rfl abnd_hi e17) ?_
       refine rl.gen rfl rfl fun b hb => ?_
       cases b
       ·have h27 := iteBF h26 hb
        refine rl.run 1 rfl (rl.done ?_)
        cases h27
        exact ⟨_, rfl, (Gh.ren0 [0, 2, 3] (.cells rfl rfl (.keep .int (.keep .int (.keep .int (.keep .int (.keep .nils .nil))))) (.cells rfl rfl (.keep .int (.keep .int (.keep .int (.keep .int (.slq rfl rfl .nil))))) (.same rfl (ek_TRef.fref _ _) .nil))) rfl (.cons rfl (.ptr rfl) (.cons rfl (.ptr rfl) (.cons rfl (.dat .bool) .nil))))⟩
       ·have h28 := iteBT h26 hb
        refine rl.run 1 rfl (rl.done ?_)
        cases h28
        exact ⟨_, rfl, (Gh.ren0 [0, 2, 3] (.cells rfl rfl (.keep .int (.keep .int (.keep .int (.keep .int (.keep .nils .nil))))) (.cells rfl rfl (.keep .int (.keep .int (.keep .int (.keep .int (.slq rfl rfl .nil))))) (.same rfl (ek_TRef.fref _ _) .nil))) rfl (.cons rfl (.ptr rfl) (.cons rfl (.ptr rfl) (.cons rfl (.dat .bool) .nil))))⟩
      ·have h29 := iteBT h24 hb
       refine rl.run 6 rfl (rl.done ?_)
       cases h29
       exact ⟨_, rfl, (Gh.ren0 [0, 2, 3] (.cells rfl rfl (.keep .int (.keep .int (.keep .int (.keep .int (.keep .nils .nil))))) (.cells rfl rfl (.keep .int (.keep .int (.keep .int (.keep .int (.slq rfl rfl .nil))))) (.same rfl (ek_TRef.fref _ _) .nil))) rfl (.cons rfl (.ptr rfl) (.cons rfl (.ptr rfl) (.cons rfl (.dat .bool) .nil))))⟩
     ·have h30 := iteBT ey16 hb
      refine rl.run 10 rfl (rl.done ?_)
      cases h30
      exact ⟨_, rfl, (Gh.ren0 [0, 2, 3] (.cells rfl rfl (.keep .int (.keep .int (.keep .int (.keep .int (.keep .nils .nil))))) (.cells rfl rfl (.keep .int (.keep .int (.keep .int (.keep .int (.slq rfl rfl .nil))))) (.same rfl (ek_TRef.fref _ _) .nil))) rfl (.cons rfl (.ptr rfl) (.cons rfl (.ptr rfl) (.cons rfl (.dat .bool) .nil))))⟩
    ·intro y hC
     subst hC
     cases hb : y16
     ·have h31 := iteBF h23 hb
      refine RW.cond_f rfl (RW.skip (RW.sreg (rl.run 3 rfl (rl.done (RW.ret ?_)))))
      cases h31
      exact RRet.mk rfl (OutT.tup (.cons (OutL.agg (.cons .int rfl (.cons .int rfl (.cons .int rfl (.cons .int rfl (.cons (OutR.ownq ek_TRef rfl rfl) rfl .nil)))))) (.cons .bool .nil))) (by first | decide | simp)
     ·have h32 := iteBT h23 hb
      refine RW.cond_t rfl (RW.sreg (rl.run 3 rfl (rl.done (RW.ret ?_))))
      cases h32
      exact RRet.mk rfl (OutT.tup (.cons (OutL.agg (.cons .int rfl (.cons .int rfl (.cons .int rfl (.cons .int rfl (.cons (OutR.nil (enc := enc_TRef)) rfl .nil)))))) (.cons .bool .nil))) (by first | decide | simp)
  ·have h33 := iteBT h3 hb
   refine RW.cond_t rfl (RW.sreg (rl.run 3 rfl (rl.done ?_)))
   refine RW.keep [2, 3] (a' := [(2, .ptr 0 0), (3, .bool false)]) (H' := [some ⟨[.int .i64 0, .int .i64 0, .int .i64 0, .int .i64 0, .nils], 0⟩]) rfl rfl ?_
   refine RW.ret ?_
   cases h33
   exact RRet.mk rfl (OutT.tup (.cons (OutL.agg (.cons .int rfl (.cons .int rfl (.cons .int rfl (.cons .int rfl (.cons (OutR.nil (enc := enc_TRef)) rfl .nil)))))) (.cons .bool .nil))) (by first | decide | simp)
 ·have h34 := iteBT h2 hb
  refine rl.run 3 rfl (rl.done (RW.cond_t rfl (RW.sreg (rl.run 3 rfl (rl.done ?_)))))
  refine RW.keep [2, 3] (a' := [(2, .ptr 0 0), (3, .bool false)]) (H' := [some ⟨[.int .i64 0, .int .i64 0, .int .i64 0, .int .i64 0, .nils], 0⟩]) rfl rfl ?_
  refine RW.ret ?_
  cases h34
  exact RRet.mk rfl (OutT.tup (.cons (OutL.agg (.cons .int rfl (.cons .int rfl (.cons .int rfl (.cons .int rfl (.cons (OutR.nil (enc := enc_TRef)) rfl .nil)))))) (.cons .bool .nil))) (by first | decide | simp)
theorem law_spec_NewestCheck {x0 : TDisk} {r : TCheck × Bool} (hF : F_spec_NewestCheck x0 = some r) : PCalls Try.prog 41 [.agg (enc_TDisk false x0)] (.tup [.agg (enc_TCheck true r.1), .bool r.2]) := by
 refine PCalls.of_r k_spec_NewestCheck rfl ?_
 unfold F_spec_NewestCheck at hF
 refine RW.sreg (rl.run 3 rfl (rl.done (RW.sreg (rl.run 3 rfl (rl.done (RW.sreg (rl.run 1 rfl (rl.done (RW.seq (RW.sreg (rl.run 1 rfl ?_)))))))))))
 refine rl.done ?_
 refine RW.gh (Gh.nil_c 2 4 2 rfl rfl) ?_
 obtain ⟨y6, ey6, h2⟩ := bindS hF
 refine RW.cutq (σ := Bool × Int × Int × Int × Int × (List TRef)) (fun y2 => [(2, .ptr 0 0), (4, .ptr 1 0), (5, .bool y2.1)]) (fun y2 => [some ⟨[.int .i64 0, .int .i64 0, .int .i64 0, .int .i64 0, .nils], 0⟩, some ⟨[.int .i64 y2.2.1, .int .i64 y2.2.2.1, .int .i64 y2.2.2.2.1, .int .i64 y2.2.2.2.2.1, .sl 2 0 y2.2.2.2.2.2.length], 0⟩, some ⟨fl (enc_TRef true) y2.2.2.2.2.2, 2⟩]) (fun y => y6 = y) (fun _ _ _ _ g h => RW.gh g h) ?_ ?_
 ·refine RW.blk ?_
  refine RW.iter (σ := Bool × Int × Int × Int × Int × Int × (List TRef)) ey6 (fun s1 => [(1, .ptr 0 0), (2, .ptr 1 0), (4, .ptr 2 0), (5, .bool s1.1), (6, .int .i64 s1.2.1)]) (fun s1 => [some ⟨[.lst false 1 (fl (encS false) x0.Sectors) x0.Sectors.length, .lst false 2 (fl (enc_TWrite false) x0.Cache) x0.Cache.length], 0⟩, some ⟨[.int .i64 0, .int .i64 0, .int .i64 0, .int .i64 0, .nils], 0⟩, some ⟨[.int .i64 s1.2.2.1, .int .i64 s1.2.2.2.1, .int .i64 s1.2.2.2.2.1, .int .i64 s1.2.2.2.2.2.1, .sl 3 0 s1.2.2.2.2.2.2.length], 0⟩, some ⟨fl (enc_TRef true) s1.2.2.2.2.2.2, 2⟩]) (Gh.ren0 [0, 1, 2, 3] (.cells rfl rfl (.keep (ekS.rlst) (.keep (ek_TWrite.rlst) .nil)) (.cells rfl rfl (.keep .int (.keep .int (.keep .int (.keep .int (.keep .nils .nil))))) (.cells rfl rfl (.keep .int (.keep .int (.keep .int (.keep .int (.slq rfl rfl .nil))))) (.same rfl (ek_TRef.fref _ _) .nil)))) rfl (.cons rfl (.ptr rfl) (.cons rfl (.ptr rfl) (.cons rfl (.ptr rfl) (.cons rfl (.dat .bool) (.cons rfl (.dat .int) .nil)))))) (fun s1 B o hS1 hB1 hE1 => ?_)
  unfold S_spec_NewestCheck_1 at hS1
  refine RW.seq (RW.sreg (rl.run 1 rfl ?_))
  refine rl.gen rfl rfl fun b hb => ?_
  cases b
  ·have h3 := iteBF hS1 hb
   refine rl.done (RW.cond_f rfl (RW.exit (blkA_eq ?_)))
   cases h3
   exact ⟨_, (hE1 _ rfl).symm, (Gh.ren0 [1, 2, 3] (.cells rfl rfl (.keep .int (.keep .int (.keep .int (.keep .int (.keep .nils .nil))))) (.cells rfl rfl (.keep .int (.keep .int (.keep .int (.keep .int (.slq rfl rfl .nil))))) (.same rfl (ek_TRef.fref _ _) .nil))) rfl (.cons rfl (.ptr rfl) (.cons rfl (.ptr rfl) (.cons rfl (.dat .bool) .nil))))⟩
  ·have h4 := iteBT hS1 hb
   refine rl.done (RW.cond_t rfl (RW.skip (RW.seq (RW.blk (RW.sreg (rl.run 3 rfl ?_))))))
   obtain ⟨v3, e3, h5⟩ := bindS h4
   refine rl.call rfl rfl rfl (CallW.val (r' := .tup [.str v3.1, .bool v3.2]) ok_spec_SectorText (law_spec_SectorText e3) (.cons (DFL.agg (.cons (.lst ekS) (.cons (.lst ek_TWrite) .nil))) (.cons .int (.cons .int .nil))) (FlL.tup (.cons .refl (.cons .refl .nil))) ?_)
   refine rl.run 5 rfl (rl.done (RW.sreg (rl.run 1 rfl ?_)))
   obtain ⟨v4, e4, h6⟩ := bindS h5
   refine rl.call rfl rfl rfl (CallW.own (r' := .tup [.agg [.int .i64 v4.1.Stamp, .int .i64 v4.1.NextGen, .int .i64 v4.1.NextSeq, .int .i64 v4.1.NextValid, .sl 4 0 v4.1.Refs.length], .bool v4.2]) (H' := [some ⟨[.lst false 1 (fl (encS false) x0.Sectors) x0.Sectors.length, .lst false 2 (fl (enc_TWrite false) x0.Cache) x0.Cache.length], 0⟩, some ⟨[.int .i64 0, .int .i64 0, .int .i64 0, .int .i64 0, .nils], 0⟩, some ⟨[.int .i64 s1.2.2.1, .int .i64 s1.2.2.2.1, .int .i64 s1.2.2.2.2.1, .int .i64 s1.2.2.2.2.2.1, .sl 3 0 s1.2.2.2.2.2.2.length], 0⟩, some ⟨fl (enc_TRef true) s1.2.2.2.2.2.2, 2⟩, some ⟨fl (enc_TRef true) v4.1.Refs, 2⟩]) ok_spec_ReadCheck (law_spec_ReadCheck e4) (.cons .str .nil) (fac (ek_TCheck.own _) (fac .bool fan)) rfl ?_)
   refine rl.run 6 rfl (rl.done ?_)
   refine RW.keep [1, 2, 4, 5, 6, 8, 9, 10] (a' := [(1, .ptr 0 0), (2, .ptr 1 0), (4, .ptr 2 0), (5, .bool s1.1), (6, .int .i64 s1.2.1), (8, .bool v3.2), (9, .ptr 5 0), (10, .bool v4.2)]) (H' := [some ⟨[.lst false 1 (fl (encS false) x0.Sectors) x0.Sectors.length, .lst false 2 (fl (enc_TWrite false) x0.Cache) x0.Cache.length], 0⟩, some ⟨[.int .i64 0, .int .i64 0, .int .i64 0, .int .i64 0, .nils], 0⟩, some ⟨[.int .i64 s1.2.2.1, .int .i64 s1.2.2.2.1, .int .i64 s1.2.2.2.2.1, .int .i64 s1.2.2.2.2.2.1, .sl 3 0 s1.2.2.2.2.2.2.length], 0⟩, some ⟨fl (enc_TRef true) s1.2.2.2.2.2.2, 2⟩, some ⟨fl (enc_TRef true) v4.1.Refs, 2⟩, some ⟨[.int .i64 v4.1.Stamp, .int .i64 v4.1.NextGen, .int .i64 v4.1.NextSeq, .int .i64 v4.1.NextValid, .sl 4 0 v4.1.Refs.length], 0⟩]) rfl rfl ?_
   refine RW.seq ?_
   obtain ⟨y5, ey5, h7⟩ := bindS h6
   refine RW.cutq (σ := Bool) (fun y5 => [(1, .ptr 0 0), (2, .ptr 1 0), (4, .ptr 2 0), (5, .bool s1.1), (6, .int .i64 s1.2.1), (9, .ptr 3 0), (38, .bool y5)]) (fun y5 => [some ⟨[.lst false 1 (fl (encS false) x0.Sectors) x0.Sectors.length, .lst false 2 (fl (enc_TWrite false) x0.Cache) x0.Cache.length], 0⟩, some ⟨[.int .i64 0, .int .i64 0, .int .i64 0, .int .i64 0, .nils], 0⟩, some ⟨[.int .i64 s1.2.2.1, .int .i64 s1.2.2.2.1, .int .i64 s1.2.2.2.2.1, .int .i64 s1.2.2.2.2.2.1, .sl 4 0 s1.2.2.2.2.2.2.length], 0⟩, some ⟨[.int .i64 v4.1.Stamp, .int .i64 v4.1.NextGen, .int .i64 v4.1.NextSeq, .int .i64 v4.1.NextValid, .sl 5 0 v4.1.Refs.length], 0⟩, some ⟨fl (enc_TRef true) s1.2.2.2.2.2.2, 2⟩, some ⟨fl (enc_TRef true) v4.1.Refs, 2⟩]) (fun y => y5 = y) (fun _ _ _ _ g h => RW.gh g h) ?_ ?_
   ·refine RW.reg ?_
    refine rl.run 2 rfl ?_
    cases hb : v3.2
    ·have h8 := iteBF ey5 hb
     refine rl.run 9 rfl (rl.done ?_)
     cases h8
     exact ⟨_, rfl, (Gh.ren0 [0, 1, 2, 5, 3, 4] (.cells rfl rfl (.keep (ekS.rlst) (.keep (ek_TWrite.rlst) .nil)) (.cells rfl rfl (.keep .int (.keep .int (.keep .int (.keep .int (.keep .nils .nil))))) (.cells rfl rfl (.keep .int (.keep .int (.keep .int (.keep .int (.slq rfl rfl .nil))))) (.cells rfl rfl (.keep .int (.keep .int (.keep .int (.keep .int (.slq rfl rfl .nil))))) (.same rfl (ek_TRef.fref _ _) (.same rfl (ek_TRef.fref _ _) .nil)))))) rfl (.cons rfl (.ptr rfl) (.cons rfl (.ptr rfl) (.cons rfl (.ptr rfl) (.cons rfl (.dat .bool) (.cons rfl (.dat .int) (.cons rfl (.ptr rfl) (.cons rfl (.dat .bool) .nil))))))))⟩
    ·have h9 := iteBT ey5 hb
     refine rl.run 3 rfl ?_
     cases hb : v4.2
     ·have h10 := iteBF h9 hb
      refine rl.run 6 rfl (rl.done ?_)
      cases h10
      exact ⟨_, rfl, (Gh.ren0 [0, 1, 2, 5, 3, 4] (.cells rfl rfl (.keep (ekS.rlst) (.keep (ek_TWrite.rlst) .nil)) (.cells rfl rfl (.keep .int (.keep .int (.keep .int (.keep .int (.keep .nils .nil))))) (.cells rfl rfl (.keep .int (.keep .int (.keep .int (.keep .int (.slq rfl rfl .nil))))) (.cells rfl rfl (.keep .int (.keep .int (.keep .int (.keep .int (.slq rfl rfl .nil))))) (.same rfl (ek_TRef.fref _ _) (.same rfl (ek_TRef.fref _ _) .nil)))))) rfl (.cons rfl (.ptr rfl) (.cons rfl (.ptr rfl) (.cons rfl (.ptr rfl) (.cons rfl (.dat .bool) (.cons rfl (.dat .int) (.cons rfl (.ptr rfl) (.cons rfl (.dat .bool) .nil))))))))⟩
     ·have h11 := iteBT h9 hb
      refine rl.run 4 rfl ?_
      refine rl.gen rfl rfl fun b hb => ?_
      cases b
      ·have h12 := iteBF h11 hb
       refine rl.run 1 rfl (rl.done ?_)
       cases h12
       exact ⟨_, rfl, (Gh.ren0 [0, 1, 2, 5, 3, 4] (.cells rfl rfl (.keep (ekS.rlst) (.keep (ek_TWrite.rlst) .nil)) (.cells rfl rfl (.keep .int (.keep .int (.keep .int (.keep .int (.keep .nils .nil))))) (.cells rfl rfl (.keep .int (.keep .int (.keep .int (.keep .int (.slq rfl rfl .nil))))) (.cells rfl rfl (.keep .int (.keep .int (.keep .int (.keep .int (.slq rfl rfl .nil))))) (.same rfl (ek_TRef.fref _ _) (.same rfl (ek_TRef.fref _ _) .nil)))))) rfl (.cons rfl (.ptr rfl) (.cons rfl (.ptr rfl) (.cons rfl (.ptr rfl) (.cons rfl (.dat .bool) (.cons rfl (.dat .int) (.cons rfl (.ptr rfl) (.cons rfl (.dat .bool) .nil))))))))⟩
      ·have h13 := iteBT h11 hb
       refine rl.run 1 rfl (rl.done ?_)
       cases h13
       exact ⟨_, rfl, (Gh.ren0 [0, 1, 2, 5, 3, 4] (.cells rfl rfl (.keep (ekS.rlst) (.keep (ek_TWrite.rlst) .nil)) (.cells rfl rfl (.keep .int (.keep .int (.keep .int (.keep .int (.keep .nils .nil))))) (.cells rfl rfl (.keep .int (.keep .int (.keep .int (.keep .int (.slq rfl rfl .nil))))) (.cells rfl rfl (.keep .int (.keep .int (.keep .int (.keep .int (.slq rfl rfl .nil))))) (.same rfl (ek_TRef.fref _ _) (.same rfl (ek_TRef.fref _ _) .nil)))))) rfl (.cons rfl (.ptr rfl) (.cons rfl (.ptr rfl) (.cons rfl (.ptr rfl) (.cons rfl (.dat .bool) (.cons rfl (.dat .int) (.cons rfl (.ptr rfl) (.cons rfl (.dat .bool) .nil))))))))⟩
   ·intro y hC
    subst hC
    cases hb : y5
    ·have h14 := iteBF h7 hb
     refine RW.cond_f rfl (RW.skip (RW.reg (rl.run 3 rfl (rl.done ?_))))
     cases h14
     exact hB1 _ rfl _ _ (Gh.ren0 [0, 1, 2, 4] (.cells rfl rfl (.keep (ekS.rlst) (.keep (ek_TWrite.rlst) .nil)) (.cells rfl rfl (.keep .int (.keep .int (.keep .int (.keep .int (.keep .nils .nil))))) (.cells rfl rfl (.keep .int (.keep .int (.keep .int (.keep .int (.slq rfl rfl .nil))))) (.same rfl (ek_TRef.fref _ _) .nil)))) rfl (.cons rfl (.ptr rfl) (.cons rfl (.ptr rfl) (.cons rfl (.ptr rfl) (.cons rfl (.dat .bool) (.cons rfl (.dat .int) .nil))))))
    ·have h15 := iteBT h7 hb
     refine RW.cond_t rfl (RW.sreg (rl.run 2 rfl (rl.done (RW.reg (rl.run 1 rfl (rl.done (RW.reg (rl.run 3 rfl (rl.done ?_)))))))))
     cases h15
     exact hB1 _ rfl _ _ (Gh.ren0 [0, 1, 2, 5] (.cells rfl rfl (.keep (ekS.rlst) (.keep (ek_TWrite.rlst) .nil)) (.cells rfl rfl (.keep .int (.keep .int (.keep .int (.keep .int (.keep .nils .nil))))) (.cells rfl rfl (.keep .int (.keep .int (.keep .int (.keep .int (.slq rfl rfl .nil))))) (.same rfl (ek_TRef.fref _ _) .nil)))) rfl (.cons rfl (.ptr rfl) (.cons rfl (.ptr rfl) (.cons rfl (.ptr rfl) (.cons rfl (.dat .bool) (.cons rfl (.dat .int) .nil))))))
 ·intro y2 hC
  subst hC
  refine RW.sreg (rl.run 4 rfl (rl.done (RW.ret ?_)))
  cases h2
  exact RRet.mk rfl (OutT.tup (.cons (OutL.agg (.cons .int rfl (.cons .int rfl (.cons .int rfl (.cons .int rfl (.cons (OutR.ownq ek_TRef rfl rfl) rfl .nil)))))) (.cons .bool .nil))) (by first | decide | simp)
theorem law_laws_toStringS {x0 : List (List UInt8)} {r : List (List UInt8)} (hF : F_laws_toStringS x0 = some r) : PCalls Try.prog 85 [.lst false 1 (fl (encS false) x0) x0.length] (.lst true 1 (fl (encS true) r) r.length) := by
 refine PCalls.of_r k_laws_toStringS rfl ?_
 unfold F_laws_toStringS at hF
 refine RW.sreg (rl.run 1 rfl (rl.done (RW.sreg (rl.run 2 rfl ?_))))
 obtain ⟨v1, e1, h1⟩ := bindS hF
 refine rl.op (x_ms ekS rfl rfl e1 rfl) ?_
 refine rl.run 1 rfl (rl.done (RW.seq (RW.sreg (rl.run 1 rfl (rl.done ?_)))))
 obtain ⟨y7, ey7, h3⟩ := bindS h1
 refine RW.cutq (σ := (List (List UInt8))) (fun y3 => [(3, .sl 0 0 y3.length)]) (fun y3 => [some ⟨fl (encS true) y3, 1⟩]) (fun y => y7 = y) (fun _ _ _ _ g h => RW.gh g h) ?_ ?_
 ·refine RW.blk ?_
  refine RW.iter (σ := Int × (List (List UInt8))) ey7 (fun s2 => [(0, .lst false 1 (fl (encS false) x0) x0.length), (3, .sl 0 0 s2.2.length), (4, .int .i64 s2.1)]) (fun s2 => [some ⟨fl (encS true) s2.2, 1⟩]) (Gh.ren0 [0] (.same rfl (ekS.fref _ _) .nil) rfl (.cons rfl (.dat (ekS.rlst)) (.cons rfl (.slq rfl rfl) (.cons rfl (.dat .int) .nil)))) (fun s2 B o hS2 hB2 hE2 => ?_)
  unfold S_laws_toStringS_1 at hS2
  refine RW.seq (RW.sreg (rl.run 3 rfl ?_))
  refine rl.gen rfl rfl fun b hb => ?_
  cases b
  ·have h4 := iteBF hS2 hb
   refine rl.done (RW.cond_f rfl (RW.exit (blkA_eq ?_)))
   cases h4
   exact ⟨_, (hE2 _ rfl).symm, (Gh.ren0 [0] (.same rfl (ekS.fref _ _) .nil) rfl (.cons rfl (.slq rfl rfl) .nil))⟩
  ·have h5 := iteBT hS2 hb
   refine rl.done (RW.cond_t rfl (RW.skip (RW.seq (RW.blk (RW.reg (rl.run 4 rfl ?_))))))
   obtain ⟨v4, e4, h6⟩ := bindS h5
   refine rl.op (x_ia_lst (enc := encS) (o := false) rfl rfl rfl e4) ?_
   refine rl.op (x_ld_el (off' := 0) ekS rfl e4 rfl rfl rfl) ?_
   obtain ⟨v5, e5, h7⟩ := bindS h6
   refine rl.op (x_ia_sl rfl rfl rfl rfl e5) ?_
   obtain ⟨v6, e6, h8⟩ := bindS h7
   refine rl.op0 (x_st_sl' (off' := 0) (o := true) (e' := v4) ekS e5 rfl rfl rfl rfl rfl rfl rfl rfl rfl e6) ?_
   refine rl.done (RW.reg (rl.run 3 rfl (rl.done ?_)))
   cases h8
   exact hB2 _ rfl _ _ (Gh.ren0 [0] (.same rfl (ekS.fref _ _) .nil) rfl (.cons rfl (.dat (ekS.rlst)) (.cons rfl (.slq rfl (set'_len e6)) (.cons rfl (.dat .int) .nil))))
 ·intro y3 hC
  subst hC
  refine RW.sreg (rl.run 2 rfl (rl.done (RW.ret ?_)))
  cases h3
  exact RRet.mk rfl (OutR.ownq ekS rfl rfl) (by first | decide | simp)
theorem law_laws_toWrite {x0 : TWrite} {r : TWrite} (hF : F_laws_toWrite x0 = some r) : PCalls Try.prog 151 [.agg (enc_TWrite false x0)] (.agg (enc_TWrite true r)) := by
 refine PCalls.of_r k_laws_toWrite rfl ?_
 unfold F_laws_toWrite at hF
 refine RW.sreg (rl.run 2 rfl (rl.done (RW.sreg (rl.run 1 rfl (rl.done (RW.sreg (rl.run 4 rfl (rl.done (RW.sreg (rl.run 4 rfl (rl.done ?_)))))))))))
 refine RW.sreg (rl.run 2 rfl (rl.done (RW.ret ?_)))
 cases hF
 exact RRet.mk rfl (OutL.agg (.cons .int rfl (.cons .str rfl .nil))) (by first | decide | simp)
theorem law_laws_toWriteS {x0 : List TWrite} {r : List TWrite} (hF : F_laws_toWriteS x0 = some r) : PCalls Try.prog 86 [.lst false 2 (fl (enc_TWrite false) x0) x0.length] (.lst true 2 (fl (enc_TWrite true) r) r.length) := by
 refine PCalls.of_r k_laws_toWriteS rfl ?_
 unfold F_laws_toWriteS at hF
 refine RW.sreg (rl.run 1 rfl (rl.done (RW.sreg (rl.run 2 rfl ?_))))
 obtain ⟨v1, e1, h1⟩ := bindS hF
 refine rl.op (x_ms ek_TWrite rfl rfl e1 rfl) ?_
 refine rl.run 1 rfl (rl.done (RW.seq (RW.sreg (rl.run 1 rfl (rl.done ?_)))))
 obtain ⟨y8, ey8, h3⟩ := bindS h1
 refine RW.cutq (σ := (List TWrite)) (fun y3 => [(3, .sl 0 0 y3.length)]) (fun y3 => [some ⟨fl (enc_TWrite true) y3, 2⟩]) (fun y => y8 = y) (fun _ _ _ _ g h => RW.gh g h) ?_ ?_
 ·refine RW.blk ?_
  refine RW.iter (σ := Int × (List TWrite)) ey8 (fun s2 => [(0, .lst false 2 (fl (enc_TWrite false) x0) x0.length), (3, .sl 0 0 s2.2.length), (4, .int .i64 s2.1)]) (fun s2 => [some ⟨fl (enc_TWrite true) s2.2, 2⟩]) (Gh.ren0 [0] (.same rfl (ek_TWrite.fref _ _) .nil) rfl (.cons rfl (.dat (ek_TWrite.rlst)) (.cons rfl (.slq rfl rfl) (.cons rfl (.dat .int) .nil)))) (fun s2 B o hS2 hB2 hE2 => ?_)
  unfold S_laws_toWriteS_1 at hS2
  refine RW.seq (RW.sreg (rl.run 3 rfl ?_))
  refine rl.gen rfl rfl fun b hb => ?_
  cases b
  ·have h4 := iteBF hS2 hb
   refine rl.done (RW.cond_f rfl (RW.exit (blkA_eq ?_)))
   cases h4
   exact ⟨_, (hE2 _ rfl).symm, (Gh.ren0 [0] (.same rfl (ek_TWrite.fref _ _) .nil) rfl (.cons rfl (.slq rfl rfl) .nil))⟩
  ·have h5 := iteBT hS2 hb
   refine rl.done (RW.cond_t rfl (RW.skip (RW.seq (RW.blk (RW.reg (rl.run 4 rfl ?_))))))
   obtain ⟨v4, e4, h6⟩ := bindS h5
   refine rl.op (x_ia_lst (enc := enc_TWrite) (o := false) rfl rfl rfl e4) ?_
   refine rl.op (x_ld_ela (off' := 0) (vs := (enc_TWrite false v4)) ek_TWrite rfl e4 rfl rfl rfl) ?_
   obtain ⟨v5, e5, h7⟩ := bindS h6
   refine rl.call rfl rfl rfl (CallW.val (r' := .agg (enc_TWrite false v5)) ok_laws_toWrite (law_laws_toWrite e5) (.cons (.dat (.agg (ek_TWrite.dat false _))) .nil) .refl ?_)
   obtain ⟨v6, e6, h8⟩ := bindS h7
   refine rl.op (x_ia_sl rfl rfl rfl rfl e6) ?_
   obtain ⟨v7, e7, h9⟩ := bindS h8
   refine rl.op0 (x_st_sl' (off' := 0) (o := true) (e' := v5) ek_TWrite e6 rfl rfl rfl rfl rfl rfl rfl rfl rfl e7) ?_
   refine rl.done (RW.reg (rl.run 3 rfl (rl.done ?_)))
   cases h9
   exact hB2 _ rfl _ _ (Gh.ren0 [0] (.same rfl (ek_TWrite.fref _ _) .nil) rfl (.cons rfl (.dat (ek_TWrite.rlst)) (.cons rfl (.slq rfl (set'_len e7)) (.cons rfl (.dat .int) .nil))))
 ·intro y3 hC
  subst hC
  refine RW.sreg (rl.run 2 rfl (rl.done (RW.ret ?_)))
  cases h3
  exact RRet.mk rfl (OutR.ownq ek_TWrite rfl rfl) (by first | decide | simp)
theorem law_laws_toDisk {x0 : TDisk} {r : TDisk} (hF : F_laws_toDisk x0 = some r) : PCalls Try.prog 42 [.agg (enc_TDisk false x0)] (.agg (enc_TDisk true r)) := by
 refine PCalls.of_r k_laws_toDisk rfl ?_
 unfold F_laws_toDisk at hF
 refine RW.sreg (rl.run 2 rfl (rl.done (RW.sreg (rl.run 1 rfl (rl.done (RW.sreg (rl.run 2 rfl ?_)))))))
 obtain ⟨v1, e1, h1⟩ := bindS hF
 refine rl.call rfl rfl rfl (CallW.own (r' := .sl 3 0 v1.length) (H' := [some ⟨[.lst false 1 (fl (encS false) x0.Sectors) x0.Sectors.length, .lst false 2 (fl (enc_TWrite false) x0.Cache) x0.Cache.length], 0⟩, some ⟨[.nils, .nils], 0⟩, some ⟨[.nils, .nils], 0⟩, some ⟨fl (encS true) v1, 1⟩]) ok_laws_toStringS (law_laws_toStringS e1) (.cons (.lst ekS) .nil) (.lst (ekS.fown _)) rfl ?_)
 refine rl.run 2 rfl (rl.done (RW.sreg (rl.run 2 rfl ?_)))
 obtain ⟨v2, e2, h2⟩ := bindS h1
 refine rl.call rfl rfl rfl (CallW.own (r' := .sl 4 0 v2.length) (H' := [some ⟨[.lst false 1 (fl (encS false) x0.Sectors) x0.Sectors.length, .lst false 2 (fl (enc_TWrite false) x0.Cache) x0.Cache.length], 0⟩, some ⟨[.nils, .nils], 0⟩, some ⟨[.sl 3 0 v1.length, .nils], 0⟩, some ⟨fl (encS true) v1, 1⟩, some ⟨fl (enc_TWrite true) v2, 2⟩]) ok_laws_toWriteS (law_laws_toWriteS e2) (.cons (.lst ek_TWrite) .nil) (.lst (ek_TWrite.fown _)) rfl ?_)
 refine rl.run 2 rfl (rl.done (RW.sreg (rl.run 2 rfl (rl.done ?_))))
 refine RW.keep [2] (a' := [(2, .ptr 1 0)]) (H' := [some ⟨[.lst false 1 (fl (encS false) x0.Sectors) x0.Sectors.length, .lst false 2 (fl (enc_TWrite false) x0.Cache) x0.Cache.length], 0⟩, some ⟨[.sl 3 0 v1.length, .sl 4 0 v2.length], 0⟩, some ⟨[.sl 3 0 v1.length, .sl 4 0 v2.length], 0⟩, some ⟨fl (encS true) v1, 1⟩, some ⟨fl (enc_TWrite true) v2, 2⟩]) rfl rfl ?_
 refine RW.ret ?_
 cases h2
 exact RRet.mk rfl (OutL.agg (.cons (OutR.ownq ekS rfl rfl) rfl (.cons (OutR.ownq ek_TWrite rfl rfl) rfl .nil))) (by first | decide | simp)
theorem law_impl_in {x0 : Int} {x1 : Int} {x2 : Int} {r : Bool} (hF : F_impl_in x0 x1 x2 = some r) : PCalls Try.prog 130 [.int .i64 x0, .int .i64 x1, .int .i64 x2] (.bool r) := by
 refine PCalls.of_r k_impl_in rfl ?_
 unfold F_impl_in at hF
 refine RW.sreg (rl.run 1 rfl (rl.done (RW.sreg (rl.run 2 rfl ?_))))
 refine rl.gen rfl rfl fun b hb => ?_
 cases b
 ·have h1 := iteBF hF hb
  refine rl.run 6 rfl (rl.done ?_)
  refine RW.keep [6] (a' := [(6, .bool false)]) (H' := []) rfl rfl ?_
  refine RW.ret ?_
  cases h1
  exact RRet.mk rfl .bool (by first | decide | simp)
 ·have h2 := iteBT hF hb
  refine rl.run 6 rfl (rl.done ?_)
  refine RW.keep [6] (a' := [(6, .bool (decide (x0 ≤ x2)))]) (H' := []) rfl rfl ?_
  refine RW.ret ?_
  cases h2
  exact RRet.mk rfl .bool (by first | decide | simp)
theorem law_impl_ReadSector {x0 : TDisk} {x1 : Int} {r : (List UInt8) × Bool} (hF : F_impl_ReadSector x0 x1 = some r) : PCalls Try.prog 152 [.agg (enc_TDisk false x0), .int .i64 x1] (.tup [.str r.1, .bool r.2]) := by
 refine PCalls.of_r k_impl_ReadSector rfl ?_
 unfold F_impl_ReadSector at hF
 refine RW.sreg (rl.run 3 rfl (rl.done (RW.seq (RW.sreg (rl.run 5 rfl ?_)))))
 obtain ⟨v1, e1, h1⟩ := bindS hF
 refine rl.call rfl rfl rfl (CallW.val (r' := .bool v1) ok_impl_in (law_impl_in e1) (.cons .int (.cons .int (.cons .int .nil))) .refl ?_)
 cases hb : v1
 ·have h2 := iteBF h1 hb
  refine rl.run 1 rfl (rl.done (RW.cond_t rfl (RW.sreg (rl.run 2 rfl (rl.done (RW.ret ?_))))))
  cases h2
  exact RRet.mk rfl (OutT.tup (.cons .str (.cons .bool .nil))) (by first | decide | simp)
 ·have h3 := iteBT h1 hb
  refine rl.run 1 rfl (rl.done (RW.cond_f rfl (RW.skip (RW.sreg (rl.run 3 rfl ?_)))))
  obtain ⟨v2, e2, h4⟩ := bindS h3
  refine rl.op (x_ia_lst (enc := encS) (o := false) rfl rfl rfl e2) ?_
  refine rl.op (x_ld_el (off' := 0) ekS rfl e2 rfl rfl rfl) ?_
  refine rl.run 1 rfl (rl.done ?_)
  refine RW.keep [1, 2, 6] (a' := [(1, .int .i64 x1), (2, .ptr 0 0), (6, .str v2)]) (H' := [some ⟨[.lst false 1 (fl (encS false) x0.Sectors) x0.Sectors.length, .lst false 2 (fl (enc_TWrite false) x0.Cache) x0.Cache.length], 0⟩]) rfl rfl ?_
  refine RW.seq (RW.sreg (rl.run 4 rfl (rl.done ?_)))
  obtain ⟨y6, ey6, h6⟩ := bindS h4
  refine RW.cutq (σ := (List UInt8)) (fun y4 => [(6, .str y4)]) (fun y4 => []) (fun y => y6 = y) (fun _ _ _ _ g h => RW.gh g h) ?_ ?_
  ·refine RW.blk ?_
   refine RW.iter (σ := (List UInt8) × Int) ey6 (fun s3 => [(1, .int .i64 x1), (6, .str s3.1), (22, .lst false 2 (fl (enc_TWrite false) x0.Cache) x0.Cache.length), (23, .int .i64 (x0.Cache.length : Int)), (24, .int .i64 s3.2)]) (fun s3 => []) (Gh.ren0 [] .nil rfl (.cons rfl (.dat .int) (.cons rfl (.dat .str) (.cons rfl (.dat (ek_TWrite.rlst)) (.cons rfl (.dat .int) (.cons rfl (.dat .int) .nil)))))) (fun s3 B o hS5 hB5 hE5 => ?_)
   unfold S_impl_ReadSector_1 at hS5
   refine RW.sreg ?_
   refine rl.gen rfl rfl fun b hb => ?_
   cases b
   ·have h7 := iteBF hS5 hb
    refine rl.done (RW.seq (RW.cond_f rfl (RW.exit (blkA_eq ?_))))
    cases h7
    exact ⟨_, (hE5 _ rfl).symm, (Gh.ren0 [] .nil rfl (.cons rfl (.dat .str) .nil))⟩
   ·have h8 := iteBT hS5 hb
    refine rl.done (RW.seq (RW.cond_t rfl (RW.skip (RW.seq (RW.blk (RW.sreg ?_))))))
    obtain ⟨v5, e5, h9⟩ := bindS h8
    refine rl.op (x_ia_lst (enc := enc_TWrite) (o := false) rfl rfl rfl e5) ?_
    refine rl.op (x_ld_ela (off' := 0) (vs := (enc_TWrite false v5)) ek_TWrite rfl e5 rfl rfl rfl) ?_
    refine rl.run 2 rfl (rl.done (RW.sreg (rl.run 3 rfl ?_)))
    refine rl.gen rfl rfl fun b hb => ?_
    cases b
    ·have h10 := iteBF h9 hb
     refine rl.done (RW.cond_f rfl (RW.skip (RW.reg (rl.run 2 rfl (rl.done ?_)))))
     cases h10
     exact hB5 _ rfl _ _ (Gh.ren0 [] .nil rfl (.cons rfl (.dat .int) (.cons rfl (.dat .str) (.cons rfl (.dat (ek_TWrite.rlst)) (.cons rfl (.dat .int) (.cons rfl (.dat .int) .nil))))))
    ·have h11 := iteBT h9 hb
     refine rl.done (RW.cond_t rfl (RW.reg (rl.run 3 rfl (rl.done (RW.reg (rl.run 2 rfl (rl.done ?_)))))))
     cases h11
     exact hB5 _ rfl _ _ (Gh.ren0 [] .nil rfl (.cons rfl (.dat .int) (.cons rfl (.dat .str) (.cons rfl (.dat (ek_TWrite.rlst)) (.cons rfl (.dat .int) (.cons rfl (.dat .int) .nil))))))
  ·intro y4 hC
   subst hC
   refine RW.sreg (rl.run 3 rfl (rl.done (RW.ret ?_)))
   cases h6
   exact RRet.mk rfl (OutT.tup (.cons .str (.cons .bool .nil))) (by first | decide | simp)
theorem law_impl_SectorText {x0 : TDisk} {x1 : Int} {x2 : Int} {r : (List UInt8) × Bool} (hF : F_impl_SectorText x0 x1 x2 = some r) : PCalls Try.prog 87 [.agg (enc_TDisk false x0), .int .i64 x1, .int .i64 x2] (.tup [.str r.1, .bool r.2]) := by
 refine PCalls.of_r k_impl_SectorText rfl ?_
 unfold F_impl_SectorText at hF
 refine RW.sreg (rl.run 3 rfl (rl.done (RW.seq (RW.sreg (rl.run 1 rfl ?_)))))
 obtain ⟨v1, e1, h1⟩ := bindS hF
 refine rl.call rfl rfl rfl (CallW.val (r' := .bool v1) ok_impl_in (law_impl_in e1) (.cons .int (.cons .int (.cons .int .nil))) .refl ?_)
 cases hb : v1
 ·have h2 := iteBF h1 hb
  refine rl.run 1 rfl (rl.done (RW.cond_t rfl (RW.sreg (rl.run 2 rfl (rl.done (RW.ret ?_))))))
  cases h2
  exact RRet.mk rfl (OutT.tup (.cons .str (.cons .bool .nil))) (by first | decide | simp)
 ·have h3 := iteBT h1 hb
  refine rl.run 1 rfl (rl.done (RW.cond_f rfl (RW.skip (RW.sreg (rl.run 1 rfl (rl.done (RW.seq (RW.sreg (rl.run 2 rfl (rl.done ?_))))))))))
  obtain ⟨y6, ey6, h5⟩ := bindS h3
  refine RW.cutq (σ := (List UInt8)) (fun y3 => [(8, .str y3)]) (fun y3 => []) (fun y => y6 = .inr y) (fun _ _ _ _ g h => RW.gh g h) ?_ ?_
  ·refine RW.blk ?_
   refine RW.iter (σ := (List UInt8) × Int) ey6 (fun s2 => [(1, .int .i64 x1), (3, .ptr 0 0), (8, .str s2.1), (15, .int .i64 x2), (16, .int .i64 s2.2)]) (fun s2 => [some ⟨[.lst false 1 (fl (encS false) x0.Sectors) x0.Sectors.length, .lst false 2 (fl (enc_TWrite false) x0.Cache) x0.Cache.length], 0⟩]) (Gh.ren0 [0] (.cells rfl rfl (.keep (ekS.rlst) (.keep (ek_TWrite.rlst) .nil)) .nil) rfl (.cons rfl (.dat .int) (.cons rfl (.ptr rfl) (.cons rfl (.dat .str) (.cons rfl (.dat .int) (.cons rfl (.dat .int) .nil)))))) (fun s2 B o hS4 hB4 hE4 => ?_)
   unfold S_impl_SectorText_1 at hS4
   refine RW.sreg ?_
   refine rl.gen rfl rfl fun b hb => ?_
   cases b
   ·have h6 := iteBF hS4 hb
    refine rl.done (RW.seq (RW.cond_f rfl (RW.exit (blkA_eq ?_))))
    cases h6
    exact ⟨_, (hE4 _ rfl).symm, (Gh.ren0 [] .nil rfl (.cons rfl (.dat .str) .nil))⟩
   ·have h7 := iteBT hS4 hb
    refine rl.done (RW.seq (RW.cond_t rfl (RW.skip (RW.seq (RW.blk (RW.sreg (rl.run 2 rfl (rl.done (RW.sreg (rl.run 4 rfl ?_))))))))))
    obtain ⟨v4, e4, h8⟩ := bindS h7
    refine rl.call rfl rfl rfl (CallW.val (r' := .tup [.str v4.1, .bool v4.2]) ok_impl_ReadSector (law_impl_ReadSector e4) (.cons (DFL.agg (.cons (.lst ekS) (.cons (.lst ek_TWrite) .nil))) (.cons .int .nil)) (FlL.tup (.cons .refl (.cons .refl .nil))) ?_)
    refine rl.run 5 rfl (rl.done ?_)
    refine RW.keep [1, 3, 8, 10, 11, 15, 16] (a' := [(1, .int .i64 x1), (3, .ptr 0 0), (8, .str s2.1), (10, .str v4.1), (11, .bool v4.2), (15, .int .i64 x2), (16, .int .i64 s2.2)]) (H' := [some ⟨[.lst false 1 (fl (encS false) x0.Sectors) x0.Sectors.length, .lst false 2 (fl (enc_TWrite false) x0.Cache) x0.Cache.length], 0⟩]) rfl rfl ?_
    refine RW.seq (RW.sreg (rl.run 2 rfl (rl.done ?_)))
    cases hb : (!v4.2)
    ·have h9 := iteBF h8 hb
     refine RW.cond_f rfl (RW.skip (RW.reg (rl.run 2 rfl ?_)))
     obtain ⟨v5, e5, h10⟩ := bindS h9
     refine rl.op (x_cat rfl rfl e5) ?_
     refine rl.run 1 rfl (rl.done (RW.reg (rl.run 2 rfl (rl.done ?_))))
     cases h10
     exact hB4 _ rfl _ _ (Gh.ren0 [0] (.cells rfl rfl (.keep (ekS.rlst) (.keep (ek_TWrite.rlst) .nil)) .nil) rfl (.cons rfl (.dat .int) (.cons rfl (.ptr rfl) (.cons rfl (.dat .str) (.cons rfl (.dat .int) (.cons rfl (.dat .int) .nil))))))
    ·have h11 := iteBT h8 hb
     refine RW.cond_t rfl (RW.sreg (rl.run 2 rfl (rl.done (RW.ret ?_))))
     cases h11
     have h12 := elimL h5 (hE4 _ rfl)
     cases h12
     exact RRet.mk rfl (OutT.tup (.cons .str (.cons .bool .nil))) (by first | decide | simp)
  ·intro y3 hC
   have h5 := elimR h5 hC
   refine RW.sreg (rl.run 3 rfl (rl.done (RW.ret ?_)))
   cases h5
   exact RRet.mk rfl (OutT.tup (.cons .str (.cons .bool .nil))) (by first | decide | simp)
theorem law_impl_CheckOk_1_w {x0 : TRef} {x1 : TRef} {r : Bool} (hF : F_impl_CheckOk_1_w x0 x1 = some r) : ACalls Try.prog 1 200 [.agg (enc_TRef false x0), .ptr 0 0] [some ⟨[.int .i64 x1.No, .int .i64 x1.Gen], 0⟩] (.bool r) [some ⟨[.int .i64 x1.No, .int .i64 x1.Gen], 0⟩] := by
 refine ACalls.of_s k_impl_CheckOk_1 rfl ?_
 unfold F_impl_CheckOk_1_w at hF
 refine RW.sreg (rl.run 2 rfl (rl.done (RW.sreg (rl.run 6 rfl (rl.done (RW.ret ?_))))))
 cases hF
 exact RRetS.mk rfl .bool (Gh.renN [0] (.cells rfl rfl (.keep .int (.keep .int .nil)) .nil) rfl rfl rfl .nil)
theorem law_slices_IndexFunc_Ref_CheckOk_1 {x0 : List TRef} {x1 : TRef} {r : Int} (hF : F_slices_IndexFunc_Ref_CheckOk_1 x0 x1 = some r) : ACalls Try.prog 1 215 [.lst false 2 (fl (enc_TRef false) x0) x0.length, .fn 200 [.ptr 0 0]] [some ⟨[.int .i64 x1.No, .int .i64 x1.Gen], 0⟩] (.int .i64 r) [some ⟨[.int .i64 x1.No, .int .i64 x1.Gen], 0⟩] := by
 refine ACalls.of_s k_slices_IndexFunc_Ref rfl ?_
 unfold F_slices_IndexFunc_Ref_CheckOk_1 at hF
 refine RW.sreg (rl.run 1 rfl (rl.done (RW.seq (RW.sreg (rl.run 3 rfl (rl.done ?_))))))
 obtain ⟨y5, ey5, h2⟩ := bindS hF
 refine RW.cutq (σ := Unit) (fun y2 => []) (fun y2 => [some ⟨[.int .i64 x1.No, .int .i64 x1.Gen], 0⟩]) (fun y => y5 = .inr y) (fun _ _ _ _ g h => RW.gh g h) ?_ ?_
 ·refine RW.blk ?_
  refine RW.iter (σ := Int) ey5 (fun s1 => [(0, .lst false 2 (fl (enc_TRef false) x0) x0.length), (1, .fn 200 [.ptr 0 0]), (7, .int .i64 (x0.length : Int)), (8, .int .i64 s1)]) (fun s1 => [some ⟨[.int .i64 x1.No, .int .i64 x1.Gen], 0⟩]) (Gh.renN [0] (.cells rfl rfl (.keep .int (.keep .int .nil)) .nil) rfl rfl rfl (.cons rfl (.dat (ek_TRef.rlst)) (.cons rfl (RnL.fn (.cons (.ptr rfl) .nil)) (.cons rfl (.dat .int) (.cons rfl (.dat .int) .nil))))) (fun s1 B o hS1 hB1 hE1 => ?_)
  unfold S_slices_IndexFunc_Ref_CheckOk_1_1 at hS1
  refine RW.sreg ?_
  refine rl.gen rfl rfl fun b hb => ?_
  cases b
  ·have h3 := iteBF hS1 hb
   refine rl.done (RW.seq (RW.cond_f rfl (RW.exit (blkA_eq ?_))))
   cases h3
   exact ⟨_, (hE1 _ rfl).symm, (Gh.renN [0] (.cells rfl rfl (.keep .int (.keep .int .nil)) .nil) rfl rfl rfl .nil)⟩
  ·have h4 := iteBT hS1 hb
   refine rl.done (RW.seq (RW.cond_t rfl (RW.skip (RW.seq (RW.blk (RW.sreg (rl.run 2 rfl (rl.done (RW.sreg (rl.run 3 rfl ?_))))))))))
   obtain ⟨v3, e3, h5⟩ := bindS h4
   refine rl.op (x_ia_lst (enc := enc_TRef) (o := false) rfl rfl rfl e3) ?_
   refine rl.op (x_ld_ela (off' := 0) (vs := (enc_TRef false v3)) ek_TRef rfl e3 rfl rfl rfl) ?_
   obtain ⟨v4, e4, h6⟩ := bindS h5
   refine rl.call rfl rfl rfl (CallW.embR [0] ok_impl_CheckOk_1 (law_impl_CheckOk_1_w e4) (.cells rfl rfl (.keep .int (.keep .int .nil)) .nil) rfl rfl (.cons (.dat (ek_TRef.rrec)) (.cons (.ptr rfl) .nil)) .bool ?_)
   cases hb : v4
   ·have h7 := iteBF h6 hb
    refine rl.done (RW.cond_f rfl (RW.skip (RW.reg (rl.run 2 rfl (rl.done ?_)))))
    cases h7
    exact hB1 _ rfl _ _ (Gh.renN [0] (.cells rfl rfl (.keep .int (.keep .int .nil)) .nil) rfl rfl rfl (.cons rfl (.dat (ek_TRef.rlst)) (.cons rfl (RnL.fn (.cons (.ptr rfl) .nil)) (.cons rfl (.dat .int) (.cons rfl (.dat .int) .nil)))))
   ·have h8 := iteBT h6 hb
    refine rl.done (RW.cond_t rfl (RW.sreg (rl.run 2 rfl (rl.done ?_))))
    refine RW.keep [4] (a' := [(4, .int .i64 s1)]) (H' := [some ⟨[.int .i64 x1.No, .int .i64 x1.Gen], 0⟩]) rfl rfl ?_
    refine RW.ret ?_
    cases h8
    have h9 := elimL h2 (hE1 _ rfl)
    cases h9
    exact RRetS.mk rfl .int (Gh.renN [0] (.cells rfl rfl (.keep .int (.keep .int .nil)) .nil) rfl rfl rfl .nil)
 ·intro y2 hC
  have h2 := elimR h2 hC
  refine RW.sreg (rl.run 1 rfl (rl.done (RW.ret ?_)))
  cases h2
  exact RRetS.mk rfl .int (Gh.renN [0] (.cells rfl rfl (.keep .int (.keep .int .nil)) .nil) rfl rfl rfl .nil)
theorem law_slices_ContainsFunc_Ref_CheckOk_1 {x0 : List TRef} {x1 : TRef} {r : Bool} (hF : F_slices_ContainsFunc_Ref_CheckOk_1 x0 x1 = some r) : ACalls Try.prog 1 199 [.lst false 2 (fl (enc_TRef false) x0) x0.length, .fn 200 [.ptr 0 0]] [some ⟨[.int .i64 x1.No, .int .i64 x1.Gen], 0⟩] (.bool r) [some ⟨[.int .i64 x1.No, .int .i64 x1.Gen], 0⟩] := by
 refine ACalls.of_s k_slices_ContainsFunc_Ref rfl ?_
 unfold F_slices_ContainsFunc_Ref_CheckOk_1 at hF
 refine RW.sreg (rl.run 1 rfl (rl.done (RW.sreg (rl.run 2 rfl ?_))))
 obtain ⟨v1, e1, h1⟩ := bindS hF
 refine rl.call rfl rfl rfl (CallW.embR [0] ok_slices_IndexFunc_Ref (law_slices_IndexFunc_Ref_CheckOk_1 e1) (.cells rfl rfl (.keep .int (.keep .int .nil)) .nil) rfl rfl (.cons (.dat (ek_TRef.rlst)) (.cons (RnL.fn (.cons (.ptr rfl) .nil)) .nil)) .int ?_)
 refine rl.run 2 rfl (rl.done (RW.ret ?_))
 cases h1
 exact RRetS.mk rfl .bool (Gh.renN [0] (.cells rfl rfl (.keep .int (.keep .int .nil)) .nil) rfl rfl rfl .nil)
theorem law_impl_CheckOk {x0 : TCheck} {r : Bool} (hF : F_impl_CheckOk x0 = some r) : PCalls Try.prog 163 [.agg (enc_TCheck false x0)] (.bool r) := by
 refine PCalls.of_r k_impl_CheckOk rfl ?_
 unfold F_impl_CheckOk at hF
 refine RW.sreg (rl.run 2 rfl (rl.done (RW.seq (RW.sreg (rl.run 11 rfl (rl.done ?_))))))
 obtain ⟨y5, ey5, h2⟩ := bindS hF
 refine RW.cutq (σ := Unit) (fun y2 => [(1, .ptr 0 0)]) (fun y2 => [some ⟨[.int .i64 x0.Stamp, .int .i64 x0.NextGen, .int .i64 x0.NextSeq, .int .i64 x0.NextValid, .lst false 2 (fl (enc_TRef false) x0.Refs) x0.Refs.length], 0⟩]) (fun y => y5 = .inr y) (fun _ _ _ _ g h => RW.gh g h) ?_ ?_
 ·refine RW.blk ?_
  refine RW.iter (σ := Int) ey5 (fun s1 => [(1, .ptr 0 0), (16, .sl 1 0 [x0.Stamp, x0.NextGen, x0.NextSeq, x0.NextValid].length), (17, .int .i64 ([x0.Stamp, x0.NextGen, x0.NextSeq, x0.NextValid].length : Int)), (18, .int .i64 s1)]) (fun s1 => [some ⟨[.int .i64 x0.Stamp, .int .i64 x0.NextGen, .int .i64 x0.NextSeq, .int .i64 x0.NextValid, .lst false 2 (fl (enc_TRef false) x0.Refs) x0.Refs.length], 0⟩, some ⟨fl (encI true) [x0.Stamp, x0.NextGen, x0.NextSeq, x0.NextValid], 1⟩]) (Gh.ren0 [0, 1] (.cells rfl rfl (.keep .int (.keep .int (.keep .int (.keep .int (.keep (ek_TRef.rlst) .nil))))) (.same rfl (ekI.fref _ _) .nil)) rfl (.cons rfl (.ptr rfl) (.cons rfl (.slq rfl rfl) (.cons rfl (.dat .int) (.cons rfl (.dat .int) .nil))))) (fun s1 B o hS1 hB1 hE1 => ?_)
  unfold S_impl_CheckOk_1 at hS1
  refine RW.sreg ?_
  refine rl.gen rfl rfl fun b hb => ?_
  cases b
  ·have h3 := iteBF hS1 hb
   refine rl.done (RW.seq (RW.cond_f rfl (RW.exit (blkA_eq ?_))))
   cases h3
   exact ⟨_, (hE1 _ rfl).symm, (Gh.ren0 [0] (.cells rfl rfl (.keep .int (.keep .int (.keep .int (.keep .int (.keep (ek_TRef.rlst) .nil))))) .nil) rfl (.cons rfl (.ptr rfl) .nil))⟩
  ·have h4 := iteBT hS1 hb
   refine rl.done (RW.seq (RW.cond_t rfl (RW.skip (RW.seq (RW.blk (RW.sreg ?_))))))
   obtain ⟨v3, e3, h5⟩ := bindS h4
   refine rl.op (x_ia_sl rfl rfl rfl rfl e3) ?_
   refine rl.op (x_ld_sl (off' := 0) ekI rfl rfl e3 rfl rfl rfl) ?_
   refine rl.run 1 rfl (rl.done (RW.sreg (rl.run 1 rfl ?_)))
   obtain ⟨v4, e4, h6⟩ := bindS h5
   refine rl.call rfl rfl rfl (CallW.val (r' := .bool v4) ok_impl_in (law_impl_in e4) (.cons .int (.cons .int (.cons .int .nil))) .refl ?_)
   cases hb : v4
   ·have h7 := iteBF h6 hb
    refine rl.run 1 rfl (rl.done (RW.cond_t rfl (RW.sreg (rl.run 1 rfl (rl.done ?_)))))
    refine RW.keep [2] (a' := [(2, .bool false)]) (H' := [some ⟨[.int .i64 x0.Stamp, .int .i64 x0.NextGen, .int .i64 x0.NextSeq, .int .i64 x0.NextValid, .lst false 2 (fl (enc_TRef false) x0.Refs) x0.Refs.length], 0⟩, some ⟨fl (encI true) [x0.Stamp, x0.NextGen, x0.NextSeq, x0.NextValid], 1⟩]) rfl rfl ?_
    refine RW.ret ?_
    cases h7
    have h8 := elimL h2 (hE1 _ rfl)
    cases h8
    exact RRet.mk rfl .bool (by first | decide | simp)
   ·have h9 := iteBT h6 hb
    refine rl.run 1 rfl (rl.done (RW.cond_f rfl (RW.skip (RW.reg (rl.run 2 rfl (rl.done ?_))))))
    cases h9
    exact hB1 _ rfl _ _ (Gh.ren0 [0, 1] (.cells rfl rfl (.keep .int (.keep .int (.keep .int (.keep .int (.keep (ek_TRef.rlst) .nil))))) (.same rfl (ekI.fref _ _) .nil)) rfl (.cons rfl (.ptr rfl) (.cons rfl (.slq rfl rfl) (.cons rfl (.dat .int) (.cons rfl (.dat .int) .nil)))))
 ·intro y2 hC
  have h2 := elimR h2 hC
  refine RW.seq (RW.sreg (rl.run 3 rfl ?_))
  obtain ⟨v6, e6, h10⟩ := bindS h2
  refine rl.call rfl rfl rfl (CallW.val (r' := .bool v6) ok_impl_in (law_impl_in e6) (.cons .int (.cons .int (.cons .int .nil))) .refl ?_)
  cases hb : v6
  ·have h11 := iteBF h10 hb
   refine rl.run 1 rfl (rl.done (RW.cond_t rfl (RW.sreg (rl.run 1 rfl (rl.done (RW.ret ?_))))))
   cases h11
   exact RRet.mk rfl .bool (by first | decide | simp)
  ·have h12 := iteBT h10 hb
   refine rl.run 1 rfl (rl.done (RW.cond_f rfl (RW.skip (RW.sreg (rl.run 1 rfl (rl.done (RW.seq (RW.sreg (rl.run 4 rfl (rl.done ?_))))))))))
   obtain ⟨y15, ey15, h14⟩ := bindS h12
   refine RW.cutq (σ := Unit) (fun y8 => []) (fun y8 => []) (fun y => y15 = .inr y) (fun _ _ _ _ g h => RW.gh g h) ?_ ?_
   ·refine RW.blk ?_
    refine RW.iter (σ := Int × Int) ey15 (fun s7 => [(1, .ptr 0 0), (5, .int .i64 s7.1), (32, .lst false 2 (fl (enc_TRef false) x0.Refs) x0.Refs.length), (33, .int .i64 (x0.Refs.length : Int)), (34, .int .i64 s7.2)]) (fun s7 => [some ⟨[.int .i64 x0.Stamp, .int .i64 x0.NextGen, .int .i64 x0.NextSeq, .int .i64 x0.NextValid, .lst false 2 (fl (enc_TRef false) x0.Refs) x0.Refs.length], 0⟩]) (Gh.ren0 [0] (.cells rfl rfl (.keep .int (.keep .int (.keep .int (.keep .int (.keep (ek_TRef.rlst) .nil))))) .nil) rfl (.cons rfl (.ptr rfl) (.cons rfl (.dat .int) (.cons rfl (.dat (ek_TRef.rlst)) (.cons rfl (.dat .int) (.cons rfl (.dat .int) .nil)))))) (fun s7 B o hS13 hB13 hE13 => ?_)
    unfold S_impl_CheckOk_2 at hS13
    refine RW.sreg ?_
    refine rl.gen rfl rfl fun b hb => ?_
    cases b
    ·have h15 := iteBF hS13 hb
     refine rl.done (RW.seq (RW.cond_f rfl (RW.exit (blkA_eq ?_))))
     cases h15
     exact ⟨_, (hE13 _ rfl).symm, (Gh.ren0 [] .nil rfl .nil)⟩
    ·have h16 := iteBT hS13 hb
     refine rl.done (RW.seq (RW.cond_t rfl (RW.skip (RW.seq (RW.blk (RW.sreg (rl.run 1 rfl ?_)))))))
     obtain ⟨v9, e9, h17⟩ := bindS h16
     refine rl.op (x_ia_lst (enc := enc_TRef) (o := false) rfl rfl rfl e9) ?_
     refine rl.op (x_ld_ela (off' := 0) (vs := (enc_TRef false v9)) ek_TRef rfl e9 rfl rfl rfl) ?_
     refine rl.run 3 rfl (rl.done (RW.seq (RW.seq ?_)))
     obtain ⟨y10, ey10, h18⟩ := bindS h17
     refine RW.cutq (σ := Bool) (fun y10 => [(1, .ptr 0 0), (7, .ptr 1 0), (32, .lst false 2 (fl (enc_TRef false) x0.Refs) x0.Refs.length), (33, .int .i64 (x0.Refs.length : Int)), (34, .int .i64 s7.2), (61, .bool y10)]) (fun y10 => [some ⟨[.int .i64 x0.Stamp, .int .i64 x0.NextGen, .int .i64 x0.NextSeq, .int .i64 x0.NextValid, .lst false 2 (fl (enc_TRef false) x0.Refs) x0.Refs.length], 0⟩, some ⟨[.int .i64 v9.No, .int .i64 v9.Gen], 0⟩]) (fun y => y10 = y) (fun _ _ _ _ g h => RW.gh g h) ?_ ?_
     ·refine RW.reg ?_
      refine rl.run 7 rfl ?_
      obtain ⟨v11, e11, h19⟩ := bindS ey10
      refine rl.call rfl rfl rfl (CallW.val (r' := .bool v11) ok_impl_in (law_impl_in e11) (.cons .int (.cons .int (.cons .int .nil))) .refl ?_)
      cases hb : v11
      ·have h20 := iteBF h19 hb
       refine rl.run 15 rfl (rl.done ?_)
       cases h20
       exact ⟨_, rfl, (Gh.ren0 [0, 1] (.cells rfl rfl (.keep .int (.keep .int (.keep .int (.keep .int (.keep (ek_TRef.rlst) .nil))))) (.cells rfl rfl (.keep .int (.keep .int .nil)) .nil)) rfl (.cons rfl (.ptr rfl) (.cons rfl (.ptr rfl) (.cons rfl (.dat (ek_TRef.rlst)) (.cons rfl (.dat .int) (.cons rfl (.dat .int) (.cons rfl (.dat .bool) .nil)))))))⟩
      ·have h21 := iteBT h19 hb
       refine rl.run 4 rfl ?_
       obtain ⟨v12, e12, h22⟩ := bindS h21
       refine rl.call rfl rfl rfl (CallW.val (r' := .bool v12) ok_impl_in (law_impl_in e12) (.cons .int (.cons .int (.cons .int .nil))) .refl ?_)
       cases hb : v12
       ·have h23 := iteBF h22 hb
        refine rl.run 10 rfl (rl.done ?_)
        cases h23
        exact ⟨_, rfl, (Gh.ren0 [0, 1] (.cells rfl rfl (.keep .int (.keep .int (.keep .int (.keep .int (.keep (ek_TRef.rlst) .nil))))) (.cells rfl rfl (.keep .int (.keep .int .nil)) .nil)) rfl (.cons rfl (.ptr rfl) (.cons rfl (.ptr rfl) (.cons rfl (.dat (ek_TRef.rlst)) (.cons rfl (.dat .int) (.cons rfl (.dat .int) (.cons rfl (.dat .bool) .nil)))))))⟩
       ·have h24 := iteBT h22 hb
        refine rl.run 6 rfl ?_
        obtain ⟨v13, e13, h25⟩ := bindS h24
        refine rl.gop rfl (x_sle ek_TRef rfl rfl rfl abnd_hi e13) ?_
        refine rl.run 1 rfl ?_
        obtain ⟨v14, e14, h26⟩ := bindS h25
        refine rl.call rfl rfl rfl (CallW.embR [1] ok_slices_ContainsFunc_Ref (law_slices_ContainsFunc_Ref_CheckOk_1 e14) (.cells rfl rfl (.keep .int (.keep .int .nil)) .nil) rfl rfl (.cons (.dat (ek_TRef.rlst)) (.cons (RnL.fn (.cons (.ptr rfl) .nil)) .nil)) .bool ?_)
        cases hb : v14
        ·have h27 := iteBF h26 hb
         refine rl.run 1 rfl (rl.done ?_)
         cases h27
         exact ⟨_, rfl, (Gh.ren0 [0, 1] (.cells rfl rfl (.keep .int (.keep .int (.keep .int (.keep .int (.keep (ek_TRef.rlst) .nil))))) (.cells rfl rfl (.keep .int (.keep .int .nil)) .nil)) rfl (.cons rfl (.ptr rfl) (.cons rfl (.ptr rfl) (.cons rfl (.dat (ek_TRef.rlst)) (.cons rfl (.dat .int) (.cons rfl (.dat .int) (.cons rfl (.dat .bool) .nil)))))))⟩
        ·have h28 := iteBT h26 hb
         refine rl.run 1 rfl (rl.done ?_)
         cases h28
         exact ⟨_, rfl, (Gh.ren0 [0, 1] (.cells rfl rfl (.keep .int (.keep .int (.keep .int (.keep .int (.keep (ek_TRef.rlst) .nil))))) (.cells rfl rfl (.keep .int (.keep .int .nil)) .nil)) rfl (.cons rfl (.ptr rfl) (.cons rfl (.ptr rfl) (.cons rfl (.dat (ek_TRef.rlst)) (.cons rfl (.dat .int) (.cons rfl (.dat .int) (.cons rfl (.dat .bool) .nil)))))))⟩
     ·intro y hC
      subst hC
      cases hb : y10
      ·have h29 := iteBF h18 hb
       refine RW.cond_f rfl (RW.skip (RW.reg (rl.run 3 rfl (rl.done (RW.reg (rl.run 2 rfl (rl.done ?_)))))))
       cases h29
       exact hB13 _ rfl _ _ (Gh.ren0 [0] (.cells rfl rfl (.keep .int (.keep .int (.keep .int (.keep .int (.keep (ek_TRef.rlst) .nil))))) .nil) rfl (.cons rfl (.ptr rfl) (.cons rfl (.dat .int) (.cons rfl (.dat (ek_TRef.rlst)) (.cons rfl (.dat .int) (.cons rfl (.dat .int) .nil))))))
      ·have h30 := iteBT h18 hb
       refine RW.cond_t rfl (RW.sreg (rl.run 1 rfl (rl.done (RW.ret ?_))))
       cases h30
       have h31 := elimL h14 (hE13 _ rfl)
       cases h31
       exact RRet.mk rfl .bool (by first | decide | simp)
   ·intro y8 hC
    have h14 := elimR h14 hC
    refine RW.sreg (rl.run 1 rfl (rl.done (RW.ret ?_)))
    cases h14
    exact RRet.mk rfl .bool (by first | decide | simp)
theorem law_impl_varText {x0 : Int} {r : List UInt8} (hF : F_impl_varText x0 = some r) : PCalls Try.prog 164 [.int .i64 x0] (.str r) := by
 refine PCalls.of_r k_impl_varText rfl ?_
 unfold F_impl_varText at hF
 refine RW.sreg (rl.run 1 rfl (rl.done (RW.sreg (rl.run 2 rfl (rl.done (RW.seq ?_))))))
 refine RW.gh (Gh.nil_t 3 1 rfl) ?_
 obtain ⟨y4, ey4, h2⟩ := bindS hF
 refine RW.cutq (σ := Int × (List Int)) (fun y2 => [(0, .int .i64 y2.1), (3, .sl 0 0 y2.2.length)]) (fun y2 => [some ⟨fl (encB true) y2.2, 1⟩]) (fun y => y4 = y) (fun _ _ _ _ g h => RW.gh g h) ?_ ?_
 ·refine RW.blk ?_
  refine RW.iter (σ := Int × (List Int)) ey4 (fun s1 => [(0, .int .i64 s1.1), (3, .sl 0 0 s1.2.length)]) (fun s1 => [some ⟨fl (encB true) s1.2, 1⟩]) (Gh.ren0 [0] (.same rfl (ekB.fref _ _) .nil) rfl (.cons rfl (.dat .int) (.cons rfl (.slq rfl rfl) .nil))) (fun s1 B o hS1 hB1 hE1 => ?_)
  unfold S_impl_varText_1 at hS1
  refine RW.seq (RW.sreg (rl.run 1 rfl ?_))
  refine rl.gen rfl rfl fun b hb => ?_
  cases b
  ·have h3 := iteBF hS1 hb
   refine rl.done (RW.cond_f rfl (RW.exit (blkA_eq ?_)))
   cases h3
   exact ⟨_, (hE1 _ rfl).symm, (Gh.ren0 [0] (.same rfl (ekB.fref _ _) .nil) rfl (.cons rfl (.dat .int) (.cons rfl (.slq rfl rfl) .nil)))⟩
  ·have h4 := iteBT hS1 hb
   refine rl.done (RW.cond_t rfl (RW.skip (RW.blk (RW.sreg (rl.run 6 rfl ?_)))))
   obtain ⟨v3, e3, h5⟩ := bindS h4
   refine rl.op (x_app rfl rfl (rapp_sl (l := s1.2) (m := [IntKind.u8.wrap (orv .i64 (andv .i64 s1.1 127) 128)]) (o := true) ekB rfl rfl (acont_slq (m := [IntKind.u8.wrap (orv .i64 (andv .i64 s1.1 127) 128)]) (o := true) fkB rfl rfl) rfl (fkB.fst _ _) e3)) ?_
   refine rl.run 1 rfl (rl.done (RW.reg (rl.run 3 rfl (rl.done ?_))))
   cases h5
   exact hB1 _ rfl _ _ (Gh.ren0 [2] (.same rfl (ekB.fref _ _) .nil) rfl (.cons rfl (.dat .int) (.cons rfl (.slq rfl rfl) .nil)))
 ·intro y2 hC
  subst hC
  refine RW.sreg (rl.run 4 rfl ?_)
  obtain ⟨v5, e5, h6⟩ := bindS h2
  refine rl.op (x_app rfl rfl (rapp_sl (l := y4.2) (m := [IntKind.u8.wrap y4.1]) (o := true) ekB rfl rfl (acont_slq (m := [IntKind.u8.wrap y4.1]) (o := true) fkB rfl rfl) rfl (fkB.fst _ _) e5)) ?_
  refine rl.op (x_cvb_sl (o := true) (l := v5) rfl rfl) ?_
  refine rl.run 1 rfl (rl.done (RW.ret ?_))
  cases h6
  exact RRet.mk rfl .str (by first | decide | simp)
theorem law_impl_SumMore {x0 : Int} {x1 : List UInt8} {r : Int} (hF : F_impl_SumMore x0 x1 = some r) : PCalls Try.prog 216 [.int .u32 x0, .str x1] (.int .u32 r) := by
 refine PCalls.of_r k_impl_SumMore rfl ?_
 unfold F_impl_SumMore at hF
 refine RW.sreg (rl.run 1 rfl (rl.done (RW.seq (RW.sreg (rl.run 3 rfl (rl.done ?_))))))
 obtain ⟨y7, ey7, h2⟩ := bindS hF
 refine RW.cutq (σ := Int) (fun y2 => [(0, .int .u32 y2)]) (fun y2 => []) (fun y => y7 = y) (fun _ _ _ _ g h => RW.gh g h) ?_ ?_
 ·refine RW.blk ?_
  refine RW.iter (σ := Int × Int) ey7 (fun s1 => [(0, .int .u32 s1.1), (1, .str x1), (8, .int .i64 (x1.length : Int)), (9, .int .i64 s1.2)]) (fun s1 => []) (Gh.ren0 [] .nil rfl (.cons rfl (.dat .int) (.cons rfl (.dat .str) (.cons rfl (.dat .int) (.cons rfl (.dat .int) .nil))))) (fun s1 B o hS1 hB1 hE1 => ?_)
  unfold S_impl_SumMore_1 at hS1
  refine RW.sreg ?_
  refine rl.gen rfl rfl fun b hb => ?_
  cases b
  ·have h3 := iteBF hS1 hb
   refine rl.done (RW.seq (RW.cond_f rfl (RW.exit (blkA_eq ?_))))
   cases h3
   exact ⟨_, (hE1 _ rfl).symm, (Gh.ren0 [] .nil rfl (.cons rfl (.dat .int) .nil))⟩
  ·have h4 := iteBT hS1 hb
   refine rl.done (RW.seq (RW.cond_t rfl (RW.skip (RW.seq (RW.blk (RW.sreg (rl.run 2 rfl (rl.done (RW.sreg (rl.run 3 rfl ?_))))))))))
   obtain ⟨v3, e3, h5⟩ := bindS h4
   refine rl.op (x_idx rfl rfl e3) ?_
   refine rl.run 3 rfl (rl.done (RW.sreg (rl.run 1 rfl (rl.done ?_))))
   obtain ⟨y6, ey6, h7⟩ := bindS h5
   refine RW.cutq (σ := Int) (fun y5 => [(0, .int .u32 y5), (1, .str x1), (8, .int .i64 (x1.length : Int)), (9, .int .i64 s1.2)]) (fun y5 => []) (fun y => y6 = y) (fun _ _ _ _ g h => RW.gh g h) ?_ ?_
   ·refine RW.blk ?_
    refine RW.iter (σ := Int × Int) ey6 (fun s4 => [(0, .int .u32 s4.1), (1, .str x1), (8, .int .i64 (x1.length : Int)), (9, .int .i64 s1.2), (18, .int .i64 s4.2)]) (fun s4 => []) (Gh.ren0 [] .nil rfl (.cons rfl (.dat .int) (.cons rfl (.dat .str) (.cons rfl (.dat .int) (.cons rfl (.dat .int) (.cons rfl (.dat .int) .nil)))))) (fun s4 B o hS6 hB6 hE6 => ?_)
    unfold S_impl_SumMore_2 at hS6
    refine RW.sreg ?_
    refine rl.gen rfl rfl fun b hb => ?_
    cases b
    ·have h8 := iteBF hS6 hb
     refine rl.done (RW.seq (RW.cond_f rfl (RW.exit (blkA_eq ?_))))
     cases h8
     exact ⟨_, (hE6 _ rfl).symm, (Gh.ren0 [] .nil rfl (.cons rfl (.dat .int) (.cons rfl (.dat .str) (.cons rfl (.dat .int) (.cons rfl (.dat .int) .nil)))))⟩
    ·have h9 := iteBT hS6 hb
     refine rl.done (RW.seq (RW.cond_t rfl (RW.skip (RW.seq (RW.blk (RW.sreg (rl.run 2 rfl ?_)))))))
     refine rl.gen rfl rfl fun b hb => ?_
     cases b
     ·have h10 := iteBF h9 hb
      refine rl.run 1 rfl (rl.done (RW.sreg (rl.run 3 rfl (rl.done (RW.sreg (rl.run 1 rfl (rl.done (RW.cond_f rfl (RW.skip (RW.reg (rl.run 2 rfl ?_)))))))))))
      refine rl.done ?_
      cases h10
      exact hB6 _ rfl _ _ (Gh.ren0 [] .nil rfl (.cons rfl (.dat .int) (.cons rfl (.dat .str) (.cons rfl (.dat .int) (.cons rfl (.dat .int) (.cons rfl (.dat .int) .nil))))))
     ·have h11 := iteBT h9 hb
      refine rl.run 1 rfl (rl.done (RW.sreg (rl.run 3 rfl (rl.done (RW.sreg (rl.run 1 rfl (rl.done (RW.cond_t rfl (RW.reg (rl.run 3 rfl (rl.done ?_)))))))))))
      refine RW.reg (rl.run 2 rfl (rl.done ?_))
      cases h11
      exact hB6 _ rfl _ _ (Gh.ren0 [] .nil rfl (.cons rfl (.dat .int) (.cons rfl (.dat .str) (.cons rfl (.dat .int) (.cons rfl (.dat .int) (.cons rfl (.dat .int) .nil))))))
   ·intro y5 hC
    subst hC
    refine RW.reg (rl.run 2 rfl (rl.done ?_))
    cases h7
    exact hB1 _ rfl _ _ (Gh.ren0 [] .nil rfl (.cons rfl (.dat .int) (.cons rfl (.dat .str) (.cons rfl (.dat .int) (.cons rfl (.dat .int) .nil)))))
 ·intro y2 hC
  subst hC
  refine RW.sreg (rl.run 2 rfl (rl.done (RW.ret ?_)))
  cases h2
  exact RRet.mk rfl .int (by first | decide | simp)
theorem law_impl_SumOf {x0 : List UInt8} {r : Int} (hF : F_impl_SumOf x0 = some r) : PCalls Try.prog 201 [.str x0] (.int .u32 r) := by
 refine PCalls.of_r k_impl_SumOf rfl ?_
 unfold F_impl_SumOf at hF
 refine RW.sreg (rl.run 1 rfl (rl.done (RW.sreg (rl.run 1 rfl ?_))))
 obtain ⟨v1, e1, h1⟩ := bindS hF
 refine rl.call rfl rfl rfl (CallW.val (r' := .int .u32 v1) ok_impl_SumMore (law_impl_SumMore e1) (.cons .int (.cons .str .nil)) .refl ?_)
 refine rl.run 1 rfl (rl.done (RW.ret ?_))
 cases h1
 exact RRet.mk rfl .int (by first | decide | simp)
theorem law_impl_seal {x0 : List UInt8} {r : List UInt8} (hF : F_impl_seal x0 = some r) : PCalls Try.prog 165 [.str x0] (.str r) := by
 refine PCalls.of_r k_impl_seal rfl ?_
 unfold F_impl_seal at hF
 refine RW.sreg (rl.run 1 rfl (rl.done (RW.sreg (rl.run 1 rfl ?_))))
 obtain ⟨v1, e1, h1⟩ := bindS hF
 refine rl.call rfl rfl rfl (CallW.val (r' := .int .u32 v1) ok_impl_SumOf (law_impl_SumOf e1) (.cons .str .nil) .refl ?_)
 refine rl.run 1 rfl (rl.done (RW.sreg (rl.run 12 rfl ?_)))
 refine rl.op (x_cvb_sl (o := true) (l := [IntKind.u8.wrap (shrv .u32 v1 24), IntKind.u8.wrap (shrv .u32 v1 16), IntKind.u8.wrap (shrv .u32 v1 8), IntKind.u8.wrap v1]) rfl rfl) ?_
 refine rl.run 1 rfl (rl.done ?_)
 refine RW.keep [2] (a' := [(2, .str ([IntKind.u8.wrap (shrv .u32 v1 24), IntKind.u8.wrap (shrv .u32 v1 16), IntKind.u8.wrap (shrv .u32 v1 8), IntKind.u8.wrap v1].map ofI))]) (H' := [some ⟨fl (encB true) [IntKind.u8.wrap (shrv .u32 v1 24), IntKind.u8.wrap (shrv .u32 v1 16), IntKind.u8.wrap (shrv .u32 v1 8), IntKind.u8.wrap v1], 1⟩]) rfl rfl ?_
 refine RW.ret ?_
 cases h1
 exact RRet.mk rfl .str (by first | decide | simp)
theorem law_impl_CheckText {x0 : TCheck} {r : (List UInt8) × Bool} (hF : F_impl_CheckText x0 = some r) : PCalls Try.prog 100 [.agg (enc_TCheck false x0)] (.tup [.str r.1, .bool r.2]) := by
 refine PCalls.of_r k_impl_CheckText rfl ?_
 unfold F_impl_CheckText at hF
 refine RW.sreg (rl.run 3 rfl (rl.done (RW.seq (RW.sreg (rl.run 1 rfl ?_)))))
 obtain ⟨v1, e1, h1⟩ := bindS hF
 refine rl.call rfl rfl rfl (CallW.val (r' := .bool v1) ok_impl_CheckOk (law_impl_CheckOk e1) (.cons (DFL.agg (.cons .int (.cons .int (.cons .int (.cons .int (.cons (.lst ek_TRef) .nil)))))) .nil) .refl ?_)
 cases hb : v1
 ·have h2 := iteBF h1 hb
  refine rl.run 1 rfl (rl.done (RW.cond_t rfl (RW.sreg (rl.run 2 rfl (rl.done (RW.ret ?_))))))
  cases h2
  exact RRet.mk rfl (OutT.tup (.cons .str (.cons .bool .nil))) (by first | decide | simp)
 ·have h3 := iteBT h1 hb
  refine rl.run 1 rfl (rl.done (RW.cond_f rfl (RW.skip (RW.sdrw (rdraw.op rfl rfl (rdraw.op rfl rfl ?_))))))
  obtain ⟨v2, e2, h4⟩ := bindS h3
  refine rdraw.call rfl rfl rfl (CallW.val (r' := .str v2) ok_impl_varText (law_impl_varText e2) (.cons .int .nil) .refl ⟨rfl, ?_⟩)
  refine rdraw.op rfl rfl (rdraw.op rfl rfl ?_)
  obtain ⟨v3, e3, h5⟩ := bindS h4
  refine rdraw.call rfl rfl rfl (CallW.val (r' := .str v3) ok_impl_varText (law_impl_varText e3) (.cons .int .nil) .refl ⟨rfl, ?_⟩)
  obtain ⟨v4, e4, h6⟩ := bindS h5
  refine rdraw.op rfl (x_cat rfl rfl e4) ?_
  refine rdraw.op rfl rfl (rdraw.op rfl rfl ?_)
  obtain ⟨v5, e5, h7⟩ := bindS h6
  refine rdraw.call rfl rfl rfl (CallW.val (r' := .str v5) ok_impl_varText (law_impl_varText e5) (.cons .int .nil) .refl ⟨rfl, ?_⟩)
  obtain ⟨v6, e6, h8⟩ := bindS h7
  refine rdraw.op rfl (x_cat rfl rfl e6) ?_
  refine rdraw.op rfl rfl (rdraw.op rfl rfl ?_)
  obtain ⟨v7, e7, h9⟩ := bindS h8
  refine rdraw.call rfl rfl rfl (CallW.val (r' := .str v7) ok_impl_varText (law_impl_varText e7) (.cons .int .nil) .refl ⟨rfl, ?_⟩)
  obtain ⟨v8, e8, h10⟩ := bindS h9
  refine rdraw.op rfl (x_cat rfl rfl e8) ?_
  refine rdraw.op rfl rfl (rdraw.op rfl rfl (rdraw.op rfl rfl ?_))
  obtain ⟨v9, e9, h11⟩ := bindS h10
  refine rdraw.call rfl rfl rfl (CallW.val (r' := .str v9) ok_impl_varText (law_impl_varText e9) (.cons .int .nil) .refl ⟨rfl, ?_⟩)
  obtain ⟨v10, e10, h12⟩ := bindS h11
  refine rdraw.op rfl (x_cat rfl rfl e10) ?_
  refine rdraw.op rfl rfl (rdraw.done ?_)
  refine RW.keep [1, 4] (a' := [(1, .ptr 0 0), (4, .str v10)]) (H' := [some ⟨[.int .i64 x0.Stamp, .int .i64 x0.NextGen, .int .i64 x0.NextSeq, .int .i64 x0.NextValid, .lst false 2 (fl (enc_TRef false) x0.Refs) x0.Refs.length], 0⟩]) rfl rfl ?_
  refine RW.seq (RW.sreg (rl.run 4 rfl (rl.done ?_)))
  obtain ⟨y18, ey18, h14⟩ := bindS h12
  refine RW.cutq (σ := (List UInt8)) (fun y12 => [(4, .str y12)]) (fun y12 => []) (fun y => y18 = y) (fun _ _ _ _ g h => RW.gh g h) ?_ ?_
  ·refine RW.blk ?_
   refine RW.iter (σ := (List UInt8) × Int) ey18 (fun s11 => [(4, .str s11.1), (32, .lst false 2 (fl (enc_TRef false) x0.Refs) x0.Refs.length), (33, .int .i64 (x0.Refs.length : Int)), (34, .int .i64 s11.2)]) (fun s11 => []) (Gh.ren0 [] .nil rfl (.cons rfl (.dat .str) (.cons rfl (.dat (ek_TRef.rlst)) (.cons rfl (.dat .int) (.cons rfl (.dat .int) .nil))))) (fun s11 B o hS13 hB13 hE13 => ?_)
   unfold S_impl_CheckText_1 at hS13
   refine RW.sreg ?_
   refine rl.gen rfl rfl fun b hb => ?_
   cases b
   ·have h15 := iteBF hS13 hb
    refine rl.done (RW.seq (RW.cond_f rfl (RW.exit (blkA_eq ?_))))
    cases h15
    exact ⟨_, (hE13 _ rfl).symm, (Gh.ren0 [] .nil rfl (.cons rfl (.dat .str) .nil))⟩
   ·have h16 := iteBT hS13 hb
    refine rl.done (RW.seq (RW.cond_t rfl (RW.skip (RW.seq (RW.blk (RW.sreg ?_))))))
    obtain ⟨v13, e13, h17⟩ := bindS h16
    refine rl.op (x_ia_lst (enc := enc_TRef) (o := false) rfl rfl rfl e13) ?_
    refine rl.op (x_ld_ela (off' := 0) (vs := (enc_TRef false v13)) ek_TRef rfl e13 rfl rfl rfl) ?_
    refine rl.run 2 rfl (rl.done (RW.drw (rdraw.op rfl rfl (rdraw.op rfl rfl (rdraw.op rfl rfl ?_)))))
    obtain ⟨v14, e14, h18⟩ := bindS h17
    refine rdraw.call rfl rfl rfl (CallW.val (r' := .str v14) ok_impl_varText (law_impl_varText e14) (.cons .int .nil) .refl ⟨rfl, ?_⟩)
    refine rdraw.op rfl rfl (rdraw.op rfl rfl ?_)
    obtain ⟨v15, e15, h19⟩ := bindS h18
    refine rdraw.call rfl rfl rfl (CallW.val (r' := .str v15) ok_impl_varText (law_impl_varText e15) (.cons .int .nil) .refl ⟨rfl, ?_⟩)
    obtain ⟨v16, e16, h20⟩ := bindS h19
    refine rdraw.op rfl (x_cat rfl rfl e16) ?_
    obtain ⟨v17, e17, h21⟩ := bindS h20
    refine rdraw.op rfl (x_cat rfl rfl e17) ?_
    refine rdraw.op rfl rfl (rdraw.done (RW.reg (rl.run 2 rfl (rl.done ?_))))
    cases h21
    exact hB13 _ rfl _ _ (Gh.ren0 [] .nil rfl (.cons rfl (.dat .str) (.cons rfl (.dat (ek_TRef.rlst)) (.cons rfl (.dat .int) (.cons rfl (.dat .int) .nil)))))
  ·intro y12 hC
   subst hC
   refine RW.sreg (rl.run 2 rfl ?_)
   obtain ⟨v19, e19, h22⟩ := bindS h14
   refine rl.call rfl rfl rfl (CallW.val (r' := .str v19) ok_impl_seal (law_impl_seal e19) (.cons .str .nil) .refl ?_)
   obtain ⟨v20, e20, h23⟩ := bindS h22
   refine rl.op (x_cat rfl rfl e20) ?_
   refine rl.run 1 rfl (rl.done (RW.sreg (rl.run 2 rfl ?_)))
   obtain ⟨v21, e21, h24⟩ := bindS h23
   refine rl.call rfl rfl rfl (CallW.val (r' := .str v21) ok_impl_varText (law_impl_varText e21) (.cons .int .nil) .refl ?_)
   refine rl.run 1 rfl ?_
   obtain ⟨v22, e22, h25⟩ := bindS h24
   refine rl.op (x_cat rfl rfl e22) ?_
   refine rl.run 1 rfl (rl.done (RW.seq (RW.sreg (rl.run 2 rfl ?_))))
   refine rl.gen rfl rfl fun b hb => ?_
   cases b
   ·have h26 := iteBF h25 hb
    refine rl.done ?_
    refine RW.keep [7, 59] (a' := [(7, .str v22), (59, .bool false)]) (H' := []) rfl rfl ?_
    refine RW.cond_f rfl (RW.skip (RW.sreg (rl.run 3 rfl (rl.done (RW.ret ?_)))))
    cases h26
    exact RRet.mk rfl (OutT.tup (.cons .str (.cons .bool .nil))) (by first | decide | simp)
   ·have h27 := iteBT h25 hb
    refine rl.done ?_
    refine RW.keep [7, 59] (a' := [(7, .str v22), (59, .bool true)]) (H' := []) rfl rfl ?_
    refine RW.cond_t rfl (RW.sreg (rl.run 2 rfl (rl.done (RW.ret ?_))))
    cases h27
    exact RRet.mk rfl (OutT.tup (.cons .str (.cons .bool .nil))) (by first | decide | simp)
theorem law_impl_ReadVar {x0 : List UInt8} {x1 : Int} {r : Int × Int × Bool} (hF : F_impl_ReadVar x0 x1 = some r) : PCalls Try.prog 155 [.str x0, .int .i64 x1] (.tup [.int .i64 r.1, .int .i64 r.2.1, .bool r.2.2]) := by
 refine PCalls.of_r k_impl_ReadVar rfl ?_
 unfold F_impl_ReadVar at hF
 refine RW.sreg (rl.run 3 rfl (rl.done (RW.seq (RW.sreg (rl.run 3 rfl ?_)))))
 obtain ⟨v1, e1, h1⟩ := bindS hF
 refine rl.call rfl rfl rfl (CallW.val (r' := .bool v1) ok_impl_in (law_impl_in e1) (.cons .int (.cons .int (.cons .int .nil))) .refl ?_)
 cases hb : v1
 ·have h2 := iteBF h1 hb
  refine rl.run 1 rfl (rl.done (RW.cond_t rfl (RW.sreg (rl.run 3 rfl (rl.done (RW.ret ?_))))))
  cases h2
  exact RRet.mk rfl (OutT.tup (.cons .int (.cons .int (.cons .bool .nil)))) (by first | decide | simp)
 ·have h3 := iteBT h1 hb
  refine rl.run 1 rfl (rl.done (RW.cond_f rfl (RW.skip (RW.sreg (rl.run 1 rfl (rl.done (RW.seq (RW.sreg (rl.run 1 rfl (rl.done ?_))))))))))
  obtain ⟨y8, ey8, h5⟩ := bindS h3
  refine RW.cutq (σ := Unit) (fun y3 => []) (fun y3 => []) (fun y => y8 = .inr y) (fun _ _ _ _ g h => RW.gh g h) ?_ ?_
  ·refine RW.blk ?_
   refine RW.iter (σ := Int × Int) ey8 (fun s2 => [(0, .str x0), (1, .int .i64 x1), (7, .int .i64 s2.1), (8, .int .i64 s2.2)]) (fun s2 => []) (Gh.ren0 [] .nil rfl (.cons rfl (.dat .str) (.cons rfl (.dat .int) (.cons rfl (.dat .int) (.cons rfl (.dat .int) .nil))))) (fun s2 B o hS4 hB4 hE4 => ?_)
   unfold S_impl_ReadVar_1 at hS4
   refine RW.seq (RW.seq ?_)
   obtain ⟨y4, ey4, h6⟩ := bindS hS4
   refine RW.cutq (σ := Bool) (fun y4 => [(0, .str x0), (1, .int .i64 x1), (7, .int .i64 s2.1), (8, .int .i64 s2.2), (24, .bool y4)]) (fun y4 => []) (fun y => y4 = y) (fun _ _ _ _ g h => RW.gh g h) ?_ ?_
   ·refine RW.reg ?_
    refine rl.run 1 rfl ?_
    refine rl.gen rfl rfl fun b hb => ?_
    cases b
    ·have h7 := iteBF ey4 hb
     refine rl.run 8 rfl (rl.done ?_)
     cases h7
     exact ⟨_, rfl, (Gh.ren0 [] .nil rfl (.cons rfl (.dat .str) (.cons rfl (.dat .int) (.cons rfl (.dat .int) (.cons rfl (.dat .int) (.cons rfl (.dat .bool) .nil))))))⟩
    ·have h8 := iteBT ey4 hb
     refine rl.run 6 rfl ?_
     refine rl.gen rfl rfl fun b hb => ?_
     cases b
     ·have h9 := iteBF h8 hb
      refine rl.run 1 rfl (rl.done ?_)
      cases h9
      exact ⟨_, rfl, (Gh.ren0 [] .nil rfl (.cons rfl (.dat .str) (.cons rfl (.dat .int) (.cons rfl (.dat .int) (.cons rfl (.dat .int) (.cons rfl (.dat .bool) .nil))))))⟩
     ·have h10 := iteBT h8 hb
      refine rl.run 1 rfl (rl.done ?_)
      cases h10
      exact ⟨_, rfl, (Gh.ren0 [] .nil rfl (.cons rfl (.dat .str) (.cons rfl (.dat .int) (.cons rfl (.dat .int) (.cons rfl (.dat .int) (.cons rfl (.dat .bool) .nil))))))⟩
   ·intro y hC
    subst hC
    cases hb : y4
    ·have h11 := iteBF h6 hb
     refine RW.cond_f rfl (RW.exit (blkA_eq ?_))
     cases h11
     exact ⟨_, (hE4 _ rfl).symm, (Gh.ren0 [] .nil rfl .nil)⟩
    ·have h12 := iteBT h6 hb
     refine RW.cond_t rfl (RW.skip (RW.seq (RW.blk (RW.sreg (rl.run 4 rfl ?_)))))
     obtain ⟨v5, e5, h13⟩ := bindS h12
     refine rl.op (x_idx rfl rfl e5) ?_
     refine rl.run 2 rfl (rl.done (RW.sreg (rl.run 5 rfl ?_)))
     obtain ⟨v6, e6, h14⟩ := bindS h13
     refine rl.op (x_shl rfl rfl e6) ?_
     refine rl.run 2 rfl (rl.done ?_)
     refine RW.keep [0, 1, 7, 8, 9] (a' := [(0, .str x0), (1, .int .i64 x1), (7, .int .i64 (orv .i64 s2.1 v6)), (8, .int .i64 s2.2), (9, .int .i64 (w64 (v5.toNat : Int)))]) (H' := []) rfl rfl ?_
     refine RW.seq (RW.sreg (rl.run 1 rfl ?_))
     refine rl.gen rfl rfl fun b hb => ?_
     cases b
     ·have h15 := iteBF h14 hb
      refine rl.done (RW.cond_f rfl (RW.skip (RW.seq (RW.seq ?_))))
      obtain ⟨y7, ey7, h16⟩ := bindS h15
      refine RW.cutq (σ := Bool) (fun y7 => [(1, .int .i64 x1), (7, .int .i64 (orv .i64 s2.1 v6)), (8, .int .i64 s2.2), (51, .bool y7)]) (fun y7 => []) (fun y => y7 = y) (fun _ _ _ _ g h => RW.gh g h) ?_ ?_
      ·refine RW.reg ?_
       refine rl.run 1 rfl ?_
       refine rl.gen rfl rfl fun b hb => ?_
       cases b
       ·have h17 := iteBF ey7 hb
        refine rl.run 6 rfl ?_
        refine rl.gen rfl rfl fun b hb => ?_
        cases b
        ·have h18 := iteBF h17 hb
         refine rl.run 1 rfl (rl.done ?_)
         cases h18
         exact ⟨_, rfl, (Gh.ren0 [] .nil rfl (.cons rfl (.dat .int) (.cons rfl (.dat .int) (.cons rfl (.dat .int) (.cons rfl (.dat .bool) .nil)))))⟩
        ·have h19 := iteBT h17 hb
         refine rl.run 1 rfl (rl.done ?_)
         cases h19
         exact ⟨_, rfl, (Gh.ren0 [] .nil rfl (.cons rfl (.dat .int) (.cons rfl (.dat .int) (.cons rfl (.dat .int) (.cons rfl (.dat .bool) .nil)))))⟩
       ·have h20 := iteBT ey7 hb
        refine rl.run 2 rfl ?_
        refine rl.gen rfl rfl fun b hb => ?_
        cases b
        ·have h21 := iteBF h20 hb
         refine rl.run 3 rfl ?_
         refine rl.gen rfl rfl fun b hb => ?_
         cases b
         ·have h22 := iteBF h21 hb
          refine rl.run 1 rfl (rl.done ?_)
          cases h22
          exact ⟨_, rfl, (Gh.ren0 [] .nil rfl (.cons rfl (.dat .int) (.cons rfl (.dat .int) (.cons rfl (.dat .int) (.cons rfl (.dat .bool) .nil)))))⟩
         ·have h23 := iteBT h21 hb
          refine rl.run 1 rfl (rl.done ?_)
          cases h23
          exact ⟨_, rfl, (Gh.ren0 [] .nil rfl (.cons rfl (.dat .int) (.cons rfl (.dat .int) (.cons rfl (.dat .int) (.cons rfl (.dat .bool) .nil)))))⟩
        ·have h24 := iteBT h20 hb
         refine rl.run 5 rfl (rl.done ?_)
         cases h24
         exact ⟨_, rfl, (Gh.ren0 [] .nil rfl (.cons rfl (.dat .int) (.cons rfl (.dat .int) (.cons rfl (.dat .int) (.cons rfl (.dat .bool) .nil)))))⟩
      ·intro y hC
       subst hC
       cases hb : y7
       ·have h25 := iteBF h16 hb
        refine RW.cond_f rfl (RW.skip (RW.sreg (rl.run 8 rfl (rl.done (RW.ret ?_)))))
        cases h25
        have h26 := elimL h5 (hE4 _ rfl)
        cases h26
        exact RRet.mk rfl (OutT.tup (.cons .int (.cons .int (.cons .bool .nil)))) (by first | decide | simp)
       ·have h27 := iteBT h16 hb
        refine RW.cond_t rfl (RW.sreg (rl.run 3 rfl (rl.done (RW.ret ?_))))
        cases h27
        have h28 := elimL h5 (hE4 _ rfl)
        cases h28
        exact RRet.mk rfl (OutT.tup (.cons .int (.cons .int (.cons .bool .nil)))) (by first | decide | simp)
     ·have h29 := iteBT h14 hb
      refine rl.done (RW.cond_t rfl (RW.exit (blkA_eq (RW.reg (rl.run 3 rfl (rl.done ?_))))))
      cases h29
      exact hB4 _ rfl _ _ (Gh.ren0 [] .nil rfl (.cons rfl (.dat .str) (.cons rfl (.dat .int) (.cons rfl (.dat .int) (.cons rfl (.dat .int) .nil)))))
  ·intro y3 hC
   have h5 := elimR h5 hC
   refine RW.sreg (rl.run 3 rfl (rl.done (RW.ret ?_)))
   cases h5
   exact RRet.mk rfl (OutT.tup (.cons .int (.cons .int (.cons .bool .nil)))) (by first | decide | simp)
theorem law_impl_ReadShort {x0 : List UInt8} {x1 : Int} {r : (List UInt8) × Int × Bool} (hF : F_impl_ReadShort x0 x1 = some r) : PCalls Try.prog 153 [.str x0, .int .i64 x1] (.tup [.str r.1, .int .i64 r.2.1, .bool r.2.2]) := by
 refine PCalls.of_r k_impl_ReadShort rfl ?_
 unfold F_impl_ReadShort at hF
 refine RW.sreg (rl.run 3 rfl (rl.done (RW.sreg (rl.run 2 rfl ?_))))
 obtain ⟨v1, e1, h1⟩ := bindS hF
 refine rl.call rfl rfl rfl (CallW.val (r' := .tup [.int .i64 v1.1, .int .i64 v1.2.1, .bool v1.2.2]) ok_impl_ReadVar (law_impl_ReadVar e1) (.cons .str (.cons .int .nil)) (FlL.tup (.cons .refl (.cons .refl (.cons .refl .nil)))) ?_)
 refine rl.run 7 rfl (rl.done ?_)
 refine RW.keep [0, 7, 8, 9] (a' := [(0, .str x0), (7, .int .i64 v1.1), (8, .int .i64 v1.2.1), (9, .bool v1.2.2)]) (H' := []) rfl rfl ?_
 refine RW.seq (RW.seq ?_)
 obtain ⟨y2, ey2, h2⟩ := bindS h1
 refine RW.cutq (σ := Bool) (fun y2 => [(0, .str x0), (7, .int .i64 v1.1), (8, .int .i64 v1.2.1), (30, .bool y2)]) (fun y2 => []) (fun y => y2 = y) (fun _ _ _ _ g h => RW.gh g h) ?_ ?_
 ·refine RW.reg ?_
  refine rl.run 3 rfl ?_
  cases hb : (!v1.2.2)
  ·have h3 := iteBF ey2 hb
   refine rl.run 1 rfl ?_
   refine rl.gen rfl rfl fun b hb => ?_
   cases b
   ·have h4 := iteBF h3 hb
    refine rl.run 7 rfl ?_
    refine rl.gen rfl rfl fun b hb => ?_
    cases b
    ·have h5 := iteBF h4 hb
     refine rl.run 1 rfl (rl.done ?_)
     cases h5
     exact ⟨_, rfl, (Gh.ren0 [] .nil rfl (.cons rfl (.dat .str) (.cons rfl (.dat .int) (.cons rfl (.dat .int) (.cons rfl (.dat .bool) .nil)))))⟩
    ·have h6 := iteBT h4 hb
     refine rl.run 1 rfl (rl.done ?_)
     cases h6
     exact ⟨_, rfl, (Gh.ren0 [] .nil rfl (.cons rfl (.dat .str) (.cons rfl (.dat .int) (.cons rfl (.dat .int) (.cons rfl (.dat .bool) .nil)))))⟩
   ·have h7 := iteBT h3 hb
    refine rl.run 9 rfl (rl.done ?_)
    cases h7
    exact ⟨_, rfl, (Gh.ren0 [] .nil rfl (.cons rfl (.dat .str) (.cons rfl (.dat .int) (.cons rfl (.dat .int) (.cons rfl (.dat .bool) .nil)))))⟩
  ·have h8 := iteBT ey2 hb
   refine rl.run 11 rfl (rl.done ?_)
   cases h8
   exact ⟨_, rfl, (Gh.ren0 [] .nil rfl (.cons rfl (.dat .str) (.cons rfl (.dat .int) (.cons rfl (.dat .int) (.cons rfl (.dat .bool) .nil)))))⟩
 ·intro y hC
  subst hC
  cases hb : y2
  ·have h9 := iteBF h2 hb
   refine RW.cond_f rfl (RW.skip (RW.sreg (rl.run 5 rfl ?_)))
   obtain ⟨v3, e3, h10⟩ := bindS h9
   refine rl.op (x_sls rfl rfl rfl abnd_both e3) ?_
   refine rl.run 6 rfl (rl.done ?_)
   refine RW.keep [4, 5, 6] (a' := [(4, .str v3), (5, .int .i64 (w64 (v1.2.1 + v1.1))), (6, .bool true)]) (H' := []) rfl rfl ?_
   refine RW.ret ?_
   cases h10
   exact RRet.mk rfl (OutT.tup (.cons .str (.cons .int (.cons .bool .nil)))) (by first | decide | simp)
  ·have h11 := iteBT h2 hb
   refine RW.cond_t rfl (RW.sreg (rl.run 3 rfl (rl.done (RW.ret ?_))))
   cases h11
   exact RRet.mk rfl (OutT.tup (.cons .str (.cons .int (.cons .bool .nil)))) (by first | decide | simp)
theorem law_impl_Unsealed {x0 : List UInt8} {r : (List UInt8) × Bool} (hF : F_impl_Unsealed x0 = some r) : PCalls Try.prog 154 [.str x0] (.tup [.str r.1, .bool r.2]) := by
 refine PCalls.of_r k_impl_Unsealed rfl ?_
 unfold F_impl_Unsealed at hF
 refine RW.sreg (rl.run 2 rfl (rl.done (RW.sreg (rl.run 4 rfl (rl.done (RW.seq (RW.seq ?_)))))))
 obtain ⟨y1, ey1, h1⟩ := bindS hF
 refine RW.cutq (σ := Bool) (fun y1 => [(0, .str x0), (4, .int .i64 (w64 ((x0.length : Int) - 4))), (20, .bool y1)]) (fun y1 => []) (fun y => y1 = y) (fun _ _ _ _ g h => RW.gh g h) ?_ ?_
 ·refine RW.drw ?_
  refine rdraw.op rfl rfl ?_
  obtain ⟨v2, e2, h2⟩ := bindS ey1
  refine rdraw.call rfl rfl rfl (CallW.val (r' := .bool v2) ok_impl_in (law_impl_in e2) (.cons .int (.cons .int (.cons .int .nil))) .refl ⟨rfl, ?_⟩)
  cases hb : v2
  ·have h3 := iteBF h2 hb
   refine rdraw.op rfl rfl (rdraw.op rfl rfl (rdraw.off rfl (rdraw.off rfl (rdraw.off rfl (rdraw.off rfl (rdraw.off rfl (rdraw.off rfl (rdraw.off rfl (rdraw.off rfl (rdraw.op rfl rfl (rdraw.done ?_)))))))))))
   cases h3
   exact ⟨_, rfl, (Gh.ren0 [] .nil rfl (.cons rfl (.dat .str) (.cons rfl (.dat .int) (.cons rfl (.dat .bool) .nil))))⟩
  ·have h4 := iteBT h2 hb
   refine rdraw.op rfl rfl (rdraw.op rfl rfl (rdraw.op rfl rfl (rdraw.op rfl rfl ?_)))
   obtain ⟨v3, e3, h5⟩ := bindS h4
   refine rdraw.op rfl (x_sls rfl rfl rfl abnd_lo e3) ?_
   refine rdraw.op rfl rfl (rdraw.op rfl rfl ?_)
   obtain ⟨v4, e4, h6⟩ := bindS h5
   refine rdraw.op rfl (x_sls rfl rfl rfl abnd_hi e4) ?_
   obtain ⟨v5, e5, h7⟩ := bindS h6
   refine rdraw.call rfl rfl rfl (CallW.val (r' := .str v5) ok_impl_seal (law_impl_seal e5) (.cons .str .nil) .refl ⟨rfl, ?_⟩)
   refine rdraw.gen rfl rfl fun b hb => ?_
   cases b
   ·have h8 := iteBF h7 hb
    refine rdraw.op rfl rfl (rdraw.done ?_)
    cases h8
    exact ⟨_, rfl, (Gh.ren0 [] .nil rfl (.cons rfl (.dat .str) (.cons rfl (.dat .int) (.cons rfl (.dat .bool) .nil))))⟩
   ·have h9 := iteBT h7 hb
    refine rdraw.op rfl rfl (rdraw.done ?_)
    cases h9
    exact ⟨_, rfl, (Gh.ren0 [] .nil rfl (.cons rfl (.dat .str) (.cons rfl (.dat .int) (.cons rfl (.dat .bool) .nil))))⟩
 ·intro y hC
  subst hC
  cases hb : y1
  ·have h10 := iteBF h1 hb
   refine RW.cond_f rfl (RW.skip (RW.sreg (rl.run 2 rfl ?_)))
   obtain ⟨v6, e6, h11⟩ := bindS h10
   refine rl.op (x_sls rfl rfl rfl abnd_hi e6) ?_
   refine rl.run 2 rfl (rl.done (RW.ret ?_))
   cases h11
   exact RRet.mk rfl (OutT.tup (.cons .str (.cons .bool .nil))) (by first | decide | simp)
  ·have h12 := iteBT h1 hb
   refine RW.cond_t rfl (RW.sreg (rl.run 2 rfl (rl.done (RW.ret ?_))))
   cases h12
   exact RRet.mk rfl (OutT.tup (.cons .str (.cons .bool .nil))) (by first | decide | simp)
set_option maxHeartbeats 2000000 in
theorem law_impl_ReadCheck {x0 : List UInt8} {r : TCheck × Bool} (hF : F_impl_ReadCheck x0 = some r) : PCalls Try.prog 88 [.str x0] (.tup [.agg (enc_TCheck true r.1), .bool r.2]) := by
 refine PCalls.of_r k_impl_ReadCheck rfl ?_
 unfold F_impl_ReadCheck at hF
 refine RW.sreg (rl.run 2 rfl (rl.done (RW.sreg (rl.run 1 rfl ?_))))
 obtain ⟨v1, e1, h1⟩ := bindS hF
 refine rl.call rfl rfl rfl (CallW.val (r' := .tup [.str v1.1, .int .i64 v1.2.1, .bool v1.2.2]) ok_impl_ReadShort (law_impl_ReadShort e1) (.cons .str (.cons .int .nil)) (FlL.tup (.cons .refl (.cons .refl (.cons .refl .nil)))) ?_)
 refine rl.run 7 rfl (rl.done (RW.sreg (rl.run 1 rfl ?_)))
 obtain ⟨v2, e2, h2⟩ := bindS h1
 refine rl.call rfl rfl rfl (CallW.val (r' := .tup [.str v2.1, .bool v2.2]) ok_impl_Unsealed (law_impl_Unsealed e2) (.cons .str .nil) (FlL.tup (.cons .refl (.cons .refl .nil))) ?_)
 refine rl.run 5 rfl (rl.done ?_)
 refine RW.keep [0, 2, 5, 6, 7, 8] (a' := [(0, .str x0), (2, .ptr 0 0), (5, .int .i64 v1.2.1), (6, .bool v1.2.2), (7, .str v2.1), (8, .bool v2.2)]) (H' := [some ⟨[.int .i64 0, .int .i64 0, .int .i64 0, .int .i64 0, .nils], 0⟩]) rfl rfl ?_
 refine RW.seq (RW.sreg (rl.run 3 rfl ?_))
 cases hb : (!v1.2.2)
 ·have h3 := iteBF h2 hb
  refine rl.run 3 rfl (rl.done ?_)
  cases hb : (!v2.2)
  ·have h4 := iteBF h3 hb
   refine RW.cond_f rfl (RW.skip (RW.sreg (rl.run 2 rfl (rl.done (RW.seq (RW.sreg (rl.run 1 rfl (rl.done ?_))))))))
   refine RW.gh (Gh.nil_t 9 1 rfl) ?_
   obtain ⟨y7, ey7, h6⟩ := bindS h4
   refine RW.cutq (σ := (List Int)) (fun y4 => [(0, .str x0), (2, .ptr 0 0), (5, .int .i64 v1.2.1), (9, .sl 1 0 y4.length)]) (fun y4 => [some ⟨[.int .i64 0, .int .i64 0, .int .i64 0, .int .i64 0, .nils], 0⟩, some ⟨fl (encI true) y4, 1⟩]) (fun y => y7 = .inr y) (fun _ _ _ _ g h => RW.gh g h) ?_ ?_
   ·refine RW.blk ?_
    refine RW.iter (σ := Int × (List Int)) ey7 (fun s3 => [(0, .str x0), (2, .ptr 0 0), (5, .int .i64 v1.2.1), (7, .str v2.1), (9, .sl 1 0 s3.2.length), (10, .int .i64 s3.1)]) (fun s3 => [some ⟨[.int .i64 0, .int .i64 0, .int .i64 0, .int .i64 0, .nils], 0⟩, some ⟨fl (encI true) s3.2, 1⟩]) (Gh.ren0 [0, 1] (.cells rfl rfl (.keep .int (.keep .int (.keep .int (.keep .int (.keep .nils .nil))))) (.same rfl (ekI.fref _ _) .nil)) rfl (.cons rfl (.dat .str) (.cons rfl (.ptr rfl) (.cons rfl (.dat .int) (.cons rfl (.dat .str) (.cons rfl (.slq rfl rfl) (.cons rfl (.dat .int) .nil))))))) (fun s3 B o hS5 hB5 hE5 => ?_)
    unfold S_impl_ReadCheck_1 at hS5
    refine RW.seq (RW.sreg (rl.run 3 rfl ?_))
    refine rl.gen rfl rfl fun b hb => ?_
    cases b
    ·have h7 := iteBF hS5 hb
     refine rl.done (RW.cond_f rfl (RW.exit (blkA_eq ?_)))
     cases h7
     exact ⟨_, (hE5 _ rfl).symm, (Gh.ren0 [0, 1] (.cells rfl rfl (.keep .int (.keep .int (.keep .int (.keep .int (.keep .nils .nil))))) (.same rfl (ekI.fref _ _) .nil)) rfl (.cons rfl (.dat .str) (.cons rfl (.ptr rfl) (.cons rfl (.dat .int) (.cons rfl (.slq rfl rfl) .nil)))))⟩
    ·have h8 := iteBT hS5 hb
     refine rl.done (RW.cond_t rfl (RW.skip (RW.blk (RW.sreg (rl.run 2 rfl ?_)))))
     obtain ⟨v5, e5, h9⟩ := bindS h8
     refine rl.call rfl rfl rfl (CallW.val (r' := .tup [.int .i64 v5.1, .int .i64 v5.2.1, .bool v5.2.2]) ok_impl_ReadVar (law_impl_ReadVar e5) (.cons .str (.cons .int .nil)) (FlL.tup (.cons .refl (.cons .refl (.cons .refl .nil)))) ?_)
     refine rl.run 7 rfl (rl.done ?_)
     refine RW.keep [0, 2, 5, 7, 9, 11, 12, 13] (a' := [(0, .str x0), (2, .ptr 0 0), (5, .int .i64 v1.2.1), (7, .str v2.1), (9, .sl 1 0 s3.2.length), (11, .int .i64 v5.1), (12, .int .i64 v5.2.1), (13, .bool v5.2.2)]) (H' := [some ⟨[.int .i64 0, .int .i64 0, .int .i64 0, .int .i64 0, .nils], 0⟩, some ⟨fl (encI true) s3.2, 1⟩]) rfl rfl ?_
     refine RW.seq (RW.sreg (rl.run 2 rfl (rl.done ?_)))
     cases hb : (!v5.2.2)
     ·have h10 := iteBF h9 hb
      refine RW.cond_f rfl (RW.skip (RW.sreg (rl.run 3 rfl ?_)))
      obtain ⟨v6, e6, h11⟩ := bindS h10
      refine rl.op (x_app rfl rfl (rapp_sl (l := s3.2) (m := [v5.1]) (o := true) ekI rfl rfl (acont_slq (m := [v5.1]) (o := true) fkI rfl rfl) rfl (fkI.fst _ _) e6)) ?_
      refine rl.run 1 rfl (rl.done (RW.reg (rl.run 2 rfl (rl.done ?_))))
      cases h11
      exact hB5 _ rfl _ _ (Gh.ren0 [0, 3] (.cells rfl rfl (.keep .int (.keep .int (.keep .int (.keep .int (.keep .nils .nil))))) (.same rfl (ekI.fref _ _) .nil)) rfl (.cons rfl (.dat .str) (.cons rfl (.ptr rfl) (.cons rfl (.dat .int) (.cons rfl (.dat .str) (.cons rfl (.slq rfl rfl) (.cons rfl (.dat .int) .nil)))))))
     ·have h12 := iteBT h9 hb
      refine RW.cond_t rfl (RW.sreg (rl.run 3 rfl (rl.done (RW.ret ?_))))
      cases h12
      have h13 := elimL h6 (hE5 _ rfl)
      cases h13
      exact RRet.mk rfl (OutT.tup (.cons (OutL.agg (.cons .int rfl (.cons .int rfl (.cons .int rfl (.cons .int rfl (.cons (OutR.nil (enc := enc_TRef)) rfl .nil)))))) (.cons .bool .nil))) (by first | decide | simp)
   ·intro y4 hC
    have h6 := elimR h6 hC
    refine RW.seq (RW.sreg (rl.run 2 rfl ?_))
    refine rl.gen rfl rfl fun b hb => ?_
    cases b
    ·have h14 := iteBF h6 hb
     refine rl.done (RW.cond_f rfl (RW.skip (RW.sdrw (rdraw.op rfl rfl ?_))))
     obtain ⟨v8, e8, h15⟩ := bindS h14
     refine rdraw.op rfl (x_ia_sl rfl rfl rfl rfl e8) ?_
     refine rdraw.op rfl (x_ld_sl (off' := 0) ekI rfl rfl e8 rfl rfl rfl) ?_
     refine rdraw.op rfl rfl ?_
     obtain ⟨v9, e9, h16⟩ := bindS h15
     refine rdraw.op rfl (x_ia_sl rfl rfl rfl rfl e9) ?_
     refine rdraw.op rfl (x_ld_sl (off' := 0) ekI rfl rfl e9 rfl rfl rfl) ?_
     refine rdraw.op rfl rfl ?_
     obtain ⟨v10, e10, h17⟩ := bindS h16
     refine rdraw.op rfl (x_ia_sl rfl rfl rfl rfl e10) ?_
     refine rdraw.op rfl (x_ld_sl (off' := 0) ekI rfl rfl e10 rfl rfl rfl) ?_
     refine rdraw.op rfl rfl ?_
     obtain ⟨v11, e11, h18⟩ := bindS h17
     refine rdraw.op rfl (x_ia_sl rfl rfl rfl rfl e11) ?_
     refine rdraw.op rfl (x_ld_sl (off' := 0) ekI rfl rfl e11 rfl rfl rfl) ?_
     refine rdraw.op rfl rfl ?_
     refine rdraw.chnB rfl rfl (.here (.rx rfl) (.here (.rx (x_ld_sl (off' := 0) ekI rfl rfl e11 rfl rfl rfl)) (.here (.rx (x_ia_sl rfl rfl rfl rfl e11)) (.here (.rx rfl) (.here (.rx (x_ld_sl (off' := 0) ekI rfl rfl e10 rfl rfl rfl)) (.here (.rx (x_ia_sl rfl rfl rfl rfl e10)) (.here (.rx rfl) (.here (.rx (x_ld_sl (off' := 0) ekI rfl rfl e9 rfl rfl rfl)) (.here (.rx (x_ia_sl rfl rfl rfl rfl e9)) (.here (.rx rfl) (.here (.rx (x_ld_sl (off' := 0) ekI rfl rfl e8 rfl rfl rfl)) (.here (.rx (x_ia_sl rfl rfl rfl rfl e8)) (.here (.rx rfl) .nil))))))))))))) ?_
     refine rdraw.chn rfl rfl ?_
     refine rdraw.done ?_
     refine RW.keep [0, 2, 5, 9, 14] (a' := [(0, .str x0), (2, .ptr 0 0), (5, .int .i64 v1.2.1), (9, .sl 1 0 y4.length), (14, .ptr 2 0)]) (H' := [some ⟨[.int .i64 0, .int .i64 0, .int .i64 0, .int .i64 0, .nils], 0⟩, some ⟨fl (encI true) y4, 1⟩, some ⟨[.int .i64 v8, .int .i64 v9, .int .i64 v10, .int .i64 v11, .nils], 0⟩]) rfl rfl ?_
     refine RW.seq (RW.sreg (rl.run 1 rfl (rl.done ?_)))
     refine RW.gh (Gh.nil_c 2 4 2 rfl rfl) ?_
     obtain ⟨y17, ey17, h20⟩ := bindS h18
     refine RW.cutq (σ := (List TRef)) (fun y13 => [(0, .str x0), (2, .ptr 0 0), (5, .int .i64 v1.2.1), (14, .ptr 1 0)]) (fun y13 => [some ⟨[.int .i64 0, .int .i64 0, .int .i64 0, .int .i64 0, .nils], 0⟩, some ⟨[.int .i64 v8, .int .i64 v9, .int .i64 v10, .int .i64 v11, .sl 2 0 y13.length], 0⟩, some ⟨fl (enc_TRef true) y13, 2⟩]) (fun y => y17 = y) (fun _ _ _ _ g h => RW.gh g h) ?_ ?_
     ·refine RW.blk ?_
      refine RW.iter (σ := Int × (List TRef)) ey17 (fun s12 => [(0, .str x0), (2, .ptr 0 0), (5, .int .i64 v1.2.1), (9, .sl 1 0 y4.length), (14, .ptr 2 0), (15, .int .i64 s12.1)]) (fun s12 => [some ⟨[.int .i64 0, .int .i64 0, .int .i64 0, .int .i64 0, .nils], 0⟩, some ⟨fl (encI true) y4, 1⟩, some ⟨[.int .i64 v8, .int .i64 v9, .int .i64 v10, .int .i64 v11, .sl 3 0 s12.2.length], 0⟩, some ⟨fl (enc_TRef true) s12.2, 2⟩]) (Gh.ren0 [0, 1, 2, 3] (.cells rfl rfl (.keep .int (.keep .int (.keep .int (.keep .int (.keep .nils .nil))))) (.same rfl (ekI.fref _ _) (.cells rfl rfl (.keep .int (.keep .int (.keep .int (.keep .int (.slq rfl rfl .nil))))) (.same rfl (ek_TRef.fref _ _) .nil)))) rfl (.cons rfl (.dat .str) (.cons rfl (.ptr rfl) (.cons rfl (.dat .int) (.cons rfl (.slq rfl rfl) (.cons rfl (.ptr rfl) (.cons rfl (.dat .int) .nil))))))) (fun s12 B o hS19 hB19 hE19 => ?_)
      unfold S_impl_ReadCheck_2 at hS19
      refine RW.seq (RW.sreg (rl.run 4 rfl ?_))
      refine rl.gen rfl rfl fun b hb => ?_
      cases b
      ·have h21 := iteBF hS19 hb
       refine rl.done (RW.cond_f rfl (RW.exit (blkA_eq ?_)))
       cases h21
       exact ⟨_, (hE19 _ rfl).symm, (Gh.ren0 [0, 2, 3] (.cells rfl rfl (.keep .int (.keep .int (.keep .int (.keep .int (.keep .nils .nil))))) (.cells rfl rfl (.keep .int (.keep .int (.keep .int (.keep .int (.slq rfl rfl .nil))))) (.same rfl (ek_TRef.fref _ _) .nil))) rfl (.cons rfl (.dat .str) (.cons rfl (.ptr rfl) (.cons rfl (.dat .int) (.cons rfl (.ptr rfl) .nil)))))⟩
      ·have h22 := iteBT hS19 hb
       refine rl.done (RW.cond_t rfl (RW.skip (RW.seq (RW.blk (RW.drw (rdraw.op rfl rfl (rdraw.op rfl rfl (rdraw.op rfl rfl (rdraw.op rfl rfl ?_)))))))))
       obtain ⟨v14, e14, h23⟩ := bindS h22
       refine rdraw.op rfl (x_ia_sl rfl rfl rfl rfl e14) ?_
       refine rdraw.op rfl (x_ld_sl (off' := 0) ekI rfl rfl e14 rfl rfl rfl) ?_
       refine rdraw.op rfl rfl (rdraw.op rfl rfl (rdraw.op rfl rfl ?_))
       obtain ⟨v15, e15, h24⟩ := bindS h23
       refine rdraw.op rfl (x_ia_sl rfl rfl rfl rfl e15) ?_
       refine rdraw.op rfl (x_ld_sl (off' := 0) ekI rfl rfl e15 rfl rfl rfl) ?_
       refine rdraw.op rfl rfl ?_
       refine rdraw.chnB rfl rfl (.skip rfl (.skip rfl (.skip rfl (.skip rfl (.skip rfl (.skip rfl (.skip rfl (.skip rfl (.skip rfl (.skip rfl (.here (.rx rfl) (.here (.rx rfl) .nil)))))))))))) ?_
       obtain ⟨v16, e16, h25⟩ := bindS h24
       refine rdraw.chn rfl (x_app rfl rfl (rapp_sl (l := s12.2) (m := [({ No := v14, Gen := v15 } : TRef)]) (o := true) ek_TRef rfl rfl (acont_slq (m := [({ No := v14, Gen := v15 } : TRef)]) (o := true) fk_TRef rfl rfl) rfl (fk_TRef.fst _ _) e16)) ?_
       refine rdraw.op rfl rfl ?_
       refine rdraw.chn rfl rfl ?_
       refine rdraw.done (RW.reg (rl.run 3 rfl (rl.done ?_)))
       cases h25
       exact hB19 _ rfl _ _ (Gh.ren0 [0, 1, 2, 5] (.cells rfl rfl (.keep .int (.keep .int (.keep .int (.keep .int (.keep .nils .nil))))) (.same rfl (ekI.fref _ _) (.cells rfl rfl (.keep .int (.keep .int (.keep .int (.keep .int (.slq rfl rfl .nil))))) (.same rfl (ek_TRef.fref _ _) .nil)))) rfl (.cons rfl (.dat .str) (.cons rfl (.ptr rfl) (.cons rfl (.dat .int) (.cons rfl (.slq rfl rfl) (.cons rfl (.ptr rfl) (.cons rfl (.dat .int) .nil)))))))
     ·intro y13 hC
      subst hC
      refine RW.seq (RW.sreg (rl.run 1 rfl ?_))
      obtain ⟨v18, e18, h26⟩ := bindS h20
      refine rl.call rfl rfl rfl (CallW.val (r' := .tup [.str v18.1, .bool v18.2]) ok_impl_CheckText (law_impl_CheckText e18) (.cons (DFL.agg (.cons .int (.cons .int (.cons .int (.cons .int (.cons (.slq ek_TRef rfl rfl) .nil)))))) .nil) (FlL.tup (.cons .refl (.cons .refl .nil))) ?_)
      refine rl.run 5 rfl (rl.done (RW.seq ?_))
      obtain ⟨y19, ey19, h27⟩ := bindS h26
      refine RW.cutq (σ := Bool) (fun y19 => [(2, .ptr 0 0), (14, .ptr 1 0), (108, .bool y19)]) (fun y19 => [some ⟨[.int .i64 0, .int .i64 0, .int .i64 0, .int .i64 0, .nils], 0⟩, some ⟨[.int .i64 v8, .int .i64 v9, .int .i64 v10, .int .i64 v11, .sl 2 0 y17.length], 0⟩, some ⟨fl (enc_TRef true) y17, 2⟩]) (fun y => y19 = y) (fun _ _ _ _ g h => RW.gh g h) ?_ ?_
      ·refine RW.reg ?_
       refine rl.run 3 rfl ?_
       cases hb : (!v18.2)
       ·have h28 := iteBF ey19 hb
        refine rl.run 3 rfl ?_
        obtain ⟨v20, e20, h29⟩ := bindS h28
        refine rl.gop rfl (x_sls rfl rfl rfl abnd_hi e20) ?_
        refine rl.gen rfl rfl fun b hb => ?_
        cases b
        ·have h30 := iteBF h29 hb
         refine rl.run 1 rfl (rl.done ?_)
         cases h30
         exact ⟨_, rfl, (Gh.ren0 [0, 1, 2] (.cells rfl rfl (.keep .int (.keep .int (.keep .int (.keep .int (.keep .nils .nil))))) (.cells rfl rfl (.keep .int (.keep .int (.keep .int (.keep .int (.slq rfl rfl .nil))))) (.same rfl (ek_TRef.fref _ _) .nil))) rfl (.cons rfl (.ptr rfl) (.cons rfl (.ptr rfl) (.cons rfl (.dat .bool) .nil))))⟩
        ·have h31 := iteBT h29 hb
         refine rl.run 1 rfl (rl.done ?_)
         cases h31
         exact ⟨_, rfl, (Gh.ren0 [0, 1, 2] (.cells rfl rfl (.keep .int (.keep .int (.keep .int (.keep .int (.keep .nils .nil))))) (.cells rfl rfl (.keep .int (.keep .int (.keep .int (.keep .int (.slq rfl rfl .nil))))) (.same rfl (ek_TRef.fref _ _) .nil))) rfl (.cons rfl (.ptr rfl) (.cons rfl (.ptr rfl) (.cons rfl (.dat .bool) .nil))))⟩
       ·have h32 := iteBT ey19 hb
        refine rl.run 6 rfl (rl.done ?_)
        cases h32
        exact ⟨_, rfl, (Gh.ren0 [0, 1, 2] (.cells rfl rfl (.keep .int (.keep .int (.keep .int (.keep .int (.keep .nils .nil))))) (.cells rfl rfl (.keep .int (.keep .int (.keep .int (.keep .int (.slq rfl rfl .nil))))) (.same rfl (ek_TRef.fref _ _) .nil))) rfl (.cons rfl (.ptr rfl) (.cons rfl (.ptr rfl) (.cons rfl (.dat .bool) .nil))))⟩
      ·intro y hC
       subst hC
       cases hb : y19
       ·have h33 := iteBF h27 hb
        refine RW.cond_f rfl (RW.skip (RW.sreg (rl.run 3 rfl (rl.done (RW.ret ?_)))))
        cases h33
        exact RRet.mk rfl (OutT.tup (.cons (OutL.agg (.cons .int rfl (.cons .int rfl (.cons .int rfl (.cons .int rfl (.cons (OutR.ownq ek_TRef rfl rfl) rfl .nil)))))) (.cons .bool .nil))) (by first | decide | simp)
       ·have h34 := iteBT h27 hb
        refine RW.cond_t rfl (RW.sreg (rl.run 3 rfl (rl.done (RW.ret ?_))))
        cases h34
        exact RRet.mk rfl (OutT.tup (.cons (OutL.agg (.cons .int rfl (.cons .int rfl (.cons .int rfl (.cons .int rfl (.cons (OutR.nil (enc := enc_TRef)) rfl .nil)))))) (.cons .bool .nil))) (by first | decide | simp)
    ·have h35 := iteBT h6 hb
     refine rl.done (RW.cond_t rfl (RW.sreg (rl.run 3 rfl (rl.done (RW.ret ?_)))))
     cases h35
     exact RRet.mk rfl (OutT.tup (.cons (OutL.agg (.cons .int rfl (.cons .int rfl (.cons .int rfl (.cons .int rfl (.cons (OutR.nil (enc := enc_TRef)) rfl .nil)))))) (.cons .bool .nil))) (by first | decide | simp)
  ·have h36 := iteBT h3 hb
   refine RW.cond_t rfl (RW.sreg (rl.run 3 rfl (rl.done ?_)))
   refine RW.keep [2, 3] (a' := [(2, .ptr 0 0), (3, .bool false)]) (H' := [some ⟨[.int .i64 0, .int .i64 0, .int .i64 0, .int .i64 0, .nils], 0⟩]) rfl rfl ?_
   refine RW.ret ?_
   cases h36
   exact RRet.mk rfl (OutT.tup (.cons (OutL.agg (.cons .int rfl (.cons .int rfl (.cons .int rfl (.cons .int rfl (.cons (OutR.nil (enc := enc_TRef)) rfl .nil)))))) (.cons .bool .nil))) (by first | decide | simp)
 ·have h37 := iteBT h2 hb
  refine rl.run 3 rfl (rl.done (RW.cond_t rfl (RW.sreg (rl.run 3 rfl (rl.done ?_)))))
  refine RW.keep [2, 3] (a' := [(2, .ptr 0 0), (3, .bool false)]) (H' := [some ⟨[.int .i64 0, .int .i64 0, .int .i64 0, .int .i64 0, .nils], 0⟩]) rfl rfl ?_
  refine RW.ret ?_
  cases h37
  exact RRet.mk rfl (OutT.tup (.cons (OutL.agg (.cons .int rfl (.cons .int rfl (.cons .int rfl (.cons .int rfl (.cons (OutR.nil (enc := enc_TRef)) rfl .nil)))))) (.cons .bool .nil))) (by first | decide | simp)
theorem law_impl_NewestCheck {x0 : TDisk} {r : TCheck × Bool} (hF : F_impl_NewestCheck x0 = some r) : PCalls Try.prog 43 [.agg (enc_TDisk false x0)] (.tup [.agg (enc_TCheck true r.1), .bool r.2]) := by
 refine PCalls.of_r k_impl_NewestCheck rfl ?_
 unfold F_impl_NewestCheck at hF
 refine RW.sreg (rl.run 3 rfl (rl.done (RW.sreg (rl.run 4 rfl (rl.done (RW.seq (RW.sreg (rl.run 3 rfl (rl.done ?_)))))))))
 refine RW.gh (Gh.nil_c 2 4 2 rfl rfl) ?_
 obtain ⟨y7, ey7, h2⟩ := bindS hF
 refine RW.cutq (σ := Bool × Int × Int × Int × Int × (List TRef)) (fun y2 => [(2, .ptr 0 0), (4, .ptr 1 0), (5, .bool y2.1)]) (fun y2 => [some ⟨[.int .i64 0, .int .i64 0, .int .i64 0, .int .i64 0, .nils], 0⟩, some ⟨[.int .i64 y2.2.1, .int .i64 y2.2.2.1, .int .i64 y2.2.2.2.1, .int .i64 y2.2.2.2.2.1, .sl 2 0 y2.2.2.2.2.2.length], 0⟩, some ⟨fl (enc_TRef true) y2.2.2.2.2.2, 2⟩]) (fun y => y7 = y) (fun _ _ _ _ g h => RW.gh g h) ?_ ?_
 ·refine RW.blk ?_
  refine RW.iter (σ := Bool × Int × Int × Int × Int × Int × (List TRef)) ey7 (fun s1 => [(1, .ptr 0 0), (2, .ptr 1 0), (4, .ptr 2 0), (5, .bool s1.1), (13, .sl 3 0 ([0, 4] : List Int).length), (14, .int .i64 (([0, 4] : List Int).length : Int)), (15, .int .i64 s1.2.1)]) (fun s1 => [some ⟨[.lst false 1 (fl (encS false) x0.Sectors) x0.Sectors.length, .lst false 2 (fl (enc_TWrite false) x0.Cache) x0.Cache.length], 0⟩, some ⟨[.int .i64 0, .int .i64 0, .int .i64 0, .int .i64 0, .nils], 0⟩, some ⟨[.int .i64 s1.2.2.1, .int .i64 s1.2.2.2.1, .int .i64 s1.2.2.2.2.1, .int .i64 s1.2.2.2.2.2.1, .sl 4 0 s1.2.2.2.2.2.2.length], 0⟩, some ⟨fl (encI true) ([0, 4] : List Int), 1⟩, some ⟨fl (enc_TRef true) s1.2.2.2.2.2.2, 2⟩]) (Gh.ren0 [0, 1, 2, 3, 4] (.cells rfl rfl (.keep (ekS.rlst) (.keep (ek_TWrite.rlst) .nil)) (.cells rfl rfl (.keep .int (.keep .int (.keep .int (.keep .int (.keep .nils .nil))))) (.cells rfl rfl (.keep .int (.keep .int (.keep .int (.keep .int (.slq rfl rfl .nil))))) (.same rfl (ekI.fref _ _) (.same rfl (ek_TRef.fref _ _) .nil))))) rfl (.cons rfl (.ptr rfl) (.cons rfl (.ptr rfl) (.cons rfl (.ptr rfl) (.cons rfl (.dat .bool) (.cons rfl (.slq rfl rfl) (.cons rfl (.dat .int) (.cons rfl (.dat .int) .nil)))))))) (fun s1 B o hS1 hB1 hE1 => ?_)
  unfold S_impl_NewestCheck_1 at hS1
  refine RW.sreg ?_
  refine rl.gen rfl rfl fun b hb => ?_
  cases b
  ·have h3 := iteBF hS1 hb
   refine rl.done (RW.seq (RW.cond_f rfl (RW.exit (blkA_eq ?_))))
   cases h3
   exact ⟨_, (hE1 _ rfl).symm, (Gh.ren0 [1, 2, 4] (.cells rfl rfl (.keep .int (.keep .int (.keep .int (.keep .int (.keep .nils .nil))))) (.cells rfl rfl (.keep .int (.keep .int (.keep .int (.keep .int (.slq rfl rfl .nil))))) (.same rfl (ek_TRef.fref _ _) .nil))) rfl (.cons rfl (.ptr rfl) (.cons rfl (.ptr rfl) (.cons rfl (.dat .bool) .nil))))⟩
  ·have h4 := iteBT hS1 hb
   refine rl.done (RW.seq (RW.cond_t rfl (RW.skip (RW.seq (RW.blk (RW.sreg ?_))))))
   obtain ⟨v3, e3, h5⟩ := bindS h4
   refine rl.op (x_ia_sl rfl rfl rfl rfl e3) ?_
   refine rl.op (x_ld_sl (off' := 0) ekI rfl rfl e3 rfl rfl rfl) ?_
   refine rl.run 1 rfl (rl.done (RW.sreg (rl.run 2 rfl ?_)))
   obtain ⟨v4, e4, h6⟩ := bindS h5
   refine rl.call rfl rfl rfl (CallW.val (r' := .tup [.str v4.1, .bool v4.2]) ok_impl_SectorText (law_impl_SectorText e4) (.cons (DFL.agg (.cons (.lst ekS) (.cons (.lst ek_TWrite) .nil))) (.cons .int (.cons .int .nil))) (FlL.tup (.cons .refl (.cons .refl .nil))) ?_)
   refine rl.run 5 rfl (rl.done ?_)
   refine RW.keep [1, 2, 4, 5, 8, 13, 14, 15] (a' := [(1, .ptr 0 0), (2, .ptr 1 0), (4, .ptr 2 0), (5, .bool s1.1), (8, .str v4.1), (13, .sl 3 0 ([0, 4] : List Int).length), (14, .int .i64 (([0, 4] : List Int).length : Int)), (15, .int .i64 s1.2.1)]) (H' := [some ⟨[.lst false 1 (fl (encS false) x0.Sectors) x0.Sectors.length, .lst false 2 (fl (enc_TWrite false) x0.Cache) x0.Cache.length], 0⟩, some ⟨[.int .i64 0, .int .i64 0, .int .i64 0, .int .i64 0, .nils], 0⟩, some ⟨[.int .i64 s1.2.2.1, .int .i64 s1.2.2.2.1, .int .i64 s1.2.2.2.2.1, .int .i64 s1.2.2.2.2.2.1, .sl 4 0 s1.2.2.2.2.2.2.length], 0⟩, some ⟨fl (encI true) ([0, 4] : List Int), 1⟩, some ⟨fl (enc_TRef true) s1.2.2.2.2.2.2, 2⟩]) rfl rfl ?_
   refine RW.sreg (rl.run 1 rfl ?_)
   obtain ⟨v5, e5, h7⟩ := bindS h6
   refine rl.call rfl rfl rfl (CallW.own (r' := .tup [.agg [.int .i64 v5.1.Stamp, .int .i64 v5.1.NextGen, .int .i64 v5.1.NextSeq, .int .i64 v5.1.NextValid, .sl 5 0 v5.1.Refs.length], .bool v5.2]) (H' := [some ⟨[.lst false 1 (fl (encS false) x0.Sectors) x0.Sectors.length, .lst false 2 (fl (enc_TWrite false) x0.Cache) x0.Cache.length], 0⟩, some ⟨[.int .i64 0, .int .i64 0, .int .i64 0, .int .i64 0, .nils], 0⟩, some ⟨[.int .i64 s1.2.2.1, .int .i64 s1.2.2.2.1, .int .i64 s1.2.2.2.2.1, .int .i64 s1.2.2.2.2.2.1, .sl 4 0 s1.2.2.2.2.2.2.length], 0⟩, some ⟨fl (encI true) ([0, 4] : List Int), 1⟩, some ⟨fl (enc_TRef true) s1.2.2.2.2.2.2, 2⟩, some ⟨fl (enc_TRef true) v5.1.Refs, 2⟩]) ok_impl_ReadCheck (law_impl_ReadCheck e5) (.cons .str .nil) (fac (ek_TCheck.own _) (fac .bool fan)) rfl ?_)
   refine rl.run 6 rfl (rl.done (RW.seq ?_))
   obtain ⟨y6, ey6, h8⟩ := bindS h7
   refine RW.cutq (σ := Bool) (fun y6 => [(1, .ptr 0 0), (2, .ptr 1 0), (4, .ptr 2 0), (5, .bool s1.1), (10, .ptr 3 0), (13, .sl 4 0 ([0, 4] : List Int).length), (14, .int .i64 (([0, 4] : List Int).length : Int)), (15, .int .i64 s1.2.1), (41, .bool y6)]) (fun y6 => [some ⟨[.lst false 1 (fl (encS false) x0.Sectors) x0.Sectors.length, .lst false 2 (fl (enc_TWrite false) x0.Cache) x0.Cache.length], 0⟩, some ⟨[.int .i64 0, .int .i64 0, .int .i64 0, .int .i64 0, .nils], 0⟩, some ⟨[.int .i64 s1.2.2.1, .int .i64 s1.2.2.2.1, .int .i64 s1.2.2.2.2.1, .int .i64 s1.2.2.2.2.2.1, .sl 5 0 s1.2.2.2.2.2.2.length], 0⟩, some ⟨[.int .i64 v5.1.Stamp, .int .i64 v5.1.NextGen, .int .i64 v5.1.NextSeq, .int .i64 v5.1.NextValid, .sl 6 0 v5.1.Refs.length], 0⟩, some ⟨fl (encI true) ([0, 4] : List Int), 1⟩, some ⟨fl (enc_TRef true) s1.2.2.2.2.2.2, 2⟩, some ⟨fl (enc_TRef true) v5.1.Refs, 2⟩]) (fun y => y6 = y) (fun _ _ _ _ g h => RW.gh g h) ?_ ?_
   ·refine RW.reg ?_
    refine rl.run 2 rfl ?_
    cases hb : v5.2
    ·have h9 := iteBF ey6 hb
     refine rl.run 10 rfl (rl.done ?_)
     cases h9
     exact ⟨_, rfl, (Gh.ren0 [0, 1, 2, 6, 3, 4, 5] (.cells rfl rfl (.keep (ekS.rlst) (.keep (ek_TWrite.rlst) .nil)) (.cells rfl rfl (.keep .int (.keep .int (.keep .int (.keep .int (.keep .nils .nil))))) (.cells rfl rfl (.keep .int (.keep .int (.keep .int (.keep .int (.slq rfl rfl .nil))))) (.cells rfl rfl (.keep .int (.keep .int (.keep .int (.keep .int (.slq rfl rfl .nil))))) (.same rfl (ekI.fref _ _) (.same rfl (ek_TRef.fref _ _) (.same rfl (ek_TRef.fref _ _) .nil))))))) rfl (.cons rfl (.ptr rfl) (.cons rfl (.ptr rfl) (.cons rfl (.ptr rfl) (.cons rfl (.dat .bool) (.cons rfl (.ptr rfl) (.cons rfl (.slq rfl rfl) (.cons rfl (.dat .int) (.cons rfl (.dat .int) (.cons rfl (.dat .bool) .nil))))))))))⟩
    ·have h10 := iteBT ey6 hb
     refine rl.run 3 rfl ?_
     cases hb : (!s1.1)
     ·have h11 := iteBF h10 hb
      refine rl.run 4 rfl ?_
      refine rl.gen rfl rfl fun b hb => ?_
      cases b
      ·have h12 := iteBF h11 hb
       refine rl.run 2 rfl (rl.done ?_)
       cases h12
       exact ⟨_, rfl, (Gh.ren0 [0, 1, 2, 6, 3, 4, 5] (.cells rfl rfl (.keep (ekS.rlst) (.keep (ek_TWrite.rlst) .nil)) (.cells rfl rfl (.keep .int (.keep .int (.keep .int (.keep .int (.keep .nils .nil))))) (.cells rfl rfl (.keep .int (.keep .int (.keep .int (.keep .int (.slq rfl rfl .nil))))) (.cells rfl rfl (.keep .int (.keep .int (.keep .int (.keep .int (.slq rfl rfl .nil))))) (.same rfl (ekI.fref _ _) (.same rfl (ek_TRef.fref _ _) (.same rfl (ek_TRef.fref _ _) .nil))))))) rfl (.cons rfl (.ptr rfl) (.cons rfl (.ptr rfl) (.cons rfl (.ptr rfl) (.cons rfl (.dat .bool) (.cons rfl (.ptr rfl) (.cons rfl (.slq rfl rfl) (.cons rfl (.dat .int) (.cons rfl (.dat .int) (.cons rfl (.dat .bool) .nil))))))))))⟩
      ·have h13 := iteBT h11 hb
       refine rl.run 2 rfl (rl.done ?_)
       cases h13
       exact ⟨_, rfl, (Gh.ren0 [0, 1, 2, 6, 3, 4, 5] (.cells rfl rfl (.keep (ekS.rlst) (.keep (ek_TWrite.rlst) .nil)) (.cells rfl rfl (.keep .int (.keep .int (.keep .int (.keep .int (.keep .nils .nil))))) (.cells rfl rfl (.keep .int (.keep .int (.keep .int (.keep .int (.slq rfl rfl .nil))))) (.cells rfl rfl (.keep .int (.keep .int (.keep .int (.keep .int (.slq rfl rfl .nil))))) (.same rfl (ekI.fref _ _) (.same rfl (ek_TRef.fref _ _) (.same rfl (ek_TRef.fref _ _) .nil))))))) rfl (.cons rfl (.ptr rfl) (.cons rfl (.ptr rfl) (.cons rfl (.ptr rfl) (.cons rfl (.dat .bool) (.cons rfl (.ptr rfl) (.cons rfl (.slq rfl rfl) (.cons rfl (.dat .int) (.cons rfl (.dat .int) (.cons rfl (.dat .bool) .nil))))))))))⟩
     ·have h14 := iteBT h10 hb
      refine rl.run 7 rfl (rl.done ?_)
      cases h14
      exact ⟨_, rfl, (Gh.ren0 [0, 1, 2, 6, 3, 4, 5] (.cells rfl rfl (.keep (ekS.rlst) (.keep (ek_TWrite.rlst) .nil)) (.cells rfl rfl (.keep .int (.keep .int (.keep .int (.keep .int (.keep .nils .nil))))) (.cells rfl rfl (.keep .int (.keep .int (.keep .int (.keep .int (.slq rfl rfl .nil))))) (.cells rfl rfl (.keep .int (.keep .int (.keep .int (.keep .int (.slq rfl rfl .nil))))) (.same rfl (ekI.fref _ _) (.same rfl (ek_TRef.fref _ _) (.same rfl (ek_TRef.fref _ _) .nil))))))) rfl (.cons rfl (.ptr rfl) (.cons rfl (.ptr rfl) (.cons rfl (.ptr rfl) (.cons rfl (.dat .bool) (.cons rfl (.ptr rfl) (.cons rfl (.slq rfl rfl) (.cons rfl (.dat .int) (.cons rfl (.dat .int) (.cons rfl (.dat .bool) .nil))))))))))⟩
   ·intro y hC
    subst hC
    cases hb : y6
    ·have h15 := iteBF h8 hb
     refine RW.cond_f rfl (RW.skip (RW.reg (rl.run 2 rfl (rl.done ?_))))
     cases h15
     exact hB1 _ rfl _ _ (Gh.ren0 [0, 1, 2, 4, 5] (.cells rfl rfl (.keep (ekS.rlst) (.keep (ek_TWrite.rlst) .nil)) (.cells rfl rfl (.keep .int (.keep .int (.keep .int (.keep .int (.keep .nils .nil))))) (.cells rfl rfl (.keep .int (.keep .int (.keep .int (.keep .int (.slq rfl rfl .nil))))) (.same rfl (ekI.fref _ _) (.same rfl (ek_TRef.fref _ _) .nil))))) rfl (.cons rfl (.ptr rfl) (.cons rfl (.ptr rfl) (.cons rfl (.ptr rfl) (.cons rfl (.dat .bool) (.cons rfl (.slq rfl rfl) (.cons rfl (.dat .int) (.cons rfl (.dat .int) .nil))))))))
    ·have h16 := iteBT h8 hb
     refine RW.cond_t rfl (RW.reg (rl.run 3 rfl (rl.done (RW.reg (rl.run 2 rfl (rl.done ?_))))))
     cases h16
     exact hB1 _ rfl _ _ (Gh.ren0 [0, 1, 2, 4, 6] (.cells rfl rfl (.keep (ekS.rlst) (.keep (ek_TWrite.rlst) .nil)) (.cells rfl rfl (.keep .int (.keep .int (.keep .int (.keep .int (.keep .nils .nil))))) (.cells rfl rfl (.keep .int (.keep .int (.keep .int (.keep .int (.slq rfl rfl .nil))))) (.same rfl (ekI.fref _ _) (.same rfl (ek_TRef.fref _ _) .nil))))) rfl (.cons rfl (.ptr rfl) (.cons rfl (.ptr rfl) (.cons rfl (.ptr rfl) (.cons rfl (.dat .bool) (.cons rfl (.slq rfl rfl) (.cons rfl (.dat .int) (.cons rfl (.dat .int) .nil))))))))
 ·intro y2 hC
  subst hC
  refine RW.sreg (rl.run 4 rfl (rl.done (RW.ret ?_)))
  cases h2
  exact RRet.mk rfl (OutT.tup (.cons (OutL.agg (.cons .int rfl (.cons .int rfl (.cons .int rfl (.cons .int rfl (.cons (OutR.ownq ek_TRef rfl rfl) rfl .nil)))))) (.cons .bool .nil))) (by first | decide | simp)
end Go.Proofs.Ytgdcbjoaoagbpaa.V
