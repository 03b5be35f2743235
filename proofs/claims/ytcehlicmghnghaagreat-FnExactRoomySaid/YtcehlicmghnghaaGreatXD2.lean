/- What a call comes to. -/
import Derived.Test.YtcehlicmghnghaaGreatXD1
namespace Go.Proofs.YtcehlicmghnghaaGreat.V
open Go Go.Proofs Go.RowKit
set_option maxRecDepth 100000
theorem law_impl_FrameOk {x0 : TFrame} {r : Bool} (hF : F_impl_FrameOk x0 = some r) : PCalls Tryz.prog 133 [.agg (enc_TFrame false x0)] (.bool r) := by
 refine PCalls.of_r k_impl_FrameOk rfl ?_
 unfold F_impl_FrameOk at hF
 refine RW.sreg (rl.run 2 rfl (rl.done (RW.seq ?_)))
 obtain ⟨y1, ey1, h1⟩ := bindS hF
 refine RW.cutq (σ := Bool) (fun y1 => [(2, .bool y1)]) (fun y1 => []) (fun y => y1 = y) (fun _ _ _ _ g h => RW.gh g h) ?_ ?_
 ·refine RW.reg ?_
  refine rl.run 2 rfl ?_
  obtain ⟨v2, e2, h2⟩ := bindS ey1
  refine rl.call rfl rfl rfl (CallW.val (r' := .bool v2) ok_impl_in (law_impl_in e2) (.cons .int (.cons .int (.cons .int .nil))) .refl ?_)
  cases hb : v2
  ·have h3 := iteBF h2 hb
   refine rl.run 12 rfl (rl.done ?_)
   cases h3
   exact ⟨_, rfl, (Gh.ren0 [] .nil rfl (.cons rfl (.dat .bool) .nil))⟩
  ·have h4 := iteBT h2 hb
   refine rl.run 3 rfl ?_
   obtain ⟨v3, e3, h5⟩ := bindS h4
   refine rl.call rfl rfl rfl (CallW.val (r' := .bool v3) ok_impl_in (law_impl_in e3) (.cons .int (.cons .int (.cons .int .nil))) .refl ?_)
   cases hb : v3
   ·have h6 := iteBF h5 hb
    refine rl.run 8 rfl (rl.done ?_)
    cases h6
    exact ⟨_, rfl, (Gh.ren0 [] .nil rfl (.cons rfl (.dat .bool) .nil))⟩
   ·have h7 := iteBT h5 hb
    refine rl.run 5 rfl ?_
    obtain ⟨v4, e4, h8⟩ := bindS h7
    refine rl.call rfl rfl rfl (CallW.val (r' := .bool v4) ok_impl_in (law_impl_in e4) (.cons .int (.cons .int (.cons .int .nil))) .refl ?_)
    refine rl.run 2 rfl (rl.done ?_)
    cases h8
    exact ⟨_, rfl, (Gh.ren0 [] .nil rfl (.cons rfl (.dat .bool) .nil))⟩
 ·intro y hC
  subst hC
  refine RW.ret ?_
  cases h1
  exact RRet.mk rfl .bool (by first | decide | simp)
theorem law_impl_varText {x0 : Int} {r : List UInt8} (hF : F_impl_varText x0 = some r) : PCalls Tryz.prog 135 [.j x0] (.str r) := by
 refine PCalls.of_r k_impl_varText rfl ?_
 unfold F_impl_varText at hF
 refine RW.sreg (rl.run 1 rfl (rl.done (RW.sreg (rl.run 2 rfl (rl.done (RW.seq ?_))))))
 refine RW.gh (Gh.nil_t 3 1 rfl) ?_
 obtain ⟨y4, ey4, h2⟩ := bindS hF
 refine RW.cutq (σ := Int × (List Int)) (fun y2 => [(0, .j y2.1), (3, .sl 0 0 y2.2.length)]) (fun y2 => [some ⟨fl (encB true) y2.2, 1⟩]) (fun y => y4 = y) (fun _ _ _ _ g h => RW.gh g h) ?_ ?_
 ·refine RW.blk ?_
  refine RW.iter (σ := Int × (List Int)) ey4 (fun s1 => [(0, .j s1.1), (3, .sl 0 0 s1.2.length)]) (fun s1 => [some ⟨fl (encB true) s1.2, 1⟩]) (Gh.ren0 [0] (.same rfl (ekB.fref _ _) .nil) rfl (.cons rfl (.dat .int) (.cons rfl (.slq rfl rfl) .nil))) (fun s1 B o hS1 hB1 hE1 => ?_)
  unfold S_impl_varText_1 at hS1
  refine RW.seq (RW.sreg (rl.run 1 rfl ?_))
  refine rl.gen rfl rfl fun b hb => ?_
  cases b
  ·have h3 := iteBF hS1 hb
   refine rl.done (RW.cond_f rfl (RW.exit (blkA_eq ?_)))
   cases h3
   exact ⟨_, (hE1 _ rfl).symm, (Gh.ren0 [0] (.same rfl (ekB.fref _ _) .nil) rfl (.cons rfl (.dat .int) (.cons rfl (.slq rfl rfl) .nil)))⟩
  ·have h4 := iteBT hS1 hb
   refine rl.done (RW.cond_t rfl (RW.skip (RW.blk (RW.sreg (rl.run 6 rfl ?_)))))
   obtain ⟨v3, e3, h5⟩ := bindS h4
   refine rl.op (x_app rfl rfl (rapp_sl (l := s1.2) (m := [IntKind.u8.wrap (orv .i64 (andv .i64 s1.1 127) 128)]) (o := true) ekB rfl rfl (acont_slq (m := [IntKind.u8.wrap (orv .i64 (andv .i64 s1.1 127) 128)]) (o := true) fkB rfl rfl) rfl (fkB.fst _ _) e3)) ?_
   refine rl.run 1 rfl (rl.done (RW.reg (rl.run 3 rfl (rl.done ?_))))
   cases h5
   exact hB1 _ rfl _ _ (Gh.ren0 [2] (.same rfl (ekB.fref _ _) .nil) rfl (.cons rfl (.dat .int) (.cons rfl (.slq rfl rfl) .nil)))
 ·intro y2 hC
  subst hC
  refine RW.sreg (rl.run 4 rfl ?_)
  obtain ⟨v5, e5, h6⟩ := bindS h2
  refine rl.op (x_app rfl rfl (rapp_sl (l := y4.2) (m := [IntKind.u8.wrap y4.1]) (o := true) ekB rfl rfl (acont_slq (m := [IntKind.u8.wrap y4.1]) (o := true) fkB rfl rfl) rfl (fkB.fst _ _) e5)) ?_
  refine rl.op (x_cvb_sl (o := true) (l := v5) rfl rfl) ?_
  refine rl.run 1 rfl (rl.done (RW.ret ?_))
  cases h6
  exact RRet.mk rfl .str (by first | decide | simp)
set_option maxHeartbeats 2000000 in
theorem law_impl_RecText {x0 : TRec} {r : (List UInt8) × Bool} (hF : F_impl_RecText x0 = some r) : PCalls Tryz.prog 178 [.agg (enc_TRec false x0)] (.tup [.str r.1, .bool r.2]) := by
 refine PCalls.of_r k_impl_RecText rfl ?_
 unfold F_impl_RecText at hF
 refine RW.sreg (rl.run 3 rfl (rl.done (RW.seq (RW.sreg (rl.run 1 rfl ?_)))))
 obtain ⟨v1, e1, h1⟩ := bindS hF
 refine rl.call rfl rfl rfl (CallW.val (r' := .bool v1) ok_impl_RecOk (law_impl_RecOk e1) (.cons (DFL.agg (.cons .int (.cons .int (.cons .int (.cons .int (.cons .int (.cons .str (.cons .str (.cons .str .nil))))))))) .nil) .refl ?_)
 cases hb : v1
 ·have h2 := iteBF h1 hb
  refine rl.run 1 rfl (rl.done (RW.cond_t rfl (RW.sreg (rl.run 2 rfl (rl.done (RW.ret ?_))))))
  cases h2
  exact RRet.mk rfl (OutT.tup (.cons .str (.cons .bool .nil))) (by first | decide | simp)
 ·have h3 := iteBT h1 hb
  refine rl.run 1 rfl (rl.done (RW.cond_f rfl (RW.skip (RW.sreg (rl.run 4 rfl ?_)))))
  refine rl.op (x_cvb_sl (o := true) (l := [IntKind.u8.wrap x0.Kind]) rfl rfl) ?_
  refine rl.run 1 rfl (rl.done ?_)
  refine RW.kp [1, 4] [(1, .ptr 0 0), (4, .str ([IntKind.u8.wrap x0.Kind].map ofI))] [some ⟨[.j x0.Kind, .j x0.Valid, .j x0.Uid, .j x0.Next, .j x0.Flags, .str x0.User, .str x0.Name, .str x0.Text], 0⟩, some ⟨fl (encB true) [IntKind.u8.wrap x0.Kind], 1⟩] rfl rfl ?_
  refine RW.seq (RW.sreg (rl.run 11 rfl (rl.done ?_)))
  obtain ⟨y7, ey7, h5⟩ := bindS h3
  refine RW.cutq (σ := (List UInt8)) (fun y3 => [(1, .ptr 0 0), (4, .str y3)]) (fun y3 => [some ⟨[.j x0.Kind, .j x0.Valid, .j x0.Uid, .j x0.Next, .j x0.Flags, .str x0.User, .str x0.Name, .str x0.Text], 0⟩]) (fun y => y7 = y) (fun _ _ _ _ g h => RW.gh g h) ?_ ?_
  ·refine RW.blk ?_
   refine RW.iter (σ := (List UInt8) × Int) ey7 (fun s2 => [(1, .ptr 0 0), (4, .str s2.1), (25, .sl 1 0 [x0.Valid, x0.Uid, x0.Next, x0.Flags].length), (26, .j ([x0.Valid, x0.Uid, x0.Next, x0.Flags].length : Int)), (27, .j s2.2)]) (fun s2 => [some ⟨[.j x0.Kind, .j x0.Valid, .j x0.Uid, .j x0.Next, .j x0.Flags, .str x0.User, .str x0.Name, .str x0.Text], 0⟩, some ⟨fl (encI true) [x0.Valid, x0.Uid, x0.Next, x0.Flags], 1⟩]) (Gh.ren0 [0, 2] (.cells rfl rfl (.keep .int (.keep .int (.keep .int (.keep .int (.keep .int (.keep .str (.keep .str (.keep .str .nil)))))))) (.same rfl (ekI.fref _ _) .nil)) rfl (.cons rfl (.ptr rfl) (.cons rfl (.dat .str) (.cons rfl (.slq rfl rfl) (.cons rfl (.dat .int) (.cons rfl (.dat .int) .nil)))))) (fun s2 B o hS4 hB4 hE4 => ?_)
   unfold S_impl_RecText_1 at hS4
   refine RW.sreg ?_
   refine rl.gen rfl rfl fun b hb => ?_
   cases b
   ·have h6 := iteBF hS4 hb
    refine rl.done (RW.seq (RW.cond_f rfl (RW.exit (blkA_eq ?_))))
    cases h6
    exact ⟨_, (hE4 _ rfl).symm, (Gh.ren0 [0] (.cells rfl rfl (.keep .int (.keep .int (.keep .int (.keep .int (.keep .int (.keep .str (.keep .str (.keep .str .nil)))))))) .nil) rfl (.cons rfl (.ptr rfl) (.cons rfl (.dat .str) .nil)))⟩
   ·have h7 := iteBT hS4 hb
    refine rl.done (RW.seq (RW.cond_t rfl (RW.skip (RW.seq (RW.blk (RW.sreg ?_))))))
    obtain ⟨v4, e4, h8⟩ := bindS h7
    refine rl.op (x_ia_sl rfl rfl rfl rfl e4) ?_
    refine rl.op (x_ld_sl (off' := 0) ekI rfl rfl e4 rfl rfl rfl) ?_
    refine rl.run 1 rfl (rl.done (RW.reg (rl.run 2 rfl ?_)))
    obtain ⟨v5, e5, h9⟩ := bindS h8
    refine rl.call rfl rfl rfl (CallW.val (r' := .str v5) ok_impl_varText (law_impl_varText e5) (.cons .int .nil) .refl ?_)
    obtain ⟨v6, e6, h10⟩ := bindS h9
    refine rl.op (x_cat rfl rfl e6) ?_
    refine rl.run 1 rfl (rl.done (RW.reg (rl.run 2 rfl (rl.done ?_))))
    cases h10
    exact hB4 _ rfl _ _ (Gh.ren0 [0, 1] (.cells rfl rfl (.keep .int (.keep .int (.keep .int (.keep .int (.keep .int (.keep .str (.keep .str (.keep .str .nil)))))))) (.same rfl (ekI.fref _ _) .nil)) rfl (.cons rfl (.ptr rfl) (.cons rfl (.dat .str) (.cons rfl (.slq rfl rfl) (.cons rfl (.dat .int) (.cons rfl (.dat .int) .nil))))))
  ·intro y3 hC
   subst hC
   refine RW.seq (RW.sreg (rl.run 9 rfl (rl.done ?_)))
   obtain ⟨y14, ey14, h12⟩ := bindS h5
   refine RW.cutq (σ := (List UInt8)) (fun y9 => [(4, .str y9)]) (fun y9 => []) (fun y => y14 = y) (fun _ _ _ _ g h => RW.gh g h) ?_ ?_
   ·refine RW.blk ?_
    refine RW.iter (σ := (List UInt8) × Int) ey14 (fun s8 => [(4, .str s8.1), (42, .sl 0 0 [x0.User, x0.Name, x0.Text].length), (43, .j ([x0.User, x0.Name, x0.Text].length : Int)), (44, .j s8.2)]) (fun s8 => [some ⟨fl (encS true) [x0.User, x0.Name, x0.Text], 1⟩]) (Gh.ren0 [1] (.same rfl (ekS.fref _ _) .nil) rfl (.cons rfl (.dat .str) (.cons rfl (.slq rfl rfl) (.cons rfl (.dat .int) (.cons rfl (.dat .int) .nil))))) (fun s8 B o hS11 hB11 hE11 => ?_)
    unfold S_impl_RecText_2 at hS11
    refine RW.sreg ?_
    refine rl.gen rfl rfl fun b hb => ?_
    cases b
    ·have h13 := iteBF hS11 hb
     refine rl.done (RW.seq (RW.cond_f rfl (RW.exit (blkA_eq ?_))))
     cases h13
     exact ⟨_, (hE11 _ rfl).symm, (Gh.ren0 [] .nil rfl (.cons rfl (.dat .str) .nil))⟩
    ·have h14 := iteBT hS11 hb
     refine rl.done (RW.seq (RW.cond_t rfl (RW.skip (RW.seq (RW.blk (RW.sreg ?_))))))
     obtain ⟨v10, e10, h15⟩ := bindS h14
     refine rl.op (x_ia_sl rfl rfl rfl rfl e10) ?_
     refine rl.op (x_ld_sl (off' := 0) ekS rfl rfl e10 rfl rfl rfl) ?_
     refine rl.run 1 rfl (rl.done (RW.reg (rl.run 3 rfl ?_)))
     obtain ⟨v11, e11, h16⟩ := bindS h15
     refine rl.call rfl rfl rfl (CallW.val (r' := .str v11) ok_impl_varText (law_impl_varText e11) (.cons .int .nil) .refl ?_)
     refine rl.run 1 rfl ?_
     obtain ⟨v12, e12, h17⟩ := bindS h16
     refine rl.op (x_cat rfl rfl e12) ?_
     obtain ⟨v13, e13, h18⟩ := bindS h17
     refine rl.op (x_cat rfl rfl e13) ?_
     refine rl.run 1 rfl (rl.done (RW.reg (rl.run 2 rfl (rl.done ?_))))
     cases h18
     exact hB11 _ rfl _ _ (Gh.ren0 [0] (.same rfl (ekS.fref _ _) .nil) rfl (.cons rfl (.dat .str) (.cons rfl (.slq rfl rfl) (.cons rfl (.dat .int) (.cons rfl (.dat .int) .nil)))))
   ·intro y9 hC
    subst hC
    refine RW.sreg (rl.run 3 rfl (rl.done (RW.ret ?_)))
    cases h12
    exact RRet.mk rfl (OutT.tup (.cons .str (.cons .bool .nil))) (by first | decide | simp)
theorem law_impl_ItemFrame {x0 : TItem} {x1 : Int} {r : TFrame × Bool} (hF : F_impl_ItemFrame x0 x1 = some r) : PCalls Tryz.prog 114 [.agg (enc_TItem false x0), .j x1] (.tup [.agg (enc_TFrame true r.1), .bool r.2]) := by
 refine PCalls.of_r k_impl_ItemFrame rfl ?_
 unfold F_impl_ItemFrame at hF
 refine RW.sreg (rl.run 3 rfl (rl.done (RW.sreg (rl.run 2 rfl ?_))))
 obtain ⟨v1, e1, h1⟩ := bindS hF
 refine rl.call rfl rfl rfl (CallW.val (r' := .tup [.str v1.1, .bool v1.2]) ok_impl_RecText (law_impl_RecText e1) (.cons (DFL.agg (.cons .int (.cons .int (.cons .int (.cons .int (.cons .int (.cons .str (.cons .str (.cons .str .nil))))))))) .nil) (FlL.tup (.cons .refl (.cons .refl .nil))) ?_)
 refine rl.run 5 rfl (rl.done (RW.sreg (rl.run 7 rfl (rl.done ?_))))
 refine RW.kp [4, 7, 8] [(4, .ptr 1 0), (7, .bool v1.2), (8, .ptr 2 0)] [some ⟨[.j x0.Seq, .j x0.Rec.Kind, .j x0.Rec.Valid, .j x0.Rec.Uid, .j x0.Rec.Next, .j x0.Rec.Flags, .str x0.Rec.User, .str x0.Rec.Name, .str x0.Rec.Text], 0⟩, some ⟨[.j 0, .j 0, .str []], 0⟩, some ⟨[.j x1, .j x0.Seq, .str v1.1], 0⟩] rfl rfl ?_
 refine RW.seq (RW.seq ?_)
 obtain ⟨y2, ey2, h2⟩ := bindS h1
 refine RW.cutq (σ := Bool) (fun y2 => [(4, .ptr 0 0), (8, .ptr 1 0), (26, .bool y2)]) (fun y2 => [some ⟨[.j 0, .j 0, .str []], 0⟩, some ⟨[.j x1, .j x0.Seq, .str v1.1], 0⟩]) (fun y => y2 = y) (fun _ _ _ _ g h => RW.gh g h) ?_ ?_
 ·refine RW.reg ?_
  refine rl.run 3 rfl ?_
  cases hb : (!v1.2)
  ·have h3 := iteBF ey2 hb
   refine rl.run 1 rfl ?_
   obtain ⟨v3, e3, h4⟩ := bindS h3
   refine rl.call rfl rfl rfl (CallW.val (r' := .bool v3) ok_impl_FrameOk (law_impl_FrameOk e3) (.cons (DFL.agg (.cons .int (.cons .int (.cons .str .nil)))) .nil) .refl ?_)
   cases hb : v3
   ·have h5 := iteBF h4 hb
    refine rl.run 2 rfl (rl.done ?_)
    cases h5
    exact ⟨_, rfl, (Gh.ren0 [1, 2] (.cells rfl rfl (.keep .int (.keep .int (.keep .str .nil))) (.cells rfl rfl (.keep .int (.keep .int (.keep .str .nil))) .nil)) rfl (.cons rfl (.ptr rfl) (.cons rfl (.ptr rfl) (.cons rfl (.dat .bool) .nil))))⟩
   ·have h6 := iteBT h4 hb
    refine rl.run 2 rfl (rl.done ?_)
    cases h6
    exact ⟨_, rfl, (Gh.ren0 [1, 2] (.cells rfl rfl (.keep .int (.keep .int (.keep .str .nil))) (.cells rfl rfl (.keep .int (.keep .int (.keep .str .nil))) .nil)) rfl (.cons rfl (.ptr rfl) (.cons rfl (.ptr rfl) (.cons rfl (.dat .bool) .nil))))⟩
  ·have h7 := iteBT ey2 hb
   refine rl.run 4 rfl (rl.done ?_)
   cases h7
   exact ⟨_, rfl, (Gh.ren0 [1, 2] (.cells rfl rfl (.keep .int (.keep .int (.keep .str .nil))) (.cells rfl rfl (.keep .int (.keep .int (.keep .str .nil))) .nil)) rfl (.cons rfl (.ptr rfl) (.cons rfl (.ptr rfl) (.cons rfl (.dat .bool) .nil))))⟩
 ·intro y hC
  subst hC
  cases hb : y2
  ·have h8 := iteBF h2 hb
   refine RW.cond_f rfl (RW.skip (RW.sreg (rl.run 3 rfl (rl.done (RW.ret ?_)))))
   cases h8
   exact RRet.mk rfl (OutT.tup (.cons (OutL.agg (.cons .int rfl (.cons .int rfl (.cons .str rfl .nil)))) (.cons .bool .nil))) (by first | decide | simp)
  ·have h9 := iteBT h2 hb
   refine RW.cond_t rfl (RW.sreg (rl.run 3 rfl (rl.done (RW.ret ?_))))
   cases h9
   exact RRet.mk rfl (OutT.tup (.cons (OutL.agg (.cons .int rfl (.cons .int rfl (.cons .str rfl .nil)))) (.cons .bool .nil))) (by first | decide | simp)
theorem law_impl_SumMore {x0 : Int} {x1 : List UInt8} {r : Int} (hF : F_impl_SumMore x0 x1 = some r) : PCalls Tryz.prog 212 [.int .u32 x0, .str x1] (.int .u32 r) := by
 refine PCalls.of_r k_impl_SumMore rfl ?_
 unfold F_impl_SumMore at hF
 refine RW.sreg (rl.run 1 rfl (rl.done (RW.seq (RW.sreg (rl.run 3 rfl (rl.done ?_))))))
 obtain ⟨y7, ey7, h2⟩ := bindS hF
 refine RW.cutq (σ := Int) (fun y2 => [(0, .int .u32 y2)]) (fun y2 => []) (fun y => y7 = y) (fun _ _ _ _ g h => RW.gh g h) ?_ ?_
 ·refine RW.blk ?_
  refine RW.iter (σ := Int × Int) ey7 (fun s1 => [(0, .int .u32 s1.1), (1, .str x1), (8, .j (x1.length : Int)), (9, .j s1.2)]) (fun s1 => []) (Gh.ren0 [] .nil rfl (.cons rfl (.dat .int) (.cons rfl (.dat .str) (.cons rfl (.dat .int) (.cons rfl (.dat .int) .nil))))) (fun s1 B o hS1 hB1 hE1 => ?_)
  unfold S_impl_SumMore_1 at hS1
  refine RW.sreg ?_
  refine rl.gen rfl rfl fun b hb => ?_
  cases b
  ·have h3 := iteBF hS1 hb
   refine rl.done (RW.seq (RW.cond_f rfl (RW.exit (blkA_eq ?_))))
   cases h3
   exact ⟨_, (hE1 _ rfl).symm, (Gh.ren0 [] .nil rfl (.cons rfl (.dat .int) .nil))⟩
  ·have h4 := iteBT hS1 hb
   refine rl.done (RW.seq (RW.cond_t rfl (RW.skip (RW.seq (RW.blk (RW.sreg (rl.run 2 rfl (rl.done (RW.sreg (rl.run 3 rfl ?_))))))))))
   obtain ⟨v3, e3, h5⟩ := bindS h4
   refine rl.op (x_idx rfl rfl e3) ?_
   refine rl.run 3 rfl (rl.done (RW.sreg (rl.run 1 rfl (rl.done ?_))))
   obtain ⟨y6, ey6, h7⟩ := bindS h5
   refine RW.cutq (σ := Int) (fun y5 => [(0, .int .u32 y5), (1, .str x1), (8, .j (x1.length : Int)), (9, .j s1.2)]) (fun y5 => []) (fun y => y6 = y) (fun _ _ _ _ g h => RW.gh g h) ?_ ?_
   ·refine RW.blk ?_
    refine RW.iter (σ := Int × Int) ey6 (fun s4 => [(0, .int .u32 s4.1), (1, .str x1), (8, .j (x1.length : Int)), (9, .j s1.2), (18, .j s4.2)]) (fun s4 => []) (Gh.ren0 [] .nil rfl (.cons rfl (.dat .int) (.cons rfl (.dat .str) (.cons rfl (.dat .int) (.cons rfl (.dat .int) (.cons rfl (.dat .int) .nil)))))) (fun s4 B o hS6 hB6 hE6 => ?_)
    unfold S_impl_SumMore_2 at hS6
    refine RW.sreg ?_
    refine rl.gen rfl rfl fun b hb => ?_
    cases b
    ·have h8 := iteBF hS6 hb
     refine rl.done (RW.seq (RW.cond_f rfl (RW.exit (blkA_eq ?_))))
     cases h8
     exact ⟨_, (hE6 _ rfl).symm, (Gh.ren0 [] .nil rfl (.cons rfl (.dat .int) (.cons rfl (.dat .str) (.cons rfl (.dat .int) (.cons rfl (.dat .int) .nil)))))⟩
    ·have h9 := iteBT hS6 hb
     refine rl.done (RW.seq (RW.cond_t rfl (RW.skip (RW.seq (RW.blk (RW.sreg (rl.run 2 rfl ?_)))))))
     refine rl.gen rfl rfl fun b hb => ?_
     cases b
     ·have h10 := iteBF h9 hb
      refine rl.run 1 rfl (rl.done (RW.sreg (rl.run 3 rfl (rl.done (RW.sreg (rl.run 1 rfl (rl.done (RW.cond_f rfl (RW.skip (RW.reg (rl.run 2 rfl ?_)))))))))))
      refine rl.done ?_
      cases h10
      exact hB6 _ rfl _ _ (Gh.ren0 [] .nil rfl (.cons rfl (.dat .int) (.cons rfl (.dat .str) (.cons rfl (.dat .int) (.cons rfl (.dat .int) (.cons rfl (.dat .int) .nil))))))
     ·have h11 := iteBT h9 hb
      refine rl.run 1 rfl (rl.done (RW.sreg (rl.run 3 rfl (rl.done (RW.sreg (rl.run 1 rfl (rl.done (RW.cond_t rfl (RW.reg (rl.run 3 rfl (rl.done ?_)))))))))))
      refine RW.reg (rl.run 2 rfl (rl.done ?_))
      cases h11
      exact hB6 _ rfl _ _ (Gh.ren0 [] .nil rfl (.cons rfl (.dat .int) (.cons rfl (.dat .str) (.cons rfl (.dat .int) (.cons rfl (.dat .int) (.cons rfl (.dat .int) .nil))))))
   ·intro y5 hC
    subst hC
    refine RW.reg (rl.run 2 rfl (rl.done ?_))
    cases h7
    exact hB1 _ rfl _ _ (Gh.ren0 [] .nil rfl (.cons rfl (.dat .int) (.cons rfl (.dat .str) (.cons rfl (.dat .int) (.cons rfl (.dat .int) .nil)))))
 ·intro y2 hC
  subst hC
  refine RW.sreg (rl.run 2 rfl (rl.done (RW.ret ?_)))
  cases h2
  exact RRet.mk rfl .int (by first | decide | simp)
theorem law_impl_SumOf {x0 : List UInt8} {r : Int} (hF : F_impl_SumOf x0 = some r) : PCalls Tryz.prog 189 [.str x0] (.int .u32 r) := by
 refine PCalls.of_r k_impl_SumOf rfl ?_
 unfold F_impl_SumOf at hF
 refine RW.sreg (rl.run 1 rfl (rl.done (RW.sreg (rl.run 1 rfl ?_))))
 obtain ⟨v1, e1, h1⟩ := bindS hF
 refine rl.call rfl rfl rfl (CallW.val (r' := .int .u32 v1) ok_impl_SumMore (law_impl_SumMore e1) (.cons .int (.cons .str .nil)) .refl ?_)
 refine rl.run 1 rfl (rl.done (RW.ret ?_))
 cases h1
 exact RRet.mk rfl .int (by first | decide | simp)
theorem law_impl_seal {x0 : List UInt8} {r : List UInt8} (hF : F_impl_seal x0 = some r) : PCalls Tryz.prog 139 [.str x0] (.str r) := by
 refine PCalls.of_r k_impl_seal rfl ?_
 unfold F_impl_seal at hF
 refine RW.sreg (rl.run 1 rfl (rl.done (RW.sreg (rl.run 1 rfl ?_))))
 obtain ⟨v1, e1, h1⟩ := bindS hF
 refine rl.call rfl rfl rfl (CallW.val (r' := .int .u32 v1) ok_impl_SumOf (law_impl_SumOf e1) (.cons .str .nil) .refl ?_)
 refine rl.run 1 rfl (rl.done (RW.sreg (rl.run 12 rfl ?_)))
 refine rl.op (x_cvb_sl (o := true) (l := [IntKind.u8.wrap (shrv .u32 v1 24), IntKind.u8.wrap (shrv .u32 v1 16), IntKind.u8.wrap (shrv .u32 v1 8), IntKind.u8.wrap v1]) rfl rfl) ?_
 refine rl.run 1 rfl (rl.done ?_)
 refine RW.kp [2] [(2, .str ([IntKind.u8.wrap (shrv .u32 v1 24), IntKind.u8.wrap (shrv .u32 v1 16), IntKind.u8.wrap (shrv .u32 v1 8), IntKind.u8.wrap v1].map ofI))] [some ⟨fl (encB true) [IntKind.u8.wrap (shrv .u32 v1 24), IntKind.u8.wrap (shrv .u32 v1 16), IntKind.u8.wrap (shrv .u32 v1 8), IntKind.u8.wrap v1], 1⟩] rfl rfl ?_
 refine RW.ret ?_
 cases h1
 exact RRet.mk rfl .str (by first | decide | simp)
theorem law_impl_Sealed {x0 : List UInt8} {r : (List UInt8) × Bool} (hF : F_impl_Sealed x0 = some r) : PCalls Tryz.prog 134 [.str x0] (.tup [.str r.1, .bool r.2]) := by
 refine PCalls.of_r k_impl_Sealed rfl ?_
 unfold F_impl_Sealed at hF
 refine RW.sreg (rl.run 2 rfl (rl.done (RW.seq (RW.sreg (rl.run 2 rfl ?_)))))
 refine rl.gen rfl rfl fun b hb => ?_
 cases b
 ·have h1 := iteBF hF hb
  refine rl.done (RW.cond_f rfl (RW.skip (RW.sreg (rl.run 2 rfl ?_))))
  obtain ⟨v1, e1, h2⟩ := bindS h1
  refine rl.call rfl rfl rfl (CallW.val (r' := .str v1) ok_impl_seal (law_impl_seal e1) (.cons .str .nil) .refl ?_)
  obtain ⟨v2, e2, h3⟩ := bindS h2
  refine rl.op (x_cat rfl rfl e2) ?_
  refine rl.run 2 rfl (rl.done (RW.ret ?_))
  cases h3
  exact RRet.mk rfl (OutT.tup (.cons .str (.cons .bool .nil))) (by first | decide | simp)
 ·have h4 := iteBT hF hb
  refine rl.done (RW.cond_t rfl (RW.sreg (rl.run 2 rfl (rl.done (RW.ret ?_)))))
  cases h4
  exact RRet.mk rfl (OutT.tup (.cons .str (.cons .bool .nil))) (by first | decide | simp)
theorem law_impl_FrameText {x0 : TFrame} {r : (List UInt8) × Bool} (hF : F_impl_FrameText x0 = some r) : PCalls Tryz.prog 73 [.agg (enc_TFrame false x0)] (.tup [.str r.1, .bool r.2]) := by
 refine PCalls.of_r k_impl_FrameText rfl ?_
 unfold F_impl_FrameText at hF
 refine RW.sreg (rl.run 3 rfl (rl.done (RW.seq (RW.sreg (rl.run 1 rfl ?_)))))
 obtain ⟨v1, e1, h1⟩ := bindS hF
 refine rl.call rfl rfl rfl (CallW.val (r' := .bool v1) ok_impl_FrameOk (law_impl_FrameOk e1) (.cons (DFL.agg (.cons .int (.cons .int (.cons .str .nil)))) .nil) .refl ?_)
 cases hb : v1
 ·have h2 := iteBF h1 hb
  refine rl.run 1 rfl (rl.done (RW.cond_t rfl (RW.sreg (rl.run 2 rfl (rl.done (RW.ret ?_))))))
  cases h2
  exact RRet.mk rfl (OutT.tup (.cons .str (.cons .bool .nil))) (by first | decide | simp)
 ·have h3 := iteBT h1 hb
  refine rl.run 1 rfl (rl.done (RW.cond_f rfl (RW.skip (RW.sdrw (rdraw.op rfl rfl (rdraw.op rfl rfl ?_))))))
  obtain ⟨v2, e2, h4⟩ := bindS h3
  refine rdraw.call rfl rfl rfl (CallW.val (r' := .str v2) ok_impl_varText (law_impl_varText e2) (.cons .int .nil) .refl ⟨rfl, ?_⟩)
  refine rdraw.op rfl rfl (rdraw.op rfl rfl ?_)
  obtain ⟨v3, e3, h5⟩ := bindS h4
  refine rdraw.call rfl rfl rfl (CallW.val (r' := .str v3) ok_impl_varText (law_impl_varText e3) (.cons .int .nil) .refl ⟨rfl, ?_⟩)
  obtain ⟨v4, e4, h6⟩ := bindS h5
  refine rdraw.op rfl (x_cat rfl rfl e4) ?_
  refine rdraw.op rfl rfl (rdraw.op rfl rfl (rdraw.op rfl rfl ?_))
  obtain ⟨v5, e5, h7⟩ := bindS h6
  refine rdraw.call rfl rfl rfl (CallW.val (r' := .str v5) ok_impl_varText (law_impl_varText e5) (.cons .int .nil) .refl ⟨rfl, ?_⟩)
  obtain ⟨v6, e6, h8⟩ := bindS h7
  refine rdraw.op rfl (x_cat rfl rfl e6) ?_
  refine rdraw.op rfl rfl (rdraw.op rfl rfl ?_)
  obtain ⟨v7, e7, h9⟩ := bindS h8
  refine rdraw.op rfl (x_cat rfl rfl e7) ?_
  obtain ⟨v8, e8, h10⟩ := bindS h9
  refine rdraw.call rfl rfl rfl (CallW.val (r' := .tup [.str v8.1, .bool v8.2]) ok_impl_Sealed (law_impl_Sealed e8) (.cons .str .nil) (FlL.tup (.cons .refl (.cons .refl .nil))) ⟨rfl, ?_⟩)
  refine rdraw.op rfl rfl (rdraw.op rfl rfl (rdraw.op rfl rfl (rdraw.op rfl rfl (rdraw.done ?_))))
  refine RW.kp [2, 3] [(2, .str v8.1), (3, .bool v8.2)] [some ⟨[.j x0.Gen, .j x0.Seq, .str x0.Body], 0⟩] rfl rfl ?_
  refine RW.ret ?_
  cases h10
  exact RRet.mk rfl (OutT.tup (.cons .str (.cons .bool .nil))) (by first | decide | simp)
theorem law_impl_FrameSize {x0 : TFrame} {r : Int} (hF : F_impl_FrameSize x0 = some r) : PCalls Tryz.prog 115 [.agg (enc_TFrame false x0)] (.j r) := by
 refine PCalls.of_r k_impl_FrameSize rfl ?_
 unfold F_impl_FrameSize at hF
 refine RW.sreg (rl.run 2 rfl (rl.done (RW.sreg (rl.run 1 rfl ?_))))
 obtain ⟨v1, e1, h1⟩ := bindS hF
 refine rl.call rfl rfl rfl (CallW.val (r' := .tup [.str v1.1, .bool v1.2]) ok_impl_FrameText (law_impl_FrameText e1) (.cons (DFL.agg (.cons .int (.cons .int (.cons .str .nil)))) .nil) (FlL.tup (.cons .refl (.cons .refl .nil))) ?_)
 refine rl.run 5 rfl (rl.done (RW.sreg (rl.run 3 rfl (rl.done ?_))))
 refine RW.kp [2] [(2, .j (v1.1.length : Int))] [some ⟨[.j x0.Gen, .j x0.Seq, .str x0.Body], 0⟩] rfl rfl ?_
 refine RW.ret ?_
 cases h1
 exact RRet.mk rfl .int (by first | decide | simp)
theorem law_slices_Index_int {x0 : List Int} {x1 : Int} {r : Int} (hF : F_slices_Index_int x0 x1 = some r) : PCalls Tryz.prog 238 [L_I x0, .j x1] (.j r) := by
 refine PCalls.of_r k_slices_Index_int rfl ?_
 unfold F_slices_Index_int at hF
 refine RW.sreg (rl.run 1 rfl (rl.done (RW.seq (RW.sreg (rl.run 3 rfl (rl.done ?_))))))
 obtain ⟨y4, ey4, h2⟩ := bindS hF
 refine RW.cutq (σ := Unit) (fun y2 => []) (fun y2 => []) (fun y => y4 = .inr y) (fun _ _ _ _ g h => RW.gh g h) ?_ ?_
 ·refine RW.blk ?_
  refine RW.iter (σ := Int) ey4 (fun s1 => [(0, L_I x0), (1, .j x1), (7, .j (x0.length : Int)), (8, .j s1)]) (fun s1 => []) (Gh.ren0 [] .nil rfl (.cons rfl (.dat (ekI.rlst)) (.cons rfl (.dat .int) (.cons rfl (.dat .int) (.cons rfl (.dat .int) .nil))))) (fun s1 B o hS1 hB1 hE1 => ?_)
  unfold S_slices_Index_int_1 at hS1
  refine RW.sreg ?_
  refine rl.gen rfl rfl fun b hb => ?_
  cases b
  ·have h3 := iteBF hS1 hb
   refine rl.done (RW.seq (RW.cond_f rfl (RW.exit (blkA_eq ?_))))
   cases h3
   exact ⟨_, (hE1 _ rfl).symm, (Gh.ren0 [] .nil rfl .nil)⟩
  ·have h4 := iteBT hS1 hb
   refine rl.done (RW.seq (RW.cond_t rfl (RW.skip (RW.seq (RW.blk (RW.sreg (rl.run 2 rfl (rl.done (RW.sreg (rl.run 3 rfl ?_))))))))))
   obtain ⟨v3, e3, h5⟩ := bindS h4
   refine rl.op (x_ia_lst (enc := encI) (o := false) rfl rfl rfl e3) ?_
   refine rl.op (x_ld_el (off' := 0) ekI rfl e3 rfl rfl rfl) ?_
   refine rl.gen rfl rfl fun b hb => ?_
   cases b
   ·have h6 := iteBF h5 hb
    refine rl.done (RW.cond_f rfl (RW.skip (RW.reg (rl.run 2 rfl (rl.done ?_)))))
    cases h6
    exact hB1 _ rfl _ _ (Gh.ren0 [] .nil rfl (.cons rfl (.dat (ekI.rlst)) (.cons rfl (.dat .int) (.cons rfl (.dat .int) (.cons rfl (.dat .int) .nil)))))
   ·have h7 := iteBT h5 hb
    refine rl.done (RW.cond_t rfl (RW.sreg (rl.run 2 rfl (rl.done ?_))))
    refine RW.kp [4] [(4, .j s1)] [] rfl rfl ?_
    refine RW.ret ?_
    cases h7
    have h8 := elimL h2 (hE1 _ rfl)
    cases h8
    exact RRet.mk rfl .int (by first | decide | simp)
 ·intro y2 hC
  have h2 := elimR h2 hC
  refine RW.sreg (rl.run 1 rfl (rl.done (RW.ret ?_)))
  cases h2
  exact RRet.mk rfl .int (by first | decide | simp)
theorem law_slices_Contains_int {x0 : List Int} {x1 : Int} {r : Bool} (hF : F_slices_Contains_int x0 x1 = some r) : PCalls Tryz.prog 230 [L_I x0, .j x1] (.bool r) := by
 refine PCalls.of_r k_slices_Contains_int rfl ?_
 unfold F_slices_Contains_int at hF
 refine RW.sreg (rl.run 1 rfl (rl.done (RW.sreg (rl.run 2 rfl ?_))))
 obtain ⟨v1, e1, h1⟩ := bindS hF
 refine rl.call rfl rfl rfl (CallW.val (r' := .j v1) ok_slices_Index_int (law_slices_Index_int e1) (.cons (.lst ekI) (.cons .int .nil)) .refl ?_)
 refine rl.run 2 rfl (rl.done (RW.ret ?_))
 cases h1
 exact RRet.mk rfl .bool (by first | decide | simp)
theorem law_impl_isFreed {x0 : TStore} {x1 : Int} {r : Bool} (hF : F_impl_isFreed x0 x1 = some r) : PCalls Tryz.prog 205 [.agg (enc_TStore false x0), .j x1] (.bool r) := by
 refine PCalls.of_r k_impl_isFreed rfl ?_
 unfold F_impl_isFreed at hF
 refine RW.sreg (rl.run 2 rfl (rl.done (RW.sreg (rl.run 3 rfl ?_))))
 obtain ⟨v1, e1, h1⟩ := bindS hF
 refine rl.call rfl rfl rfl (CallW.val (r' := .bool v1) ok_slices_Contains_int (law_slices_Contains_int e1) (.cons (.lst ekI) (.cons .int .nil)) .refl ?_)
 refine rl.run 1 rfl (rl.done (RW.ret ?_))
 cases h1
 exact RRet.mk rfl .bool (by first | decide | simp)
theorem law_impl_segAt {x0 : TStore} {x1 : Int} {r : Bool} (hF : F_impl_segAt x0 x1 = some r) : PCalls Tryz.prog 176 [.agg (enc_TStore false x0), .j x1] (.bool r) := by
 refine PCalls.of_r k_impl_segAt rfl ?_
 unfold F_impl_segAt at hF
 refine RW.sreg (rl.run 2 rfl (rl.done (RW.sdrw (rdraw.op rfl rfl (rdraw.op rfl rfl (rdraw.op rfl rfl (rdraw.op rfl rfl (rdraw.op rfl rfl (rdraw.op rfl rfl ?_)))))))))
 obtain ⟨v1, e1, h1⟩ := bindS hF
 refine rdraw.call rfl rfl rfl (CallW.val (r' := .bool v1) ok_impl_in (law_impl_in e1) (.cons .int (.cons .int (.cons .int .nil))) .refl ⟨rfl, ?_⟩)
 cases hb : v1
 ·have h2 := iteBF h1 hb
  refine rdraw.op rfl rfl (rdraw.off rfl (rdraw.off rfl (rdraw.off rfl (rdraw.off rfl (rdraw.off rfl (rdraw.off rfl (rdraw.off rfl (rdraw.off rfl (rdraw.off rfl (rdraw.off rfl (rdraw.op rfl rfl ?_)))))))))))
  refine rdraw.op rfl rfl (rdraw.done ?_)
  refine RW.kp [4] [(4, .bool false)] [some ⟨[L_S x0.Log.Disk.Sectors, L_TWrite x0.Log.Disk.Cache, .j x0.Log.Segs, L_TSeg x0.Log.Used, .j x0.Log.NextGen, .j x0.Log.NextSeq, .j x0.Log.Stamp, .j x0.Log.NextValid, L_I x0.Freed], 0⟩] rfl rfl ?_
  refine RW.ret ?_
  cases h2
  exact RRet.mk rfl .bool (by first | decide | simp)
 ·have h3 := iteBT h1 hb
  refine rdraw.op rfl rfl (rdraw.op rfl rfl (rdraw.op rfl rfl (rdraw.op rfl rfl (rdraw.op rfl rfl (rdraw.op rfl rfl ?_)))))
  obtain ⟨v2, e2, h4⟩ := bindS h3
  refine rdraw.op rfl (x_ia_lst (enc := enc_TSeg) (o := false) rfl rfl rfl e2) ?_
  refine rdraw.op rfl rfl ?_
  refine rdraw.op rfl (x_ld_el (off' := 0) ek_TSeg rfl e2 rfl rfl rfl) ?_
  obtain ⟨v3, e3, h5⟩ := bindS h4
  refine rdraw.call rfl rfl rfl (CallW.val (r' := .bool v3) ok_impl_isFreed (law_impl_isFreed e3) (.cons (DFL.agg (.cons (.lst ekS) (.cons (.lst ek_TWrite) (.cons .int (.cons (.lst ek_TSeg) (.cons .int (.cons .int (.cons .int (.cons .int (.cons (.lst ekI) .nil)))))))))) (.cons .int .nil)) .refl ⟨rfl, ?_⟩)
  refine rdraw.op rfl rfl (rdraw.op rfl rfl (rdraw.op rfl rfl (rdraw.done ?_)))
  refine RW.kp [4] [(4, .bool (!v3))] [some ⟨[L_S x0.Log.Disk.Sectors, L_TWrite x0.Log.Disk.Cache, .j x0.Log.Segs, L_TSeg x0.Log.Used, .j x0.Log.NextGen, .j x0.Log.NextSeq, .j x0.Log.Stamp, .j x0.Log.NextValid, L_I x0.Freed], 0⟩] rfl rfl ?_
  refine RW.ret ?_
  cases h5
  exact RRet.mk rfl .bool (by first | decide | simp)
theorem law_impl_needed_1_w {x0 : TItem} {x1 : TItem} {r : Bool} (hF : F_impl_needed_1_w x0 x1 = some r) : ACalls Tryz.prog 1 239 [.agg (enc_TItem false x0), .ptr 0 0] [some ⟨[.j x1.Seq, .j x1.Rec.Kind, .j x1.Rec.Valid, .j x1.Rec.Uid, .j x1.Rec.Next, .j x1.Rec.Flags, .str x1.Rec.User, .str x1.Rec.Name, .str x1.Rec.Text], 0⟩] (.bool r) [some ⟨[.j x1.Seq, .j x1.Rec.Kind, .j x1.Rec.Valid, .j x1.Rec.Uid, .j x1.Rec.Next, .j x1.Rec.Flags, .str x1.Rec.User, .str x1.Rec.Name, .str x1.Rec.Text], 0⟩] := by
 refine ACalls.of_s k_impl_needed_1 rfl ?_
 unfold F_impl_needed_1_w at hF
 refine RW.sreg (rl.run 2 rfl (rl.done (RW.sreg (rl.run 6 rfl (rl.done (RW.ret ?_))))))
 cases hF
 exact RRetS.mk rfl .bool (Gh.renN [0] (.cells rfl rfl (.keep .int (.keep .int (.keep .int (.keep .int (.keep .int (.keep .int (.keep .str (.keep .str (.keep .str .nil))))))))) .nil) rfl rfl rfl .nil)
theorem law_slices_IndexFunc_Item_needed_1 {x0 : List TItem} {x1 : TItem} {r : Int} (hF : F_slices_IndexFunc_Item_needed_1 x0 x1 = some r) : ACalls Tryz.prog 1 199 [L_TItem x0, .fn 239 [.ptr 0 0]] [some ⟨[.j x1.Seq, .j x1.Rec.Kind, .j x1.Rec.Valid, .j x1.Rec.Uid, .j x1.Rec.Next, .j x1.Rec.Flags, .str x1.Rec.User, .str x1.Rec.Name, .str x1.Rec.Text], 0⟩] (.j r) [some ⟨[.j x1.Seq, .j x1.Rec.Kind, .j x1.Rec.Valid, .j x1.Rec.Uid, .j x1.Rec.Next, .j x1.Rec.Flags, .str x1.Rec.User, .str x1.Rec.Name, .str x1.Rec.Text], 0⟩] := by
 refine ACalls.of_s k_slices_IndexFunc_Item rfl ?_
 unfold F_slices_IndexFunc_Item_needed_1 at hF
 refine RW.sreg (rl.run 1 rfl (rl.done (RW.seq (RW.sreg (rl.run 3 rfl (rl.done ?_))))))
 obtain ⟨y5, ey5, h2⟩ := bindS hF
 refine RW.cutq (σ := Unit) (fun y2 => []) (fun y2 => [some ⟨[.j x1.Seq, .j x1.Rec.Kind, .j x1.Rec.Valid, .j x1.Rec.Uid, .j x1.Rec.Next, .j x1.Rec.Flags, .str x1.Rec.User, .str x1.Rec.Name, .str x1.Rec.Text], 0⟩]) (fun y => y5 = .inr y) (fun _ _ _ _ g h => RW.gh g h) ?_ ?_
 ·refine RW.blk ?_
  refine RW.iter (σ := Int) ey5 (fun s1 => [(0, L_TItem x0), (1, .fn 239 [.ptr 0 0]), (7, .j (x0.length : Int)), (8, .j s1)]) (fun s1 => [some ⟨[.j x1.Seq, .j x1.Rec.Kind, .j x1.Rec.Valid, .j x1.Rec.Uid, .j x1.Rec.Next, .j x1.Rec.Flags, .str x1.Rec.User, .str x1.Rec.Name, .str x1.Rec.Text], 0⟩]) (Gh.renN [0] (.cells rfl rfl (.keep .int (.keep .int (.keep .int (.keep .int (.keep .int (.keep .int (.keep .str (.keep .str (.keep .str .nil))))))))) .nil) rfl rfl rfl (.cons rfl (.dat (ek_TItem.rlst)) (.cons rfl (RnL.fn (.cons (.ptr rfl) .nil)) (.cons rfl (.dat .int) (.cons rfl (.dat .int) .nil))))) (fun s1 B o hS1 hB1 hE1 => ?_)
  unfold S_slices_IndexFunc_Item_needed_1_1 at hS1
  refine RW.sreg ?_
  refine rl.gen rfl rfl fun b hb => ?_
  cases b
  ·have h3 := iteBF hS1 hb
   refine rl.done (RW.seq (RW.cond_f rfl (RW.exit (blkA_eq ?_))))
   cases h3
   exact ⟨_, (hE1 _ rfl).symm, (Gh.renN [0] (.cells rfl rfl (.keep .int (.keep .int (.keep .int (.keep .int (.keep .int (.keep .int (.keep .str (.keep .str (.keep .str .nil))))))))) .nil) rfl rfl rfl .nil)⟩
  ·have h4 := iteBT hS1 hb
   refine rl.done (RW.seq (RW.cond_t rfl (RW.skip (RW.seq (RW.blk (RW.sreg (rl.run 2 rfl (rl.done (RW.sreg (rl.run 3 rfl ?_))))))))))
   obtain ⟨v3, e3, h5⟩ := bindS h4
   refine rl.op (x_ia_lst (enc := enc_TItem) (o := false) rfl rfl rfl e3) ?_
   refine rl.op (x_ld_ela (off' := 0) (vs := (enc_TItem false v3)) ek_TItem rfl e3 rfl rfl rfl) ?_
   obtain ⟨v4, e4, h6⟩ := bindS h5
   refine rl.call rfl rfl rfl (CallW.embR [0] ok_impl_needed_1 (law_impl_needed_1_w e4) (.cells rfl rfl (.keep .int (.keep .int (.keep .int (.keep .int (.keep .int (.keep .int (.keep .str (.keep .str (.keep .str .nil))))))))) .nil) rfl rfl (.cons (.dat (ek_TItem.rrec)) (.cons (.ptr rfl) .nil)) .bool ?_)
   cases hb : v4
   ·have h7 := iteBF h6 hb
    refine rl.done (RW.cond_f rfl (RW.skip (RW.reg (rl.run 2 rfl (rl.done ?_)))))
    cases h7
    exact hB1 _ rfl _ _ (Gh.renN [0] (.cells rfl rfl (.keep .int (.keep .int (.keep .int (.keep .int (.keep .int (.keep .int (.keep .str (.keep .str (.keep .str .nil))))))))) .nil) rfl rfl rfl (.cons rfl (.dat (ek_TItem.rlst)) (.cons rfl (RnL.fn (.cons (.ptr rfl) .nil)) (.cons rfl (.dat .int) (.cons rfl (.dat .int) .nil)))))
   ·have h8 := iteBT h6 hb
    refine rl.done (RW.cond_t rfl (RW.sreg (rl.run 2 rfl (rl.done ?_))))
    refine RW.kp [4] [(4, .j s1)] [some ⟨[.j x1.Seq, .j x1.Rec.Kind, .j x1.Rec.Valid, .j x1.Rec.Uid, .j x1.Rec.Next, .j x1.Rec.Flags, .str x1.Rec.User, .str x1.Rec.Name, .str x1.Rec.Text], 0⟩] rfl rfl ?_
    refine RW.ret ?_
    cases h8
    have h9 := elimL h2 (hE1 _ rfl)
    cases h9
    exact RRetS.mk rfl .int (Gh.renN [0] (.cells rfl rfl (.keep .int (.keep .int (.keep .int (.keep .int (.keep .int (.keep .int (.keep .str (.keep .str (.keep .str .nil))))))))) .nil) rfl rfl rfl .nil)
 ·intro y2 hC
  have h2 := elimR h2 hC
  refine RW.sreg (rl.run 1 rfl (rl.done (RW.ret ?_)))
  cases h2
  exact RRetS.mk rfl .int (Gh.renN [0] (.cells rfl rfl (.keep .int (.keep .int (.keep .int (.keep .int (.keep .int (.keep .int (.keep .str (.keep .str (.keep .str .nil))))))))) .nil) rfl rfl rfl .nil)
theorem law_slices_ContainsFunc_Item_needed_1 {x0 : List TItem} {x1 : TItem} {r : Bool} (hF : F_slices_ContainsFunc_Item_needed_1 x0 x1 = some r) : ACalls Tryz.prog 1 158 [L_TItem x0, .fn 239 [.ptr 0 0]] [some ⟨[.j x1.Seq, .j x1.Rec.Kind, .j x1.Rec.Valid, .j x1.Rec.Uid, .j x1.Rec.Next, .j x1.Rec.Flags, .str x1.Rec.User, .str x1.Rec.Name, .str x1.Rec.Text], 0⟩] (.bool r) [some ⟨[.j x1.Seq, .j x1.Rec.Kind, .j x1.Rec.Valid, .j x1.Rec.Uid, .j x1.Rec.Next, .j x1.Rec.Flags, .str x1.Rec.User, .str x1.Rec.Name, .str x1.Rec.Text], 0⟩] := by
 refine ACalls.of_s k_slices_ContainsFunc_Item rfl ?_
 unfold F_slices_ContainsFunc_Item_needed_1 at hF
 refine RW.sreg (rl.run 1 rfl (rl.done (RW.sreg (rl.run 2 rfl ?_))))
 obtain ⟨v1, e1, h1⟩ := bindS hF
 refine rl.call rfl rfl rfl (CallW.embR [0] ok_slices_IndexFunc_Item (law_slices_IndexFunc_Item_needed_1 e1) (.cells rfl rfl (.keep .int (.keep .int (.keep .int (.keep .int (.keep .int (.keep .int (.keep .str (.keep .str (.keep .str .nil))))))))) .nil) rfl rfl (.cons (.dat (ek_TItem.rlst)) (.cons (RnL.fn (.cons (.ptr rfl) .nil)) .nil)) .int ?_)
 refine rl.run 2 rfl (rl.done (RW.ret ?_))
 cases h1
 exact RRetS.mk rfl .bool (Gh.renN [0] (.cells rfl rfl (.keep .int (.keep .int (.keep .int (.keep .int (.keep .int (.keep .int (.keep .str (.keep .str (.keep .str .nil))))))))) .nil) rfl rfl rfl .nil)
theorem law_impl_needed_2_w {x0 : TItem} {x1 : TRec} {r : Bool} (hF : F_impl_needed_2_w x0 x1 = some r) : ACalls Tryz.prog 1 240 [.agg (enc_TItem false x0), .ptr 0 0] [some ⟨[.j x1.Kind, .j x1.Valid, .j x1.Uid, .j x1.Next, .j x1.Flags, .str x1.User, .str x1.Name, .str x1.Text], 0⟩] (.bool r) [some ⟨[.j x1.Kind, .j x1.Valid, .j x1.Uid, .j x1.Next, .j x1.Flags, .str x1.User, .str x1.Name, .str x1.Text], 0⟩] := by
 refine ACalls.of_s k_impl_needed_2 rfl ?_
 unfold F_impl_needed_2_w at hF
 refine RW.sreg (rl.run 2 rfl (rl.done (RW.sreg (rl.run 5 rfl ?_))))
 refine rl.gen rfl rfl fun b hb => ?_
 cases b
 ·have h1 := iteBF hF hb
  refine rl.run 7 rfl (rl.done ?_)
  refine RW.kp [3] [(3, .bool false)] [some ⟨[.j x1.Kind, .j x1.Valid, .j x1.Uid, .j x1.Next, .j x1.Flags, .str x1.User, .str x1.Name, .str x1.Text], 0⟩, some ⟨[.j x0.Seq, .j x0.Rec.Kind, .j x0.Rec.Valid, .j x0.Rec.Uid, .j x0.Rec.Next, .j x0.Rec.Flags, .str x0.Rec.User, .str x0.Rec.Name, .str x0.Rec.Text], 0⟩] rfl rfl ?_
  refine RW.ret ?_
  cases h1
  exact RRetS.mk rfl .bool (Gh.renN [0] (.cells rfl rfl (.keep .int (.keep .int (.keep .int (.keep .int (.keep .int (.keep .str (.keep .str (.keep .str .nil)))))))) .nil) rfl rfl rfl .nil)
 ·have h2 := iteBT hF hb
  refine rl.run 7 rfl (rl.done ?_)
  refine RW.kp [3] [(3, .bool (x0.Rec.Kind != 2))] [some ⟨[.j x1.Kind, .j x1.Valid, .j x1.Uid, .j x1.Next, .j x1.Flags, .str x1.User, .str x1.Name, .str x1.Text], 0⟩, some ⟨[.j x0.Seq, .j x0.Rec.Kind, .j x0.Rec.Valid, .j x0.Rec.Uid, .j x0.Rec.Next, .j x0.Rec.Flags, .str x0.Rec.User, .str x0.Rec.Name, .str x0.Rec.Text], 0⟩] rfl rfl ?_
  refine RW.ret ?_
  cases h2
  exact RRetS.mk rfl .bool (Gh.renN [0] (.cells rfl rfl (.keep .int (.keep .int (.keep .int (.keep .int (.keep .int (.keep .str (.keep .str (.keep .str .nil)))))))) .nil) rfl rfl rfl .nil)
theorem law_slices_IndexFunc_Item_needed_2 {x0 : List TItem} {x1 : TRec} {r : Int} (hF : F_slices_IndexFunc_Item_needed_2 x0 x1 = some r) : ACalls Tryz.prog 1 199 [L_TItem x0, .fn 240 [.ptr 0 0]] [some ⟨[.j x1.Kind, .j x1.Valid, .j x1.Uid, .j x1.Next, .j x1.Flags, .str x1.User, .str x1.Name, .str x1.Text], 0⟩] (.j r) [some ⟨[.j x1.Kind, .j x1.Valid, .j x1.Uid, .j x1.Next, .j x1.Flags, .str x1.User, .str x1.Name, .str x1.Text], 0⟩] := by
 refine ACalls.of_s k_slices_IndexFunc_Item rfl ?_
 unfold F_slices_IndexFunc_Item_needed_2 at hF
 refine RW.sreg (rl.run 1 rfl (rl.done (RW.seq (RW.sreg (rl.run 3 rfl (rl.done ?_))))))
 obtain ⟨y5, ey5, h2⟩ := bindS hF
 refine RW.cutq (σ := Unit) (fun y2 => []) (fun y2 => [some ⟨[.j x1.Kind, .j x1.Valid, .j x1.Uid, .j x1.Next, .j x1.Flags, .str x1.User, .str x1.Name, .str x1.Text], 0⟩]) (fun y => y5 = .inr y) (fun _ _ _ _ g h => RW.gh g h) ?_ ?_
 ·refine RW.blk ?_
  refine RW.iter (σ := Int) ey5 (fun s1 => [(0, L_TItem x0), (1, .fn 240 [.ptr 0 0]), (7, .j (x0.length : Int)), (8, .j s1)]) (fun s1 => [some ⟨[.j x1.Kind, .j x1.Valid, .j x1.Uid, .j x1.Next, .j x1.Flags, .str x1.User, .str x1.Name, .str x1.Text], 0⟩]) (Gh.renN [0] (.cells rfl rfl (.keep .int (.keep .int (.keep .int (.keep .int (.keep .int (.keep .str (.keep .str (.keep .str .nil)))))))) .nil) rfl rfl rfl (.cons rfl (.dat (ek_TItem.rlst)) (.cons rfl (RnL.fn (.cons (.ptr rfl) .nil)) (.cons rfl (.dat .int) (.cons rfl (.dat .int) .nil))))) (fun s1 B o hS1 hB1 hE1 => ?_)
  unfold S_slices_IndexFunc_Item_needed_2_1 at hS1
  refine RW.sreg ?_
  refine rl.gen rfl rfl fun b hb => ?_
  cases b
  ·have h3 := iteBF hS1 hb
   refine rl.done (RW.seq (RW.cond_f rfl (RW.exit (blkA_eq ?_))))
   cases h3
   exact ⟨_, (hE1 _ rfl).symm, (Gh.renN [0] (.cells rfl rfl (.keep .int (.keep .int (.keep .int (.keep .int (.keep .int (.keep .str (.keep .str (.keep .str .nil)))))))) .nil) rfl rfl rfl .nil)⟩
  ·have h4 := iteBT hS1 hb
   refine rl.done (RW.seq (RW.cond_t rfl (RW.skip (RW.seq (RW.blk (RW.sreg (rl.run 2 rfl (rl.done (RW.sreg (rl.run 3 rfl ?_))))))))))
   obtain ⟨v3, e3, h5⟩ := bindS h4
   refine rl.op (x_ia_lst (enc := enc_TItem) (o := false) rfl rfl rfl e3) ?_
   refine rl.op (x_ld_ela (off' := 0) (vs := (enc_TItem false v3)) ek_TItem rfl e3 rfl rfl rfl) ?_
   obtain ⟨v4, e4, h6⟩ := bindS h5
   refine rl.call rfl rfl rfl (CallW.embR [0] ok_impl_needed_2 (law_impl_needed_2_w e4) (.cells rfl rfl (.keep .int (.keep .int (.keep .int (.keep .int (.keep .int (.keep .str (.keep .str (.keep .str .nil)))))))) .nil) rfl rfl (.cons (.dat (ek_TItem.rrec)) (.cons (.ptr rfl) .nil)) .bool ?_)
   cases hb : v4
   ·have h7 := iteBF h6 hb
    refine rl.done (RW.cond_f rfl (RW.skip (RW.reg (rl.run 2 rfl (rl.done ?_)))))
    cases h7
    exact hB1 _ rfl _ _ (Gh.renN [0] (.cells rfl rfl (.keep .int (.keep .int (.keep .int (.keep .int (.keep .int (.keep .str (.keep .str (.keep .str .nil)))))))) .nil) rfl rfl rfl (.cons rfl (.dat (ek_TItem.rlst)) (.cons rfl (RnL.fn (.cons (.ptr rfl) .nil)) (.cons rfl (.dat .int) (.cons rfl (.dat .int) .nil)))))
   ·have h8 := iteBT h6 hb
    refine rl.done (RW.cond_t rfl (RW.sreg (rl.run 2 rfl (rl.done ?_))))
    refine RW.kp [4] [(4, .j s1)] [some ⟨[.j x1.Kind, .j x1.Valid, .j x1.Uid, .j x1.Next, .j x1.Flags, .str x1.User, .str x1.Name, .str x1.Text], 0⟩] rfl rfl ?_
    refine RW.ret ?_
    cases h8
    have h9 := elimL h2 (hE1 _ rfl)
    cases h9
    exact RRetS.mk rfl .int (Gh.renN [0] (.cells rfl rfl (.keep .int (.keep .int (.keep .int (.keep .int (.keep .int (.keep .str (.keep .str (.keep .str .nil)))))))) .nil) rfl rfl rfl .nil)
 ·intro y2 hC
  have h2 := elimR h2 hC
  refine RW.sreg (rl.run 1 rfl (rl.done (RW.ret ?_)))
  cases h2
  exact RRetS.mk rfl .int (Gh.renN [0] (.cells rfl rfl (.keep .int (.keep .int (.keep .int (.keep .int (.keep .int (.keep .str (.keep .str (.keep .str .nil)))))))) .nil) rfl rfl rfl .nil)
theorem law_slices_ContainsFunc_Item_needed_2 {x0 : List TItem} {x1 : TRec} {r : Bool} (hF : F_slices_ContainsFunc_Item_needed_2 x0 x1 = some r) : ACalls Tryz.prog 1 158 [L_TItem x0, .fn 240 [.ptr 0 0]] [some ⟨[.j x1.Kind, .j x1.Valid, .j x1.Uid, .j x1.Next, .j x1.Flags, .str x1.User, .str x1.Name, .str x1.Text], 0⟩] (.bool r) [some ⟨[.j x1.Kind, .j x1.Valid, .j x1.Uid, .j x1.Next, .j x1.Flags, .str x1.User, .str x1.Name, .str x1.Text], 0⟩] := by
 refine ACalls.of_s k_slices_ContainsFunc_Item rfl ?_
 unfold F_slices_ContainsFunc_Item_needed_2 at hF
 refine RW.sreg (rl.run 1 rfl (rl.done (RW.sreg (rl.run 2 rfl ?_))))
 obtain ⟨v1, e1, h1⟩ := bindS hF
 refine rl.call rfl rfl rfl (CallW.embR [0] ok_slices_IndexFunc_Item (law_slices_IndexFunc_Item_needed_2 e1) (.cells rfl rfl (.keep .int (.keep .int (.keep .int (.keep .int (.keep .int (.keep .str (.keep .str (.keep .str .nil)))))))) .nil) rfl rfl (.cons (.dat (ek_TItem.rlst)) (.cons (RnL.fn (.cons (.ptr rfl) .nil)) .nil)) .int ?_)
 refine rl.run 2 rfl (rl.done (RW.ret ?_))
 cases h1
 exact RRetS.mk rfl .bool (Gh.renN [0] (.cells rfl rfl (.keep .int (.keep .int (.keep .int (.keep .int (.keep .int (.keep .str (.keep .str (.keep .str .nil)))))))) .nil) rfl rfl rfl .nil)
theorem law_impl_needed_3_w {x0 : TRec} {x1 : TRec} {r : Bool} (hF : F_impl_needed_3_w x0 x1 = some r) : ACalls Tryz.prog 1 241 [.agg (enc_TRec false x0), .ptr 0 0] [some ⟨[.j x1.Kind, .j x1.Valid, .j x1.Uid, .j x1.Next, .j x1.Flags, .str x1.User, .str x1.Name, .str x1.Text], 0⟩] (.bool r) [some ⟨[.j x1.Kind, .j x1.Valid, .j x1.Uid, .j x1.Next, .j x1.Flags, .str x1.User, .str x1.Name, .str x1.Text], 0⟩] := by
 refine ACalls.of_s k_impl_needed_3 rfl ?_
 unfold F_impl_needed_3_w at hF
 refine RW.sreg (rl.run 2 rfl (rl.done (RW.sreg (rl.run 3 rfl ?_))))
 obtain ⟨v1, e1, h1⟩ := bindS hF
 refine rl.call rfl rfl rfl (CallW.val (r' := .bool v1) ok_impl_about (law_impl_about e1) (.cons (DFL.agg (.cons .int (.cons .int (.cons .int (.cons .int (.cons .int (.cons .str (.cons .str (.cons .str .nil))))))))) (.cons .int (.cons .int .nil))) .refl ?_)
 refine rl.run 1 rfl (rl.done (RW.ret ?_))
 cases h1
 exact RRetS.mk rfl .bool (Gh.renN [0] (.cells rfl rfl (.keep .int (.keep .int (.keep .int (.keep .int (.keep .int (.keep .str (.keep .str (.keep .str .nil)))))))) .nil) rfl rfl rfl .nil)
theorem law_impl_latest_needed_3_bySeq {x0 : List TItem} {x1 : TRec} {r : TItem × Bool} (hF : F_impl_latest_needed_3_bySeq x0 x1 = some r) : ACalls Tryz.prog 1 162 [L_TItem x0, .fn 241 [.ptr 0 0], .fn 165 []] [some ⟨[.j x1.Kind, .j x1.Valid, .j x1.Uid, .j x1.Next, .j x1.Flags, .str x1.User, .str x1.Name, .str x1.Text], 0⟩] (.tup [.agg (enc_TItem true r.1), .bool r.2]) [some ⟨[.j x1.Kind, .j x1.Valid, .j x1.Uid, .j x1.Next, .j x1.Flags, .str x1.User, .str x1.Name, .str x1.Text], 0⟩] := by
 refine ACalls.of_s k_impl_latest rfl ?_
 unfold F_impl_latest_needed_3_bySeq at hF
 refine RW.sreg (rl.run 2 rfl (rl.done (RW.sreg (rl.run 4 rfl (rl.done (RW.seq (RW.sreg (rl.run 3 rfl (rl.done ?_)))))))))
 obtain ⟨y7, ey7, h2⟩ := bindS hF
 refine RW.cutq (σ := Bool × Int × Int × Int × Int × Int × Int × (List UInt8) × (List UInt8) × (List UInt8)) (fun y2 => [(6, .ptr 1 0), (8, .ptr 2 0), (9, .bool y2.1)]) (fun y2 => [some ⟨[.j x1.Kind, .j x1.Valid, .j x1.Uid, .j x1.Next, .j x1.Flags, .str x1.User, .str x1.Name, .str x1.Text], 0⟩, some ⟨[.j 0, .j 0, .j 0, .j 0, .j 0, .j 0, .str [], .str [], .str []], 0⟩, some ⟨[.j y2.2.1, .j y2.2.2.1, .j y2.2.2.2.1, .j y2.2.2.2.2.1, .j y2.2.2.2.2.2.1, .j y2.2.2.2.2.2.2.1, .str y2.2.2.2.2.2.2.2.1, .str y2.2.2.2.2.2.2.2.2.1, .str y2.2.2.2.2.2.2.2.2.2], 0⟩]) (fun y => y7 = y) (fun _ _ _ _ g h => RW.gh g h) ?_ ?_
 ·refine RW.blk ?_
  refine RW.iter (σ := Bool × Int × Int × Int × Int × Int × Int × Int × (List UInt8) × (List UInt8) × (List UInt8)) ey7 (fun s1 => [(1, .fn 241 [.ptr 0 0]), (2, .fn 165 []), (6, .ptr 1 0), (8, .ptr 2 0), (9, .bool s1.1), (13, L_TItem x0), (14, .j (x0.length : Int)), (15, .j s1.2.1)]) (fun s1 => [some ⟨[.j x1.Kind, .j x1.Valid, .j x1.Uid, .j x1.Next, .j x1.Flags, .str x1.User, .str x1.Name, .str x1.Text], 0⟩, some ⟨[.j 0, .j 0, .j 0, .j 0, .j 0, .j 0, .str [], .str [], .str []], 0⟩, some ⟨[.j s1.2.2.1, .j s1.2.2.2.1, .j s1.2.2.2.2.1, .j s1.2.2.2.2.2.1, .j s1.2.2.2.2.2.2.1, .j s1.2.2.2.2.2.2.2.1, .str s1.2.2.2.2.2.2.2.2.1, .str s1.2.2.2.2.2.2.2.2.2.1, .str s1.2.2.2.2.2.2.2.2.2.2], 0⟩]) (Gh.renN [0, 1, 2] (.cells rfl rfl (.keep .int (.keep .int (.keep .int (.keep .int (.keep .int (.keep .str (.keep .str (.keep .str .nil)))))))) (.cells rfl rfl (.keep .int (.keep .int (.keep .int (.keep .int (.keep .int (.keep .int (.keep .str (.keep .str (.keep .str .nil))))))))) (.cells rfl rfl (.keep .int (.keep .int (.keep .int (.keep .int (.keep .int (.keep .int (.keep .str (.keep .str (.keep .str .nil))))))))) .nil))) rfl rfl rfl (.cons rfl (RnL.fn (.cons (.ptr rfl) .nil)) (.cons rfl (RnL.fn .nil) (.cons rfl (.ptr rfl) (.cons rfl (.ptr rfl) (.cons rfl (.dat .bool) (.cons rfl (.dat (ek_TItem.rlst)) (.cons rfl (.dat .int) (.cons rfl (.dat .int) .nil))))))))) (fun s1 B o hS1 hB1 hE1 => ?_)
  unfold S_impl_latest_needed_3_bySeq_1 at hS1
  refine RW.sreg ?_
  refine rl.gen rfl rfl fun b hb => ?_
  cases b
  ·have h3 := iteBF hS1 hb
   refine rl.done (RW.seq (RW.cond_f rfl (RW.exit (blkA_eq ?_))))
   cases h3
   exact ⟨_, (hE1 _ rfl).symm, (Gh.renN [0, 1, 2] (.cells rfl rfl (.keep .int (.keep .int (.keep .int (.keep .int (.keep .int (.keep .str (.keep .str (.keep .str .nil)))))))) (.cells rfl rfl (.keep .int (.keep .int (.keep .int (.keep .int (.keep .int (.keep .int (.keep .str (.keep .str (.keep .str .nil))))))))) (.cells rfl rfl (.keep .int (.keep .int (.keep .int (.keep .int (.keep .int (.keep .int (.keep .str (.keep .str (.keep .str .nil))))))))) .nil))) rfl rfl rfl (.cons rfl (.ptr rfl) (.cons rfl (.ptr rfl) (.cons rfl (.dat .bool) .nil))))⟩
  ·have h4 := iteBT hS1 hb
   refine rl.done (RW.seq (RW.cond_t rfl (RW.skip (RW.seq (RW.blk (RW.sreg ?_))))))
   obtain ⟨v3, e3, h5⟩ := bindS h4
   refine rl.op (x_ia_lst (enc := enc_TItem) (o := false) rfl rfl rfl e3) ?_
   refine rl.op (x_ld_ela (off' := 0) (vs := (enc_TItem false v3)) ek_TItem rfl e3 rfl rfl rfl) ?_
   refine rl.run 2 rfl (rl.done (RW.seq ?_))
   obtain ⟨y4, ey4, h6⟩ := bindS h5
   refine RW.cutq (σ := Bool) (fun y4 => [(1, .fn 241 [.ptr 0 0]), (2, .fn 165 []), (6, .ptr 1 0), (8, .ptr 2 0), (9, .bool s1.1), (11, .ptr 3 0), (13, L_TItem x0), (14, .j (x0.length : Int)), (15, .j s1.2.1), (32, .bool y4)]) (fun y4 => [some ⟨[.j x1.Kind, .j x1.Valid, .j x1.Uid, .j x1.Next, .j x1.Flags, .str x1.User, .str x1.Name, .str x1.Text], 0⟩, some ⟨[.j 0, .j 0, .j 0, .j 0, .j 0, .j 0, .str [], .str [], .str []], 0⟩, some ⟨[.j s1.2.2.1, .j s1.2.2.2.1, .j s1.2.2.2.2.1, .j s1.2.2.2.2.2.1, .j s1.2.2.2.2.2.2.1, .j s1.2.2.2.2.2.2.2.1, .str s1.2.2.2.2.2.2.2.2.1, .str s1.2.2.2.2.2.2.2.2.2.1, .str s1.2.2.2.2.2.2.2.2.2.2], 0⟩, some ⟨[.j v3.Seq, .j v3.Rec.Kind, .j v3.Rec.Valid, .j v3.Rec.Uid, .j v3.Rec.Next, .j v3.Rec.Flags, .str v3.Rec.User, .str v3.Rec.Name, .str v3.Rec.Text], 0⟩]) (fun y => y4 = y) (fun _ _ _ _ g h => RW.gh g h) ?_ ?_
   ·refine RW.reg ?_
    refine rl.run 3 rfl ?_
    obtain ⟨v5, e5, h7⟩ := bindS ey4
    refine rl.call rfl rfl rfl (CallW.embR [0] ok_impl_needed_3 (law_impl_needed_3_w e5) (.cells rfl rfl (.keep .int (.keep .int (.keep .int (.keep .int (.keep .int (.keep .str (.keep .str (.keep .str .nil)))))))) .nil) rfl rfl (.cons (RnL.agg (.cons (.dat .int) (.cons (.dat .int) (.cons (.dat .int) (.cons (.dat .int) (.cons (.dat .int) (.cons (.dat .str) (.cons (.dat .str) (.cons (.dat .str) .nil))))))))) (.cons (.ptr rfl) .nil)) .bool ?_)
    cases hb : v5
    ·have h8 := iteBF h7 hb
     refine rl.run 10 rfl (rl.done ?_)
     cases h8
     exact ⟨_, rfl, (Gh.renN [0, 1, 2, 3] (.cells rfl rfl (.keep .int (.keep .int (.keep .int (.keep .int (.keep .int (.keep .str (.keep .str (.keep .str .nil)))))))) (.cells rfl rfl (.keep .int (.keep .int (.keep .int (.keep .int (.keep .int (.keep .int (.keep .str (.keep .str (.keep .str .nil))))))))) (.cells rfl rfl (.keep .int (.keep .int (.keep .int (.keep .int (.keep .int (.keep .int (.keep .str (.keep .str (.keep .str .nil))))))))) (.cells rfl rfl (.keep .int (.keep .int (.keep .int (.keep .int (.keep .int (.keep .int (.keep .str (.keep .str (.keep .str .nil))))))))) .nil)))) rfl rfl rfl (.cons rfl (RnL.fn (.cons (.ptr rfl) .nil)) (.cons rfl (RnL.fn .nil) (.cons rfl (.ptr rfl) (.cons rfl (.ptr rfl) (.cons rfl (.dat .bool) (.cons rfl (.ptr rfl) (.cons rfl (.dat (ek_TItem.rlst)) (.cons rfl (.dat .int) (.cons rfl (.dat .int) (.cons rfl (.dat .bool) .nil)))))))))))⟩
    ·have h9 := iteBT h7 hb
     refine rl.run 4 rfl ?_
     cases hb : (!s1.1)
     ·have h10 := iteBF h9 hb
      refine rl.run 3 rfl ?_
      obtain ⟨v6, e6, h11⟩ := bindS h10
      refine rl.call rfl rfl rfl (CallW.val (r' := .bool v6) ok_impl_bySeq (law_impl_bySeq e6) (.cons (DFL.agg (.cons .int (.cons .int (.cons .int (.cons .int (.cons .int (.cons .int (.cons .str (.cons .str (.cons .str .nil)))))))))) (.cons (DFL.agg (.cons .int (.cons .int (.cons .int (.cons .int (.cons .int (.cons .int (.cons .str (.cons .str (.cons .str .nil)))))))))) .nil)) .refl ?_)
      cases hb : v6
      ·have h12 := iteBF h11 hb
       refine rl.run 2 rfl (rl.done ?_)
       cases h12
       exact ⟨_, rfl, (Gh.renN [0, 1, 2, 3] (.cells rfl rfl (.keep .int (.keep .int (.keep .int (.keep .int (.keep .int (.keep .str (.keep .str (.keep .str .nil)))))))) (.cells rfl rfl (.keep .int (.keep .int (.keep .int (.keep .int (.keep .int (.keep .int (.keep .str (.keep .str (.keep .str .nil))))))))) (.cells rfl rfl (.keep .int (.keep .int (.keep .int (.keep .int (.keep .int (.keep .int (.keep .str (.keep .str (.keep .str .nil))))))))) (.cells rfl rfl (.keep .int (.keep .int (.keep .int (.keep .int (.keep .int (.keep .int (.keep .str (.keep .str (.keep .str .nil))))))))) .nil)))) rfl rfl rfl (.cons rfl (RnL.fn (.cons (.ptr rfl) .nil)) (.cons rfl (RnL.fn .nil) (.cons rfl (.ptr rfl) (.cons rfl (.ptr rfl) (.cons rfl (.dat .bool) (.cons rfl (.ptr rfl) (.cons rfl (.dat (ek_TItem.rlst)) (.cons rfl (.dat .int) (.cons rfl (.dat .int) (.cons rfl (.dat .bool) .nil)))))))))))⟩
      ·have h13 := iteBT h11 hb
       refine rl.run 2 rfl (rl.done ?_)
       cases h13
       exact ⟨_, rfl, (Gh.renN [0, 1, 2, 3] (.cells rfl rfl (.keep .int (.keep .int (.keep .int (.keep .int (.keep .int (.keep .str (.keep .str (.keep .str .nil)))))))) (.cells rfl rfl (.keep .int (.keep .int (.keep .int (.keep .int (.keep .int (.keep .int (.keep .str (.keep .str (.keep .str .nil))))))))) (.cells rfl rfl (.keep .int (.keep .int (.keep .int (.keep .int (.keep .int (.keep .int (.keep .str (.keep .str (.keep .str .nil))))))))) (.cells rfl rfl (.keep .int (.keep .int (.keep .int (.keep .int (.keep .int (.keep .int (.keep .str (.keep .str (.keep .str .nil))))))))) .nil)))) rfl rfl rfl (.cons rfl (RnL.fn (.cons (.ptr rfl) .nil)) (.cons rfl (RnL.fn .nil) (.cons rfl (.ptr rfl) (.cons rfl (.ptr rfl) (.cons rfl (.dat .bool) (.cons rfl (.ptr rfl) (.cons rfl (.dat (ek_TItem.rlst)) (.cons rfl (.dat .int) (.cons rfl (.dat .int) (.cons rfl (.dat .bool) .nil)))))))))))⟩
     ·have h14 := iteBT h9 hb
      refine rl.run 6 rfl (rl.done ?_)
      cases h14
      exact ⟨_, rfl, (Gh.renN [0, 1, 2, 3] (.cells rfl rfl (.keep .int (.keep .int (.keep .int (.keep .int (.keep .int (.keep .str (.keep .str (.keep .str .nil)))))))) (.cells rfl rfl (.keep .int (.keep .int (.keep .int (.keep .int (.keep .int (.keep .int (.keep .str (.keep .str (.keep .str .nil))))))))) (.cells rfl rfl (.keep .int (.keep .int (.keep .int (.keep .int (.keep .int (.keep .int (.keep .str (.keep .str (.keep .str .nil))))))))) (.cells rfl rfl (.keep .int (.keep .int (.keep .int (.keep .int (.keep .int (.keep .int (.keep .str (.keep .str (.keep .str .nil))))))))) .nil)))) rfl rfl rfl (.cons rfl (RnL.fn (.cons (.ptr rfl) .nil)) (.cons rfl (RnL.fn .nil) (.cons rfl (.ptr rfl) (.cons rfl (.ptr rfl) (.cons rfl (.dat .bool) (.cons rfl (.ptr rfl) (.cons rfl (.dat (ek_TItem.rlst)) (.cons rfl (.dat .int) (.cons rfl (.dat .int) (.cons rfl (.dat .bool) .nil)))))))))))⟩
   ·intro y hC
    subst hC
    cases hb : y4
    ·have h15 := iteBF h6 hb
     refine RW.cond_f rfl (RW.skip (RW.reg (rl.run 2 rfl (rl.done ?_))))
     cases h15
     exact hB1 _ rfl _ _ (Gh.renN [0, 1, 2] (.cells rfl rfl (.keep .int (.keep .int (.keep .int (.keep .int (.keep .int (.keep .str (.keep .str (.keep .str .nil)))))))) (.cells rfl rfl (.keep .int (.keep .int (.keep .int (.keep .int (.keep .int (.keep .int (.keep .str (.keep .str (.keep .str .nil))))))))) (.cells rfl rfl (.keep .int (.keep .int (.keep .int (.keep .int (.keep .int (.keep .int (.keep .str (.keep .str (.keep .str .nil))))))))) .nil))) rfl rfl rfl (.cons rfl (RnL.fn (.cons (.ptr rfl) .nil)) (.cons rfl (RnL.fn .nil) (.cons rfl (.ptr rfl) (.cons rfl (.ptr rfl) (.cons rfl (.dat .bool) (.cons rfl (.dat (ek_TItem.rlst)) (.cons rfl (.dat .int) (.cons rfl (.dat .int) .nil)))))))))
    ·have h16 := iteBT h6 hb
     refine RW.cond_t rfl (RW.reg (rl.run 3 rfl (rl.done (RW.reg (rl.run 2 rfl (rl.done ?_))))))
     cases h16
     exact hB1 _ rfl _ _ (Gh.renN [0, 1, 2] (.cells rfl rfl (.keep .int (.keep .int (.keep .int (.keep .int (.keep .int (.keep .str (.keep .str (.keep .str .nil)))))))) (.cells rfl rfl (.keep .int (.keep .int (.keep .int (.keep .int (.keep .int (.keep .int (.keep .str (.keep .str (.keep .str .nil))))))))) (.cells rfl rfl (.keep .int (.keep .int (.keep .int (.keep .int (.keep .int (.keep .int (.keep .str (.keep .str (.keep .str .nil))))))))) .nil))) rfl rfl rfl (.cons rfl (RnL.fn (.cons (.ptr rfl) .nil)) (.cons rfl (RnL.fn .nil) (.cons rfl (.ptr rfl) (.cons rfl (.ptr rfl) (.cons rfl (.dat .bool) (.cons rfl (.dat (ek_TItem.rlst)) (.cons rfl (.dat .int) (.cons rfl (.dat .int) .nil)))))))))
 ·intro y2 hC
  subst hC
  refine RW.sreg (rl.run 4 rfl (rl.done (RW.ret ?_)))
  cases h2
  exact RRetS.mk rfl (.tup (fac (.agg (sc_TItem _ _)) (fac .bool fan))) (Gh.renN [0] (.cells rfl rfl (.keep .int (.keep .int (.keep .int (.keep .int (.keep .int (.keep .str (.keep .str (.keep .str .nil)))))))) .nil) rfl rfl rfl .nil)
set_option maxHeartbeats 2000000 in
theorem law_impl_needed {x0 : List TItem} {x1 : Int} {r : Bool} (hF : F_impl_needed x0 x1 = some r) : PCalls Tryz.prog 231 [L_TItem x0, .j x1] (.bool r) := by
 refine PCalls.of_r k_impl_needed rfl ?_
 unfold F_impl_needed at hF
 refine RW.sreg (rl.run 1 rfl (rl.done (RW.sreg (rl.run 2 rfl ?_))))
 obtain ⟨v1, e1, h1⟩ := bindS hF
 refine rl.op (x_ia_lst (enc := enc_TItem) (o := false) rfl rfl rfl e1) ?_
 refine rl.op (x_ld_ela (off' := 0) (vs := (enc_TItem false v1)) ek_TItem rfl e1 rfl rfl rfl) ?_
 refine rl.run 2 rfl (rl.done (RW.seq (RW.sreg (rl.run 2 rfl ?_))))
 obtain ⟨v2, e2, h2⟩ := bindS h1
 refine rl.op (x_sle ek_TItem rfl rfl rfl abnd_hi e2) ?_
 refine rl.run 1 rfl ?_
 obtain ⟨v3, e3, h3⟩ := bindS h2
 refine rl.call rfl rfl rfl (CallW.embR [0] ok_slices_ContainsFunc_Item (law_slices_ContainsFunc_Item_needed_1 e3) (.cells rfl rfl (.keep .int (.keep .int (.keep .int (.keep .int (.keep .int (.keep .int (.keep .str (.keep .str (.keep .str .nil))))))))) .nil) rfl rfl (.cons (.dat (ek_TItem.rlst)) (.cons (RnL.fn (.cons (.ptr rfl) .nil)) .nil)) .bool ?_)
 cases hb : v3
 ·have h4 := iteBF h3 hb
  refine rl.done (RW.cond_f rfl (RW.skip (RW.sreg (rl.run 4 rfl (rl.done ?_)))))
  refine RW.kp [0, 5, 6] [(0, L_TItem x0), (5, .ptr 0 0), (6, .ptr 1 0)] [some ⟨[.j v1.Seq, .j v1.Rec.Kind, .j v1.Rec.Valid, .j v1.Rec.Uid, .j v1.Rec.Next, .j v1.Rec.Flags, .str v1.Rec.User, .str v1.Rec.Name, .str v1.Rec.Text], 0⟩, some ⟨[.j v1.Rec.Kind, .j v1.Rec.Valid, .j v1.Rec.Uid, .j v1.Rec.Next, .j v1.Rec.Flags, .str v1.Rec.User, .str v1.Rec.Name, .str v1.Rec.Text], 0⟩] rfl rfl ?_
  refine RW.sreg (rl.run 4 rfl (rl.done (RW.seq (RW.sreg (rl.run 2 rfl (rl.done ?_))))))
  obtain ⟨y4, ey4, h5⟩ := bindS h4
  refine RW.cutq (σ := Bool × Int × Int × Int × Int × Int × Int × (List UInt8) × (List UInt8) × (List UInt8)) (fun y4 => [(5, .ptr 0 0), (7, .ptr 1 0), (8, .bool y4.1)]) (fun y4 => [some ⟨[.j v1.Seq, .j v1.Rec.Kind, .j v1.Rec.Valid, .j v1.Rec.Uid, .j v1.Rec.Next, .j v1.Rec.Flags, .str v1.Rec.User, .str v1.Rec.Name, .str v1.Rec.Text], 0⟩, some ⟨[.j y4.2.1, .j y4.2.2.1, .j y4.2.2.2.1, .j y4.2.2.2.2.1, .j y4.2.2.2.2.2.1, .j y4.2.2.2.2.2.2.1, .str y4.2.2.2.2.2.2.2.1, .str y4.2.2.2.2.2.2.2.2.1, .str y4.2.2.2.2.2.2.2.2.2], 0⟩]) (fun y => y4 = .inr y) (fun _ _ _ _ g h => RW.gh g h) ?_ ?_
  ·refine RW.blk ?_
   refine RW.sreg ?_
   refine rl.gen rfl rfl fun b hb => ?_
   cases b
   ·have h6 := iteBF ey4 hb
    refine rl.run 1 rfl (rl.done (RW.cond_f rfl (RW.sreg ?_)))
    refine rl.gen rfl rfl fun b hb => ?_
    cases b
    ·have h7 := iteBF h6 hb
     refine rl.run 1 rfl (rl.done (RW.cond_f rfl (RW.seq (RW.sreg ?_))))
     refine rl.gen rfl rfl fun b hb => ?_
     cases b
     ·have h8 := iteBF h7 hb
      refine rl.run 1 rfl (rl.done ?_)
      obtain ⟨y5, ey5, h9⟩ := bindS h8
      refine RW.cutq (σ := Bool) (fun y5 => [(0, L_TItem x0), (5, .ptr 0 0), (6, .ptr 1 0), (7, .ptr 2 0), (8, .bool false), (28, .j v1.Rec.Kind), (50, .bool y5)]) (fun y5 => [some ⟨[.j v1.Seq, .j v1.Rec.Kind, .j v1.Rec.Valid, .j v1.Rec.Uid, .j v1.Rec.Next, .j v1.Rec.Flags, .str v1.Rec.User, .str v1.Rec.Name, .str v1.Rec.Text], 0⟩, some ⟨[.j v1.Rec.Kind, .j v1.Rec.Valid, .j v1.Rec.Uid, .j v1.Rec.Next, .j v1.Rec.Flags, .str v1.Rec.User, .str v1.Rec.Name, .str v1.Rec.Text], 0⟩, some ⟨[.j 0, .j 0, .j 0, .j 0, .j 0, .j 0, .str [], .str [], .str []], 0⟩]) (fun y => y5 = y) (fun _ _ _ _ g h => RW.gh g h) ?_ ?_
      ·refine RW.cond_f rfl ?_
       refine RW.reg ?_
       refine rl.gen rfl rfl fun b hb => ?_
       cases b
       ·have h10 := iteBF ey5 hb
        refine rl.run 1 rfl (rl.done ?_)
        cases h10
        exact ⟨_, rfl, (Gh.ren0 [0, 1, 2] (.cells rfl rfl (.keep .int (.keep .int (.keep .int (.keep .int (.keep .int (.keep .int (.keep .str (.keep .str (.keep .str .nil))))))))) (.cells rfl rfl (.keep .int (.keep .int (.keep .int (.keep .int (.keep .int (.keep .str (.keep .str (.keep .str .nil)))))))) (.cells rfl rfl (.keep .int (.keep .int (.keep .int (.keep .int (.keep .int (.keep .int (.keep .str (.keep .str (.keep .str .nil))))))))) .nil))) rfl (.cons rfl (.dat (ek_TItem.rlst)) (.cons rfl (.ptr rfl) (.cons rfl (.ptr rfl) (.cons rfl (.ptr rfl) (.cons rfl (.dat .bool) (.cons rfl (.dat .int) (.cons rfl (.dat .bool) .nil))))))))⟩
       ·have h11 := iteBT ey5 hb
        refine rl.run 1 rfl (rl.done ?_)
        cases h11
        exact ⟨_, rfl, (Gh.ren0 [0, 1, 2] (.cells rfl rfl (.keep .int (.keep .int (.keep .int (.keep .int (.keep .int (.keep .int (.keep .str (.keep .str (.keep .str .nil))))))))) (.cells rfl rfl (.keep .int (.keep .int (.keep .int (.keep .int (.keep .int (.keep .str (.keep .str (.keep .str .nil)))))))) (.cells rfl rfl (.keep .int (.keep .int (.keep .int (.keep .int (.keep .int (.keep .int (.keep .str (.keep .str (.keep .str .nil))))))))) .nil))) rfl (.cons rfl (.dat (ek_TItem.rlst)) (.cons rfl (.ptr rfl) (.cons rfl (.ptr rfl) (.cons rfl (.ptr rfl) (.cons rfl (.dat .bool) (.cons rfl (.dat .int) (.cons rfl (.dat .bool) .nil))))))))⟩
      ·intro y hC
       subst hC
       cases hb : y5
       ·have h12 := iteBF h9 hb
        refine RW.cond_f rfl (RW.sreg ?_)
        refine rl.gen rfl rfl fun b hb => ?_
        cases b
        ·have h13 := iteBF h12 hb
         refine rl.run 1 rfl (rl.done (RW.cond_f rfl (RW.skip ?_)))
         cases h13
         exact ⟨_, rfl, (Gh.ren0 [0, 2] (.cells rfl rfl (.keep .int (.keep .int (.keep .int (.keep .int (.keep .int (.keep .int (.keep .str (.keep .str (.keep .str .nil))))))))) (.cells rfl rfl (.keep .int (.keep .int (.keep .int (.keep .int (.keep .int (.keep .int (.keep .str (.keep .str (.keep .str .nil))))))))) .nil)) rfl (.cons rfl (.ptr rfl) (.cons rfl (.ptr rfl) (.cons rfl (.dat .bool) .nil))))⟩
        ·have h14 := iteBT h12 hb
         refine rl.run 1 rfl (rl.done (RW.cond_t rfl (RW.sreg (rl.run 3 rfl ?_))))
         obtain ⟨v6, e6, h15⟩ := bindS h14
         refine rl.call rfl rfl rfl (CallW.val (r' := .tup [.agg (enc_TItem false v6.1), .bool v6.2]) ok_impl_boxThere (law_impl_boxThere e6) (.cons (.lst ek_TItem) (.cons .int .nil)) (FlL.tup (.cons .refl (.cons .refl .nil))) ?_)
         refine rl.run 6 rfl (rl.done ?_)
         refine RW.kp [0, 5, 6, 7, 12] [(0, L_TItem x0), (5, .ptr 0 0), (6, .ptr 1 0), (7, .ptr 2 0), (12, .bool v6.2)] [some ⟨[.j v1.Seq, .j v1.Rec.Kind, .j v1.Rec.Valid, .j v1.Rec.Uid, .j v1.Rec.Next, .j v1.Rec.Flags, .str v1.Rec.User, .str v1.Rec.Name, .str v1.Rec.Text], 0⟩, some ⟨[.j v1.Rec.Kind, .j v1.Rec.Valid, .j v1.Rec.Uid, .j v1.Rec.Next, .j v1.Rec.Flags, .str v1.Rec.User, .str v1.Rec.Name, .str v1.Rec.Text], 0⟩, some ⟨[.j 0, .j 0, .j 0, .j 0, .j 0, .j 0, .str [], .str [], .str []], 0⟩, some ⟨[.j v6.1.Seq, .j v6.1.Rec.Kind, .j v6.1.Rec.Valid, .j v6.1.Rec.Uid, .j v6.1.Rec.Next, .j v6.1.Rec.Flags, .str v6.1.Rec.User, .str v6.1.Rec.Name, .str v6.1.Rec.Text], 0⟩] rfl rfl ?_
         refine RW.sreg (rl.run 5 rfl ?_)
         obtain ⟨v7, e7, h16⟩ := bindS h15
         refine rl.call rfl rfl rfl (CallW.val (r' := .tup [.agg (enc_TItem false v7.1), .bool v7.2]) ok_impl_mailItem (law_impl_mailItem e7) (.cons (.lst ek_TItem) (.cons .int (.cons .int (.cons .int .nil)))) (FlL.tup (.cons .refl (.cons .refl .nil))) ?_)
         refine rl.run 6 rfl (rl.done (RW.seq (RW.sreg (rl.run 3 rfl ?_))))
         cases hb : (!v6.2)
         ·have h17 := iteBF h16 hb
          refine rl.run 3 rfl (rl.done ?_)
          refine RW.kp [0, 5, 6, 7, 98] [(0, L_TItem x0), (5, .ptr 0 0), (6, .ptr 1 0), (7, .ptr 2 0), (98, .bool (!v7.2))] [some ⟨[.j v1.Seq, .j v1.Rec.Kind, .j v1.Rec.Valid, .j v1.Rec.Uid, .j v1.Rec.Next, .j v1.Rec.Flags, .str v1.Rec.User, .str v1.Rec.Name, .str v1.Rec.Text], 0⟩, some ⟨[.j v1.Rec.Kind, .j v1.Rec.Valid, .j v1.Rec.Uid, .j v1.Rec.Next, .j v1.Rec.Flags, .str v1.Rec.User, .str v1.Rec.Name, .str v1.Rec.Text], 0⟩, some ⟨[.j 0, .j 0, .j 0, .j 0, .j 0, .j 0, .str [], .str [], .str []], 0⟩, some ⟨[.j v6.1.Seq, .j v6.1.Rec.Kind, .j v6.1.Rec.Valid, .j v6.1.Rec.Uid, .j v6.1.Rec.Next, .j v6.1.Rec.Flags, .str v6.1.Rec.User, .str v6.1.Rec.Name, .str v6.1.Rec.Text], 0⟩, some ⟨[.j v7.1.Seq, .j v7.1.Rec.Kind, .j v7.1.Rec.Valid, .j v7.1.Rec.Uid, .j v7.1.Rec.Next, .j v7.1.Rec.Flags, .str v7.1.Rec.User, .str v7.1.Rec.Name, .str v7.1.Rec.Text], 0⟩] rfl rfl ?_
          cases hb : (!v7.2)
          ·have h18 := iteBF h17 hb
           refine RW.cond_f rfl (RW.skip (RW.reg (rl.run 5 rfl ?_)))
           obtain ⟨v8, e8, h19⟩ := bindS h18
           refine rl.call rfl rfl rfl (CallW.val (r' := .tup [.agg (enc_TItem false v8.1), .bool v8.2]) ok_impl_mailItem (law_impl_mailItem e8) (.cons (.lst ek_TItem) (.cons .int (.cons .int (.cons .int .nil)))) (FlL.tup (.cons .refl (.cons .refl .nil))) ?_)
           refine rl.run 5 rfl (rl.done ?_)
           cases h19
           exact ⟨_, rfl, (Gh.ren0 [0, 2] (.cells rfl rfl (.keep .int (.keep .int (.keep .int (.keep .int (.keep .int (.keep .int (.keep .str (.keep .str (.keep .str .nil))))))))) (.cells rfl rfl (.keep .int (.keep .int (.keep .int (.keep .int (.keep .int (.keep .int (.keep .str (.keep .str (.keep .str .nil))))))))) .nil)) rfl (.cons rfl (.ptr rfl) (.cons rfl (.ptr rfl) (.cons rfl (.dat .bool) .nil))))⟩
          ·have h20 := iteBT h17 hb
           refine RW.cond_t rfl (RW.sreg (rl.run 1 rfl (rl.done (RW.ret ?_))))
           cases h20
           have h21 := elimL h5 rfl
           cases h21
           exact RRet.mk rfl .bool (by first | decide | simp)
         ·have h22 := iteBT h16 hb
          refine rl.run 3 rfl (rl.done ?_)
          refine RW.kp [0, 5, 6, 7, 98] [(0, L_TItem x0), (5, .ptr 0 0), (6, .ptr 1 0), (7, .ptr 2 0), (98, .bool true)] [some ⟨[.j v1.Seq, .j v1.Rec.Kind, .j v1.Rec.Valid, .j v1.Rec.Uid, .j v1.Rec.Next, .j v1.Rec.Flags, .str v1.Rec.User, .str v1.Rec.Name, .str v1.Rec.Text], 0⟩, some ⟨[.j v1.Rec.Kind, .j v1.Rec.Valid, .j v1.Rec.Uid, .j v1.Rec.Next, .j v1.Rec.Flags, .str v1.Rec.User, .str v1.Rec.Name, .str v1.Rec.Text], 0⟩, some ⟨[.j 0, .j 0, .j 0, .j 0, .j 0, .j 0, .str [], .str [], .str []], 0⟩, some ⟨[.j v6.1.Seq, .j v6.1.Rec.Kind, .j v6.1.Rec.Valid, .j v6.1.Rec.Uid, .j v6.1.Rec.Next, .j v6.1.Rec.Flags, .str v6.1.Rec.User, .str v6.1.Rec.Name, .str v6.1.Rec.Text], 0⟩, some ⟨[.j v7.1.Seq, .j v7.1.Rec.Kind, .j v7.1.Rec.Valid, .j v7.1.Rec.Uid, .j v7.1.Rec.Next, .j v7.1.Rec.Flags, .str v7.1.Rec.User, .str v7.1.Rec.Name, .str v7.1.Rec.Text], 0⟩] rfl rfl ?_
          refine RW.cond_t rfl (RW.sreg (rl.run 1 rfl (rl.done (RW.ret ?_))))
          cases h22
          have h23 := elimL h5 rfl
          cases h23
          exact RRet.mk rfl .bool (by first | decide | simp)
       ·have h24 := iteBT h9 hb
        refine RW.cond_t rfl (RW.seq (RW.sreg (rl.run 5 rfl ?_)))
        obtain ⟨v9, e9, h25⟩ := bindS h24
        refine rl.call rfl rfl rfl (CallW.val (r' := .tup [.agg (enc_TItem false v9.1), .bool v9.2]) ok_impl_mailThere (law_impl_mailThere e9) (.cons (.lst ek_TItem) (.cons .int (.cons .int .nil))) (FlL.tup (.cons .refl (.cons .refl .nil))) ?_)
        refine rl.run 6 rfl (rl.done ?_)
        refine RW.kp [0, 5, 6, 7, 10] [(0, L_TItem x0), (5, .ptr 0 0), (6, .ptr 1 0), (7, .ptr 2 0), (10, .bool v9.2)] [some ⟨[.j v1.Seq, .j v1.Rec.Kind, .j v1.Rec.Valid, .j v1.Rec.Uid, .j v1.Rec.Next, .j v1.Rec.Flags, .str v1.Rec.User, .str v1.Rec.Name, .str v1.Rec.Text], 0⟩, some ⟨[.j v1.Rec.Kind, .j v1.Rec.Valid, .j v1.Rec.Uid, .j v1.Rec.Next, .j v1.Rec.Flags, .str v1.Rec.User, .str v1.Rec.Name, .str v1.Rec.Text], 0⟩, some ⟨[.j 0, .j 0, .j 0, .j 0, .j 0, .j 0, .str [], .str [], .str []], 0⟩, some ⟨[.j v9.1.Seq, .j v9.1.Rec.Kind, .j v9.1.Rec.Valid, .j v9.1.Rec.Uid, .j v9.1.Rec.Next, .j v9.1.Rec.Flags, .str v9.1.Rec.User, .str v9.1.Rec.Name, .str v9.1.Rec.Text], 0⟩] rfl rfl ?_
        refine RW.sreg (rl.run 2 rfl (rl.done ?_))
        cases hb : (!v9.2)
        ·have h26 := iteBF h25 hb
         refine RW.cond_f rfl (RW.skip (RW.reg (rl.run 7 rfl ?_)))
         obtain ⟨v10, e10, h27⟩ := bindS h26
         refine rl.call rfl rfl rfl (CallW.val (r' := .tup [.agg (enc_TItem false v10.1), .bool v10.2]) ok_impl_mailItem (law_impl_mailItem e10) (.cons (.lst ek_TItem) (.cons .int (.cons .int (.cons .int .nil)))) (FlL.tup (.cons .refl (.cons .refl .nil))) ?_)
         refine rl.run 5 rfl (rl.done ?_)
         cases h27
         exact ⟨_, rfl, (Gh.ren0 [0, 2] (.cells rfl rfl (.keep .int (.keep .int (.keep .int (.keep .int (.keep .int (.keep .int (.keep .str (.keep .str (.keep .str .nil))))))))) (.cells rfl rfl (.keep .int (.keep .int (.keep .int (.keep .int (.keep .int (.keep .int (.keep .str (.keep .str (.keep .str .nil))))))))) .nil)) rfl (.cons rfl (.ptr rfl) (.cons rfl (.ptr rfl) (.cons rfl (.dat .bool) .nil))))⟩
        ·have h28 := iteBT h25 hb
         refine RW.cond_t rfl (RW.sreg (rl.run 1 rfl (rl.done (RW.ret ?_))))
         cases h28
         have h29 := elimL h5 rfl
         cases h29
         exact RRet.mk rfl .bool (by first | decide | simp)
     ·have h30 := iteBT h7 hb
      refine rl.run 1 rfl (rl.done (RW.cond_t rfl (RW.skip (RW.cond_t rfl (RW.seq (RW.sreg (rl.run 5 rfl ?_)))))))
      obtain ⟨v11, e11, h31⟩ := bindS h30
      refine rl.call rfl rfl rfl (CallW.val (r' := .tup [.agg (enc_TItem false v11.1), .bool v11.2]) ok_impl_mailThere (law_impl_mailThere e11) (.cons (.lst ek_TItem) (.cons .int (.cons .int .nil))) (FlL.tup (.cons .refl (.cons .refl .nil))) ?_)
      refine rl.run 6 rfl (rl.done ?_)
      refine RW.kp [0, 5, 6, 7, 10] [(0, L_TItem x0), (5, .ptr 0 0), (6, .ptr 1 0), (7, .ptr 2 0), (10, .bool v11.2)] [some ⟨[.j v1.Seq, .j v1.Rec.Kind, .j v1.Rec.Valid, .j v1.Rec.Uid, .j v1.Rec.Next, .j v1.Rec.Flags, .str v1.Rec.User, .str v1.Rec.Name, .str v1.Rec.Text], 0⟩, some ⟨[.j v1.Rec.Kind, .j v1.Rec.Valid, .j v1.Rec.Uid, .j v1.Rec.Next, .j v1.Rec.Flags, .str v1.Rec.User, .str v1.Rec.Name, .str v1.Rec.Text], 0⟩, some ⟨[.j 0, .j 0, .j 0, .j 0, .j 0, .j 0, .str [], .str [], .str []], 0⟩, some ⟨[.j v11.1.Seq, .j v11.1.Rec.Kind, .j v11.1.Rec.Valid, .j v11.1.Rec.Uid, .j v11.1.Rec.Next, .j v11.1.Rec.Flags, .str v11.1.Rec.User, .str v11.1.Rec.Name, .str v11.1.Rec.Text], 0⟩] rfl rfl ?_
      refine RW.sreg (rl.run 2 rfl (rl.done ?_))
      cases hb : (!v11.2)
      ·have h32 := iteBF h31 hb
       refine RW.cond_f rfl (RW.skip (RW.reg (rl.run 7 rfl ?_)))
       obtain ⟨v12, e12, h33⟩ := bindS h32
       refine rl.call rfl rfl rfl (CallW.val (r' := .tup [.agg (enc_TItem false v12.1), .bool v12.2]) ok_impl_mailItem (law_impl_mailItem e12) (.cons (.lst ek_TItem) (.cons .int (.cons .int (.cons .int .nil)))) (FlL.tup (.cons .refl (.cons .refl .nil))) ?_)
       refine rl.run 5 rfl (rl.done ?_)
       cases h33
       exact ⟨_, rfl, (Gh.ren0 [0, 2] (.cells rfl rfl (.keep .int (.keep .int (.keep .int (.keep .int (.keep .int (.keep .int (.keep .str (.keep .str (.keep .str .nil))))))))) (.cells rfl rfl (.keep .int (.keep .int (.keep .int (.keep .int (.keep .int (.keep .int (.keep .str (.keep .str (.keep .str .nil))))))))) .nil)) rfl (.cons rfl (.ptr rfl) (.cons rfl (.ptr rfl) (.cons rfl (.dat .bool) .nil))))⟩
      ·have h34 := iteBT h31 hb
       refine RW.cond_t rfl (RW.sreg (rl.run 1 rfl (rl.done (RW.ret ?_))))
       cases h34
       have h35 := elimL h5 rfl
       cases h35
       exact RRet.mk rfl .bool (by first | decide | simp)
    ·have h36 := iteBT h6 hb
     refine rl.run 1 rfl (rl.done (RW.cond_t rfl (RW.seq (RW.sreg (rl.run 2 rfl ?_)))))
     obtain ⟨v13, e13, h37⟩ := bindS h36
     refine rl.call rfl rfl rfl (CallW.embR [1] ok_slices_ContainsFunc_Item (law_slices_ContainsFunc_Item_needed_2 e13) (.cells rfl rfl (.keep .int (.keep .int (.keep .int (.keep .int (.keep .int (.keep .str (.keep .str (.keep .str .nil)))))))) .nil) rfl rfl (.cons (.dat (ek_TItem.rlst)) (.cons (RnL.fn (.cons (.ptr rfl) .nil)) .nil)) .bool ?_)
     cases hb : v13
     ·have h38 := iteBF h37 hb
      refine rl.run 1 rfl (rl.done ?_)
      refine RW.kp [0, 5, 6, 7, 43] [(0, L_TItem x0), (5, .ptr 0 0), (6, .ptr 1 0), (7, .ptr 2 0), (43, .bool true)] [some ⟨[.j v1.Seq, .j v1.Rec.Kind, .j v1.Rec.Valid, .j v1.Rec.Uid, .j v1.Rec.Next, .j v1.Rec.Flags, .str v1.Rec.User, .str v1.Rec.Name, .str v1.Rec.Text], 0⟩, some ⟨[.j v1.Rec.Kind, .j v1.Rec.Valid, .j v1.Rec.Uid, .j v1.Rec.Next, .j v1.Rec.Flags, .str v1.Rec.User, .str v1.Rec.Name, .str v1.Rec.Text], 0⟩, some ⟨[.j 0, .j 0, .j 0, .j 0, .j 0, .j 0, .str [], .str [], .str []], 0⟩] rfl rfl ?_
      refine RW.cond_t rfl (RW.sreg (rl.run 1 rfl (rl.done (RW.ret ?_))))
      cases h38
      have h39 := elimL h5 rfl
      cases h39
      exact RRet.mk rfl .bool (by first | decide | simp)
     ·have h40 := iteBT h37 hb
      refine rl.run 1 rfl (rl.done ?_)
      refine RW.kp [0, 5, 6, 7, 43] [(0, L_TItem x0), (5, .ptr 0 0), (6, .ptr 1 0), (7, .ptr 2 0), (43, .bool false)] [some ⟨[.j v1.Seq, .j v1.Rec.Kind, .j v1.Rec.Valid, .j v1.Rec.Uid, .j v1.Rec.Next, .j v1.Rec.Flags, .str v1.Rec.User, .str v1.Rec.Name, .str v1.Rec.Text], 0⟩, some ⟨[.j v1.Rec.Kind, .j v1.Rec.Valid, .j v1.Rec.Uid, .j v1.Rec.Next, .j v1.Rec.Flags, .str v1.Rec.User, .str v1.Rec.Name, .str v1.Rec.Text], 0⟩, some ⟨[.j 0, .j 0, .j 0, .j 0, .j 0, .j 0, .str [], .str [], .str []], 0⟩] rfl rfl ?_
      refine RW.cond_f rfl (RW.skip (RW.reg (rl.run 2 rfl ?_)))
      obtain ⟨v14, e14, h41⟩ := bindS h40
      refine rl.call rfl rfl rfl (CallW.embR [1] ok_impl_latest (law_impl_latest_needed_3_bySeq e14) (.cells rfl rfl (.keep .int (.keep .int (.keep .int (.keep .int (.keep .int (.keep .str (.keep .str (.keep .str .nil)))))))) .nil) rfl rfl (.cons (.dat (ek_TItem.rlst)) (.cons (RnL.fn (.cons (.ptr rfl) .nil)) (.cons (RnL.fn .nil) .nil))) (.tup (fac (.agg (sc_TItem _ _)) (fac .bool fan))) ?_)
      refine rl.run 5 rfl (rl.done ?_)
      cases h41
      exact ⟨_, rfl, (Gh.ren0 [0, 2] (.cells rfl rfl (.keep .int (.keep .int (.keep .int (.keep .int (.keep .int (.keep .int (.keep .str (.keep .str (.keep .str .nil))))))))) (.cells rfl rfl (.keep .int (.keep .int (.keep .int (.keep .int (.keep .int (.keep .int (.keep .str (.keep .str (.keep .str .nil))))))))) .nil)) rfl (.cons rfl (.ptr rfl) (.cons rfl (.ptr rfl) (.cons rfl (.dat .bool) .nil))))⟩
   ·have h42 := iteBT ey4 hb
    refine rl.run 1 rfl (rl.done (RW.cond_t rfl (RW.reg (rl.run 3 rfl ?_))))
    obtain ⟨v15, e15, h43⟩ := bindS h42
    refine rl.call rfl rfl rfl (CallW.val (r' := .tup [.agg (enc_TItem false v15.1), .bool v15.2]) ok_impl_boxThere (law_impl_boxThere e15) (.cons (.lst ek_TItem) (.cons .int .nil)) (FlL.tup (.cons .refl (.cons .refl .nil))) ?_)
    refine rl.run 5 rfl (rl.done ?_)
    cases h43
    exact ⟨_, rfl, (Gh.ren0 [0, 2] (.cells rfl rfl (.keep .int (.keep .int (.keep .int (.keep .int (.keep .int (.keep .int (.keep .str (.keep .str (.keep .str .nil))))))))) (.cells rfl rfl (.keep .int (.keep .int (.keep .int (.keep .int (.keep .int (.keep .int (.keep .str (.keep .str (.keep .str .nil))))))))) .nil)) rfl (.cons rfl (.ptr rfl) (.cons rfl (.ptr rfl) (.cons rfl (.dat .bool) .nil))))⟩
  ·intro y4_ hC
   have h5 := elimR h5 hC
   refine RW.sreg (rl.run 2 rfl ?_)
   cases hb : y4_.1
   ·have h44 := iteBF h5 hb
    refine rl.run 5 rfl (rl.done (RW.ret ?_))
    cases h44
    exact RRet.mk rfl .bool (by first | decide | simp)
   ·have h45 := iteBT h5 hb
    refine rl.run 5 rfl (rl.done (RW.ret ?_))
    cases h45
    exact RRet.mk rfl .bool (by first | decide | simp)
 ·have h46 := iteBT h3 hb
  refine rl.done (RW.cond_t rfl (RW.sreg (rl.run 1 rfl (rl.done ?_))))
  refine RW.kp [4] [(4, .bool false)] [some ⟨[.j v1.Seq, .j v1.Rec.Kind, .j v1.Rec.Valid, .j v1.Rec.Uid, .j v1.Rec.Next, .j v1.Rec.Flags, .str v1.Rec.User, .str v1.Rec.Name, .str v1.Rec.Text], 0⟩] rfl rfl ?_
  refine RW.ret ?_
  cases h46
  exact RRet.mk rfl .bool (by first | decide | simp)
set_option maxHeartbeats 2000000 in
theorem law_impl_NeededAll {x0 : List TItem} {r : List Bool} (hF : F_impl_NeededAll x0 = some r) : PCalls Tryz.prog 206 [L_TItem x0] (.lst true 1 (fl (encO true) r) r.length) := by
 refine PCalls.of_r k_impl_NeededAll rfl ?_
 unfold F_impl_NeededAll at hF
 refine RW.sreg (rl.run 1 rfl (rl.done (RW.sreg (rl.run 1 rfl ?_))))
 obtain ⟨v1, e1, h1⟩ := bindS hF
 refine rl.call rfl rfl rfl (CallW.val (r' := .bool v1) ok_impl_ItemsOk (law_impl_ItemsOk e1) (.cons (.lst ek_TItem) .nil) .refl ?_)
 cases hb : v1
 ·have h2 := iteBF h1 hb
  refine rl.run 1 rfl (rl.done (RW.sreg (rl.run 2 rfl (rl.done (RW.seq (RW.sreg (rl.run 3 rfl (rl.done ?_))))))))
  refine RW.gh (Gh.nil_t 4 1 rfl) ?_
  obtain ⟨y5, ey5, h4⟩ := bindS h2
  refine RW.cutq (σ := (List Bool)) (fun y3 => [(4, .sl 0 0 y3.length)]) (fun y3 => [some ⟨fl (encO true) y3, 1⟩]) (fun y => y5 = y) (fun _ _ _ _ g h => RW.gh g h) ?_ ?_
  ·refine RW.blk ?_
   refine RW.iter (σ := Int × (List Bool)) ey5 (fun s2 => [(0, L_TItem x0), (3, .bool false), (4, .sl 0 0 s2.2.length), (10, .j (x0.length : Int)), (11, .j s2.1)]) (fun s2 => [some ⟨fl (encO true) s2.2, 1⟩]) (Gh.ren0 [0] (.same rfl (ekO.fref _ _) .nil) rfl (.cons rfl (.dat (ek_TItem.rlst)) (.cons rfl (.dat .bool) (.cons rfl (.slq rfl rfl) (.cons rfl (.dat .int) (.cons rfl (.dat .int) .nil)))))) (fun s2 B o hS3 hB3 hE3 => ?_)
   unfold S_impl_NeededAll_1 at hS3
   refine RW.sreg ?_
   refine rl.gen rfl rfl fun b hb => ?_
   cases b
   ·have h5 := iteBF hS3 hb
    refine rl.done (RW.seq (RW.cond_f rfl (RW.exit (blkA_eq ?_))))
    cases h5
    exact ⟨_, (hE3 _ rfl).symm, (Gh.ren0 [0] (.same rfl (ekO.fref _ _) .nil) rfl (.cons rfl (.slq rfl rfl) .nil))⟩
   ·have h6 := iteBT hS3 hb
    refine rl.done (RW.seq (RW.cond_t rfl (RW.skip (RW.seq (RW.blk (RW.sreg (rl.run 2 rfl (rl.done (RW.reg (rl.run 8 rfl ?_))))))))))
    obtain ⟨v4, e4, h7⟩ := bindS h6
    refine rl.op (x_app rfl rfl (rapp_sl (l := s2.2) (m := [false]) (o := true) ekO rfl rfl (acont_slq (m := [false]) (o := true) fkO rfl rfl) rfl (fkO.fst _ _) e4)) ?_
    refine rl.run 1 rfl (rl.done (RW.reg (rl.run 2 rfl (rl.done ?_))))
    cases h7
    exact hB3 _ rfl _ _ (Gh.ren0 [2] (.same rfl (ekO.fref _ _) .nil) rfl (.cons rfl (.dat (ek_TItem.rlst)) (.cons rfl (.dat .bool) (.cons rfl (.slq rfl rfl) (.cons rfl (.dat .int) (.cons rfl (.dat .int) .nil))))))
  ·intro y3 hC
   subst hC
   refine RW.sreg (rl.run 2 rfl (rl.done (RW.ret ?_)))
   cases h4
   exact RRet.mk rfl (OutR.ownq ekO rfl rfl) (by first | decide | simp)
 ·have h8 := iteBT h1 hb
  refine rl.run 1 rfl (rl.done (RW.sreg (rl.run 2 rfl (rl.done (RW.seq (RW.sreg (rl.run 3 rfl (rl.done ?_))))))))
  refine RW.gh (Gh.nil_t 4 1 rfl) ?_
  obtain ⟨y10, ey10, h10⟩ := bindS h8
  refine RW.cutq (σ := (List Bool)) (fun y7 => [(4, .sl 0 0 y7.length)]) (fun y7 => [some ⟨fl (encO true) y7, 1⟩]) (fun y => y10 = y) (fun _ _ _ _ g h => RW.gh g h) ?_ ?_
  ·refine RW.blk ?_
   refine RW.iter (σ := Int × (List Bool)) ey10 (fun s6 => [(0, L_TItem x0), (3, .bool true), (4, .sl 0 0 s6.2.length), (10, .j (x0.length : Int)), (11, .j s6.1)]) (fun s6 => [some ⟨fl (encO true) s6.2, 1⟩]) (Gh.ren0 [0] (.same rfl (ekO.fref _ _) .nil) rfl (.cons rfl (.dat (ek_TItem.rlst)) (.cons rfl (.dat .bool) (.cons rfl (.slq rfl rfl) (.cons rfl (.dat .int) (.cons rfl (.dat .int) .nil)))))) (fun s6 B o hS9 hB9 hE9 => ?_)
   unfold S_impl_NeededAll_2 at hS9
   refine RW.sreg ?_
   refine rl.gen rfl rfl fun b hb => ?_
   cases b
   ·have h11 := iteBF hS9 hb
    refine rl.done (RW.seq (RW.cond_f rfl (RW.exit (blkA_eq ?_))))
    cases h11
    exact ⟨_, (hE9 _ rfl).symm, (Gh.ren0 [0] (.same rfl (ekO.fref _ _) .nil) rfl (.cons rfl (.slq rfl rfl) .nil))⟩
   ·have h12 := iteBT hS9 hb
    refine rl.done (RW.seq (RW.cond_t rfl (RW.skip (RW.seq (RW.blk (RW.sreg (rl.run 2 rfl (rl.done (RW.reg (rl.run 5 rfl ?_))))))))))
    obtain ⟨v8, e8, h13⟩ := bindS h12
    refine rl.call rfl rfl rfl (CallW.val (r' := .bool v8) ok_impl_needed (law_impl_needed e8) (.cons (.lst ek_TItem) (.cons .int .nil)) .refl ?_)
    refine rl.run 2 rfl ?_
    obtain ⟨v9, e9, h14⟩ := bindS h13
    refine rl.op (x_app rfl rfl (rapp_sl (l := s6.2) (m := [v8]) (o := true) ekO rfl rfl (acont_slq (m := [v8]) (o := true) fkO rfl rfl) rfl (fkO.fst _ _) e9)) ?_
    refine rl.run 1 rfl (rl.done (RW.reg (rl.run 2 rfl (rl.done ?_))))
    cases h14
    exact hB9 _ rfl _ _ (Gh.ren0 [2] (.same rfl (ekO.fref _ _) .nil) rfl (.cons rfl (.dat (ek_TItem.rlst)) (.cons rfl (.dat .bool) (.cons rfl (.slq rfl rfl) (.cons rfl (.dat .int) (.cons rfl (.dat .int) .nil))))))
  ·intro y7 hC
   subst hC
   refine RW.sreg (rl.run 2 rfl (rl.done (RW.ret ?_)))
   cases h10
   exact RRet.mk rfl (OutR.ownq ekO rfl rfl) (by first | decide | simp)
theorem law_impl_keptItems {x0 : TStore} {r : List TItem} (hF : F_impl_keptItems x0 = some r) : PCalls Tryz.prog 207 [.agg (enc_TStore false x0)] (.lst true 9 (fl (enc_TItem true) r) r.length) := by
 refine PCalls.of_r k_impl_keptItems rfl ?_
 unfold F_impl_keptItems at hF
 refine RW.sreg (rl.run 2 rfl (rl.done (RW.sreg (rl.run 2 rfl (rl.done (RW.seq (RW.sreg (rl.run 5 rfl (rl.done ?_)))))))))
 refine RW.gh (Gh.nil_t 3 9 rfl) ?_
 obtain ⟨y6, ey6, h2⟩ := bindS hF
 refine RW.cutq (σ := (List TItem)) (fun y2 => [(3, .sl 0 0 y2.length)]) (fun y2 => [some ⟨fl (enc_TItem true) y2, 9⟩]) (fun y => y6 = y) (fun _ _ _ _ g h => RW.gh g h) ?_ ?_
 ·refine RW.blk ?_
  refine RW.iter (σ := Int × (List TItem)) ey6 (fun s1 => [(1, .ptr 0 0), (3, .sl 1 0 s1.2.length), (9, L_TSeg x0.Log.Used), (10, .j (x0.Log.Used.length : Int)), (11, .j s1.1)]) (fun s1 => [some ⟨[L_S x0.Log.Disk.Sectors, L_TWrite x0.Log.Disk.Cache, .j x0.Log.Segs, L_TSeg x0.Log.Used, .j x0.Log.NextGen, .j x0.Log.NextSeq, .j x0.Log.Stamp, .j x0.Log.NextValid, L_I x0.Freed], 0⟩, some ⟨fl (enc_TItem true) s1.2, 9⟩]) (Gh.ren0 [0, 1] (.cells rfl rfl (.keep (ekS.rlst) (.keep (ek_TWrite.rlst) (.keep .int (.keep (ek_TSeg.rlst) (.keep .int (.keep .int (.keep .int (.keep .int (.keep (ekI.rlst) .nil))))))))) (.same rfl (ek_TItem.fref _ _) .nil)) rfl (.cons rfl (.ptr rfl) (.cons rfl (.slq rfl rfl) (.cons rfl (.dat (ek_TSeg.rlst)) (.cons rfl (.dat .int) (.cons rfl (.dat .int) .nil)))))) (fun s1 B o hS1 hB1 hE1 => ?_)
  unfold S_impl_keptItems_1 at hS1
  refine RW.sreg ?_
  refine rl.gen rfl rfl fun b hb => ?_
  cases b
  ·have h3 := iteBF hS1 hb
   refine rl.done (RW.seq (RW.cond_f rfl (RW.exit (blkA_eq ?_))))
   cases h3
   exact ⟨_, (hE1 _ rfl).symm, (Gh.ren0 [1] (.same rfl (ek_TItem.fref _ _) .nil) rfl (.cons rfl (.slq rfl rfl) .nil))⟩
  ·have h4 := iteBT hS1 hb
   refine rl.done (RW.seq (RW.cond_t rfl (RW.skip (RW.seq (RW.blk (RW.sreg ?_))))))
   obtain ⟨v3, e3, h5⟩ := bindS h4
   refine rl.op (x_ia_lst (enc := enc_TSeg) (o := false) rfl rfl rfl e3) ?_
   refine rl.op (x_ld_ela (off' := 0) (vs := (enc_TSeg false v3)) ek_TSeg rfl e3 rfl rfl rfl) ?_
   refine rl.run 2 rfl (rl.done (RW.sreg (rl.run 3 rfl ?_)))
   obtain ⟨v4, e4, h6⟩ := bindS h5
   refine rl.call rfl rfl rfl (CallW.val (r' := .bool v4) ok_impl_isFreed (law_impl_isFreed e4) (.cons (DFL.agg (.cons (.lst ekS) (.cons (.lst ek_TWrite) (.cons .int (.cons (.lst ek_TSeg) (.cons .int (.cons .int (.cons .int (.cons .int (.cons (.lst ekI) .nil)))))))))) (.cons .int .nil)) .refl ?_)
   cases hb : v4
   ·have h7 := iteBF h6 hb
    refine rl.run 1 rfl (rl.done (RW.cond_t rfl (RW.reg (rl.run 3 rfl ?_))))
    obtain ⟨v5, e5, h8⟩ := bindS h7
    refine rl.op (x_app rfl rfl (rapp_sl (l := s1.2) (m := v3.Items) (o := true) ek_TItem rfl rfl acont_lst rfl (fk_TItem.fst _ _) e5)) ?_
    refine rl.run 1 rfl (rl.done (RW.reg (rl.run 2 rfl (rl.done ?_))))
    cases h8
    exact hB1 _ rfl _ _ (Gh.ren0 [0, 3] (.cells rfl rfl (.keep (ekS.rlst) (.keep (ek_TWrite.rlst) (.keep .int (.keep (ek_TSeg.rlst) (.keep .int (.keep .int (.keep .int (.keep .int (.keep (ekI.rlst) .nil))))))))) (.same rfl (ek_TItem.fref _ _) .nil)) rfl (.cons rfl (.ptr rfl) (.cons rfl (.slq rfl rfl) (.cons rfl (.dat (ek_TSeg.rlst)) (.cons rfl (.dat .int) (.cons rfl (.dat .int) .nil))))))
   ·have h9 := iteBT h6 hb
    refine rl.run 1 rfl (rl.done (RW.cond_f rfl (RW.skip (RW.reg (rl.run 2 rfl (rl.done ?_))))))
    cases h9
    exact hB1 _ rfl _ _ (Gh.ren0 [0, 1] (.cells rfl rfl (.keep (ekS.rlst) (.keep (ek_TWrite.rlst) (.keep .int (.keep (ek_TSeg.rlst) (.keep .int (.keep .int (.keep .int (.keep .int (.keep (ekI.rlst) .nil))))))))) (.same rfl (ek_TItem.fref _ _) .nil)) rfl (.cons rfl (.ptr rfl) (.cons rfl (.slq rfl rfl) (.cons rfl (.dat (ek_TSeg.rlst)) (.cons rfl (.dat .int) (.cons rfl (.dat .int) .nil))))))
 ·intro y2 hC
  subst hC
  refine RW.sreg (rl.run 2 rfl (rl.done (RW.ret ?_)))
  cases h2
  exact RRet.mk rfl (OutR.ownq ek_TItem rfl rfl) (by first | decide | simp)
set_option maxHeartbeats 2000000 in
theorem law_impl_liveOf {x0 : TStore} {x1 : Int} {r : List Int} (hF : F_impl_liveOf x0 x1 = some r) : PCalls Tryz.prog 177 [.agg (enc_TStore false x0), .j x1] (.lst true 1 (fl (encI true) r) r.length) := by
 refine PCalls.of_r k_impl_liveOf rfl ?_
 unfold F_impl_liveOf at hF
 refine RW.sreg (rl.run 2 rfl (rl.done (RW.sreg (rl.run 1 rfl (rl.done (RW.seq (RW.sreg (rl.run 4 rfl ?_))))))))
 obtain ⟨v1, e1, h1⟩ := bindS hF
 refine rl.op (x_sle ek_TSeg rfl rfl rfl abnd_hi e1) ?_
 refine rl.run 2 rfl (rl.done ?_)
 obtain ⟨y6, ey6, h3⟩ := bindS h1
 refine RW.cutq (σ := Int) (fun y3 => [(1, .j x1), (2, .ptr 0 0), (5, .j y3)]) (fun y3 => [some ⟨[L_S x0.Log.Disk.Sectors, L_TWrite x0.Log.Disk.Cache, .j x0.Log.Segs, L_TSeg x0.Log.Used, .j x0.Log.NextGen, .j x0.Log.NextSeq, .j x0.Log.Stamp, .j x0.Log.NextValid, L_I x0.Freed], 0⟩]) (fun y => y6 = y) (fun _ _ _ _ g h => RW.gh g h) ?_ ?_
 ·refine RW.blk ?_
  refine RW.iter (σ := Int × Int) ey6 (fun s2 => [(1, .j x1), (2, .ptr 0 0), (5, .j s2.1), (15, L_TSeg v1), (16, .j (v1.length : Int)), (17, .j s2.2)]) (fun s2 => [some ⟨[L_S x0.Log.Disk.Sectors, L_TWrite x0.Log.Disk.Cache, .j x0.Log.Segs, L_TSeg x0.Log.Used, .j x0.Log.NextGen, .j x0.Log.NextSeq, .j x0.Log.Stamp, .j x0.Log.NextValid, L_I x0.Freed], 0⟩]) (Gh.ren0 [0] (.cells rfl rfl (.keep (ekS.rlst) (.keep (ek_TWrite.rlst) (.keep .int (.keep (ek_TSeg.rlst) (.keep .int (.keep .int (.keep .int (.keep .int (.keep (ekI.rlst) .nil))))))))) .nil) rfl (.cons rfl (.dat .int) (.cons rfl (.ptr rfl) (.cons rfl (.dat .int) (.cons rfl (.dat (ek_TSeg.rlst)) (.cons rfl (.dat .int) (.cons rfl (.dat .int) .nil))))))) (fun s2 B o hS2 hB2 hE2 => ?_)
  unfold S_impl_liveOf_1 at hS2
  refine RW.sreg ?_
  refine rl.gen rfl rfl fun b hb => ?_
  cases b
  ·have h4 := iteBF hS2 hb
   refine rl.done (RW.seq (RW.cond_f rfl (RW.exit (blkA_eq ?_))))
   cases h4
   exact ⟨_, (hE2 _ rfl).symm, (Gh.ren0 [0] (.cells rfl rfl (.keep (ekS.rlst) (.keep (ek_TWrite.rlst) (.keep .int (.keep (ek_TSeg.rlst) (.keep .int (.keep .int (.keep .int (.keep .int (.keep (ekI.rlst) .nil))))))))) .nil) rfl (.cons rfl (.dat .int) (.cons rfl (.ptr rfl) (.cons rfl (.dat .int) .nil))))⟩
  ·have h5 := iteBT hS2 hb
   refine rl.done (RW.seq (RW.cond_t rfl (RW.skip (RW.seq (RW.blk (RW.sreg ?_))))))
   obtain ⟨v4, e4, h6⟩ := bindS h5
   refine rl.op (x_ia_lst (enc := enc_TSeg) (o := false) rfl rfl rfl e4) ?_
   refine rl.op (x_ld_ela (off' := 0) (vs := (enc_TSeg false v4)) ek_TSeg rfl e4 rfl rfl rfl) ?_
   refine rl.run 2 rfl (rl.done (RW.sreg (rl.run 3 rfl ?_)))
   obtain ⟨v5, e5, h7⟩ := bindS h6
   refine rl.call rfl rfl rfl (CallW.val (r' := .bool v5) ok_impl_isFreed (law_impl_isFreed e5) (.cons (DFL.agg (.cons (.lst ekS) (.cons (.lst ek_TWrite) (.cons .int (.cons (.lst ek_TSeg) (.cons .int (.cons .int (.cons .int (.cons .int (.cons (.lst ekI) .nil)))))))))) (.cons .int .nil)) .refl ?_)
   cases hb : v5
   ·have h8 := iteBF h7 hb
    refine rl.run 1 rfl (rl.done (RW.cond_t rfl (RW.reg (rl.run 6 rfl (rl.done (RW.reg (rl.run 2 rfl (rl.done ?_))))))))
    cases h8
    exact hB2 _ rfl _ _ (Gh.ren0 [0] (.cells rfl rfl (.keep (ekS.rlst) (.keep (ek_TWrite.rlst) (.keep .int (.keep (ek_TSeg.rlst) (.keep .int (.keep .int (.keep .int (.keep .int (.keep (ekI.rlst) .nil))))))))) .nil) rfl (.cons rfl (.dat .int) (.cons rfl (.ptr rfl) (.cons rfl (.dat .int) (.cons rfl (.dat (ek_TSeg.rlst)) (.cons rfl (.dat .int) (.cons rfl (.dat .int) .nil)))))))
   ·have h9 := iteBT h7 hb
    refine rl.run 1 rfl (rl.done (RW.cond_f rfl (RW.skip (RW.reg (rl.run 2 rfl (rl.done ?_))))))
    cases h9
    exact hB2 _ rfl _ _ (Gh.ren0 [0] (.cells rfl rfl (.keep (ekS.rlst) (.keep (ek_TWrite.rlst) (.keep .int (.keep (ek_TSeg.rlst) (.keep .int (.keep .int (.keep .int (.keep .int (.keep (ekI.rlst) .nil))))))))) .nil) rfl (.cons rfl (.dat .int) (.cons rfl (.ptr rfl) (.cons rfl (.dat .int) (.cons rfl (.dat (ek_TSeg.rlst)) (.cons rfl (.dat .int) (.cons rfl (.dat .int) .nil)))))))
 ·intro y3 hC
  subst hC
  refine RW.sreg (rl.run 1 rfl ?_)
  obtain ⟨v7, e7, h10⟩ := bindS h3
  refine rl.call rfl rfl rfl (CallW.val (r' := L_TItem v7) ok_impl_keptItems (law_impl_keptItems e7) (.cons (DFL.agg (.cons (.lst ekS) (.cons (.lst ek_TWrite) (.cons .int (.cons (.lst ek_TSeg) (.cons .int (.cons .int (.cons .int (.cons .int (.cons (.lst ekI) .nil)))))))))) .nil) (ek_TItem.fflag _).lst ?_)
  obtain ⟨v8, e8, h11⟩ := bindS h10
  refine rl.call rfl rfl rfl (CallW.val (r' := L_O v8) ok_impl_NeededAll (law_impl_NeededAll e8) (.cons (.lst ek_TItem) .nil) (ekO.fflag _).lst ?_)
  refine rl.run 1 rfl (rl.done (RW.sreg (rl.run 2 rfl (rl.done (RW.seq (RW.sreg (rl.run 4 rfl ?_)))))))
  obtain ⟨v9, e9, h12⟩ := bindS h11
  refine rl.op (x_ia_lst (enc := enc_TSeg) (o := false) rfl rfl rfl e9) ?_
  refine rl.run 1 rfl ?_
  refine rl.op (x_ld_el (off' := 3) ek_TSeg rfl e9 rfl rfl rfl) ?_
  refine rl.run 2 rfl (rl.done ?_)
  refine RW.kp [5, 8, 9, 43, 44] [(5, .j y6), (8, L_O v8), (9, .nils), (43, .j (v9.Items.length : Int)), (44, .j 0)] [some ⟨[L_S x0.Log.Disk.Sectors, L_TWrite x0.Log.Disk.Cache, .j x0.Log.Segs, L_TSeg x0.Log.Used, .j x0.Log.NextGen, .j x0.Log.NextSeq, .j x0.Log.Stamp, .j x0.Log.NextValid, L_I x0.Freed], 0⟩] rfl rfl ?_
  refine RW.gh (Gh.nil_t 9 1 rfl) ?_
  obtain ⟨y14, ey14, h14⟩ := bindS h12
  refine RW.cutq (σ := (List Int)) (fun y11 => [(9, .sl 0 0 y11.length)]) (fun y11 => [some ⟨fl (encI true) y11, 1⟩]) (fun y => y14 = y) (fun _ _ _ _ g h => RW.gh g h) ?_ ?_
  ·refine RW.blk ?_
   refine RW.iter (σ := Int × (List Int)) ey14 (fun s10 => [(5, .j y6), (8, L_O v8), (9, .sl 0 0 s10.2.length), (43, .j (v9.Items.length : Int)), (44, .j s10.1)]) (fun s10 => [some ⟨fl (encI true) s10.2, 1⟩]) (Gh.ren0 [1] (.same rfl (ekI.fref _ _) .nil) rfl (.cons rfl (.dat .int) (.cons rfl (.dat (ekO.rlst)) (.cons rfl (.slq rfl rfl) (.cons rfl (.dat .int) (.cons rfl (.dat .int) .nil)))))) (fun s10 B o hS13 hB13 hE13 => ?_)
   unfold S_impl_liveOf_2 at hS13
   refine RW.sreg ?_
   refine rl.gen rfl rfl fun b hb => ?_
   cases b
   ·have h15 := iteBF hS13 hb
    refine rl.done (RW.seq (RW.cond_f rfl (RW.exit (blkA_eq ?_))))
    cases h15
    exact ⟨_, (hE13 _ rfl).symm, (Gh.ren0 [0] (.same rfl (ekI.fref _ _) .nil) rfl (.cons rfl (.slq rfl rfl) .nil))⟩
   ·have h16 := iteBT hS13 hb
    refine rl.done (RW.seq (RW.cond_t rfl (RW.skip (RW.seq (RW.blk (RW.sreg (rl.run 2 rfl (rl.done (RW.sreg (rl.run 4 rfl ?_))))))))))
    obtain ⟨v12, e12, h17⟩ := bindS h16
    refine rl.op (x_ia_lst (enc := encO) (o := false) rfl rfl rfl e12) ?_
    refine rl.op (x_ld_el (off' := 0) ekO rfl e12 rfl rfl rfl) ?_
    refine rl.done ?_
    cases hb : v12
    ·have h18 := iteBF h17 hb
     refine RW.cond_f rfl (RW.skip (RW.reg (rl.run 2 rfl (rl.done ?_))))
     cases h18
     exact hB13 _ rfl _ _ (Gh.ren0 [0] (.same rfl (ekI.fref _ _) .nil) rfl (.cons rfl (.dat .int) (.cons rfl (.dat (ekO.rlst)) (.cons rfl (.slq rfl rfl) (.cons rfl (.dat .int) (.cons rfl (.dat .int) .nil))))))
    ·have h19 := iteBT h17 hb
     refine RW.cond_t rfl (RW.reg (rl.run 3 rfl ?_))
     obtain ⟨v13, e13, h20⟩ := bindS h19
     refine rl.op (x_app rfl rfl (rapp_sl (l := s10.2) (m := [s10.1]) (o := true) ekI rfl rfl (acont_slq (m := [s10.1]) (o := true) fkI rfl rfl) rfl (fkI.fst _ _) e13)) ?_
     refine rl.run 1 rfl (rl.done (RW.reg (rl.run 2 rfl (rl.done ?_))))
     cases h20
     exact hB13 _ rfl _ _ (Gh.ren0 [2] (.same rfl (ekI.fref _ _) .nil) rfl (.cons rfl (.dat .int) (.cons rfl (.dat (ekO.rlst)) (.cons rfl (.slq rfl rfl) (.cons rfl (.dat .int) (.cons rfl (.dat .int) .nil))))))
  ·intro y11 hC
   subst hC
   refine RW.sreg (rl.run 2 rfl (rl.done (RW.ret ?_)))
   cases h14
   exact RRet.mk rfl (OutR.ownq ekI rfl rfl) (by first | decide | simp)
theorem law_impl_LiveOf {x0 : TStore} {x1 : Int} {r : Int} (hF : F_impl_LiveOf x0 x1 = some r) : PCalls Tryz.prog 113 [.agg (enc_TStore false x0), .j x1] (.j r) := by
 refine PCalls.of_r k_impl_LiveOf rfl ?_
 unfold F_impl_LiveOf at hF
 refine RW.sreg (rl.run 2 rfl (rl.done (RW.seq (RW.sreg (rl.run 2 rfl ?_)))))
 obtain ⟨v1, e1, h1⟩ := bindS hF
 refine rl.call rfl rfl rfl (CallW.val (r' := .bool v1) ok_impl_segAt (law_impl_segAt e1) (.cons (DFL.agg (.cons (.lst ekS) (.cons (.lst ek_TWrite) (.cons .int (.cons (.lst ek_TSeg) (.cons .int (.cons .int (.cons .int (.cons .int (.cons (.lst ekI) .nil)))))))))) (.cons .int .nil)) .refl ?_)
 cases hb : v1
 ·have h2 := iteBF h1 hb
  refine rl.run 1 rfl (rl.done (RW.cond_t rfl (RW.sreg (rl.run 1 rfl (rl.done (RW.ret ?_))))))
  cases h2
  exact RRet.mk rfl .int (by first | decide | simp)
 ·have h3 := iteBT h1 hb
  refine rl.run 1 rfl (rl.done (RW.cond_f rfl (RW.skip (RW.sreg (rl.run 4 rfl ?_)))))
  obtain ⟨v2, e2, h4⟩ := bindS h3
  refine rl.op (x_ia_lst (enc := enc_TSeg) (o := false) rfl rfl rfl e2) ?_
  refine rl.op (x_ld_ela (off' := 0) (vs := (enc_TSeg false v2)) ek_TSeg rfl e2 rfl rfl rfl) ?_
  refine rl.run 2 rfl (rl.done ?_)
  refine RW.kp [1, 2, 5] [(1, .j x1), (2, .ptr 0 0), (5, .ptr 1 0)] [some ⟨[L_S x0.Log.Disk.Sectors, L_TWrite x0.Log.Disk.Cache, .j x0.Log.Segs, L_TSeg x0.Log.Used, .j x0.Log.NextGen, .j x0.Log.NextSeq, .j x0.Log.Stamp, .j x0.Log.NextValid, L_I x0.Freed], 0⟩, some ⟨[.j v2.No, .j v2.Gen, .j v2.End, L_TItem v2.Items], 0⟩] rfl rfl ?_
  refine RW.sreg (rl.run 1 rfl (rl.done (RW.seq (RW.sreg (rl.run 2 rfl ?_)))))
  obtain ⟨v3, e3, h5⟩ := bindS h4
  refine rl.call rfl rfl rfl (CallW.val (r' := L_I v3) ok_impl_liveOf (law_impl_liveOf e3) (.cons (DFL.agg (.cons (.lst ekS) (.cons (.lst ek_TWrite) (.cons .int (.cons (.lst ek_TSeg) (.cons .int (.cons .int (.cons .int (.cons .int (.cons (.lst ekI) .nil)))))))))) (.cons .int .nil)) (ekI.fflag _).lst ?_)
  refine rl.run 2 rfl (rl.done ?_)
  obtain ⟨y10, ey10, h7⟩ := bindS h5
  refine RW.cutq (σ := Int) (fun y5 => [(6, .j y5)]) (fun y5 => []) (fun y => y10 = y) (fun _ _ _ _ g h => RW.gh g h) ?_ ?_
  ·refine RW.blk ?_
   refine RW.iter (σ := Int × Int) ey10 (fun s4 => [(5, .ptr 0 0), (6, .j s4.1), (23, L_I v3), (24, .j (v3.length : Int)), (25, .j s4.2)]) (fun s4 => [some ⟨[.j v2.No, .j v2.Gen, .j v2.End, L_TItem v2.Items], 0⟩]) (Gh.ren0 [1] (.cells rfl rfl (.keep .int (.keep .int (.keep .int (.keep (ek_TItem.rlst) .nil)))) .nil) rfl (.cons rfl (.ptr rfl) (.cons rfl (.dat .int) (.cons rfl (.dat (ekI.rlst)) (.cons rfl (.dat .int) (.cons rfl (.dat .int) .nil)))))) (fun s4 B o hS6 hB6 hE6 => ?_)
   unfold S_impl_LiveOf_1 at hS6
   refine RW.sreg ?_
   refine rl.gen rfl rfl fun b hb => ?_
   cases b
   ·have h8 := iteBF hS6 hb
    refine rl.done (RW.seq (RW.cond_f rfl (RW.exit (blkA_eq ?_))))
    cases h8
    exact ⟨_, (hE6 _ rfl).symm, (Gh.ren0 [] .nil rfl (.cons rfl (.dat .int) .nil))⟩
   ·have h9 := iteBT hS6 hb
    refine rl.done (RW.seq (RW.cond_t rfl (RW.skip (RW.seq (RW.blk (RW.sreg ?_))))))
    obtain ⟨v6, e6, h10⟩ := bindS h9
    refine rl.op (x_ia_lst (enc := encI) (o := false) rfl rfl rfl e6) ?_
    refine rl.op (x_ld_el (off' := 0) ekI rfl e6 rfl rfl rfl) ?_
    refine rl.run 1 rfl (rl.done (RW.sdrw (rdraw.op rfl rfl (rdraw.op rfl rfl (rdraw.op rfl rfl ?_)))))
    obtain ⟨v7, e7, h11⟩ := bindS h10
    refine rdraw.op rfl (x_ia_lst (enc := enc_TItem) (o := false) rfl rfl rfl e7) ?_
    refine rdraw.op rfl (x_ld_ela (off' := 0) (vs := (enc_TItem false v7)) ek_TItem rfl e7 rfl rfl rfl) ?_
    refine rdraw.op rfl rfl (rdraw.op rfl rfl ?_)
    obtain ⟨v8, e8, h12⟩ := bindS h11
    refine rdraw.call rfl rfl rfl (CallW.val (r' := .tup [.agg (enc_TFrame false v8.1), .bool v8.2]) ok_impl_ItemFrame (law_impl_ItemFrame e8) (.cons (.dat (.agg (ek_TItem.dat false _))) (.cons .int .nil)) (FlL.tup (.cons .refl (.cons .refl .nil))) ⟨rfl, ?_⟩)
    refine rdraw.op rfl rfl (rdraw.op rfl rfl (rdraw.op rfl rfl ?_))
    refine rdraw.chnB rfl rfl (.here (.rx rfl) (.here (.rx rfl) (.here (.rx rfl) (.here (.cl rfl rfl (CallW.val (r' := .tup [.agg (enc_TFrame false v8.1), .bool v8.2]) ok_impl_ItemFrame (law_impl_ItemFrame e8) (.cons (.dat (.agg (ek_TItem.dat false _))) (.cons .int .nil)) (FlL.tup (.cons .refl (.cons .refl .nil))) ⟨rfl, rfl⟩)) (.here (.rx rfl) (.here (.rx rfl) (.here (.rx (x_ld_ela (off' := 0) (vs := (enc_TItem false v7)) ek_TItem rfl e7 rfl rfl rfl)) (.here (.rx (x_ia_lst (enc := enc_TItem) (o := false) rfl rfl rfl e7)) (.here (.rx rfl) (.here (.rx rfl) (.here (.rx rfl) .nil))))))))))) ?_
    refine rdraw.chnB rfl rfl (.here (.rx rfl) (.skip rfl (.skip rfl (.skip rfl (.skip rfl (.skip rfl (.skip rfl (.skip rfl (.skip rfl (.skip rfl (.skip rfl .nil))))))))))) ?_
    refine rdraw.op rfl rfl (rdraw.done ?_)
    refine RW.kp [5, 6, 9, 23, 24, 25] [(5, .ptr 0 0), (6, .j s4.1), (9, .ptr 1 0), (23, L_I v3), (24, .j (v3.length : Int)), (25, .j s4.2)] [some ⟨[.j v2.No, .j v2.Gen, .j v2.End, L_TItem v2.Items], 0⟩, some ⟨[.j v8.1.Gen, .j v8.1.Seq, .str v8.1.Body], 0⟩] rfl rfl ?_
    refine RW.reg (rl.run 2 rfl ?_)
    obtain ⟨v9, e9, h13⟩ := bindS h12
    refine rl.call rfl rfl rfl (CallW.val (r' := .j v9) ok_impl_FrameSize (law_impl_FrameSize e9) (.cons (DFL.agg (.cons .int (.cons .int (.cons .str .nil)))) .nil) .refl ?_)
    refine rl.run 2 rfl (rl.done (RW.reg (rl.run 2 rfl (rl.done ?_))))
    cases h13
    exact hB6 _ rfl _ _ (Gh.ren0 [0] (.cells rfl rfl (.keep .int (.keep .int (.keep .int (.keep (ek_TItem.rlst) .nil)))) .nil) rfl (.cons rfl (.ptr rfl) (.cons rfl (.dat .int) (.cons rfl (.dat (ekI.rlst)) (.cons rfl (.dat .int) (.cons rfl (.dat .int) .nil))))))
  ·intro y5 hC
   subst hC
   refine RW.sreg (rl.run 2 rfl (rl.done (RW.ret ?_)))
   cases h7
   exact RRet.mk rfl .int (by first | decide | simp)
theorem law_impl_LiveBytes {x0 : TStore} {r : Int} (hF : F_impl_LiveBytes x0 = some r) : PCalls Tryz.prog 60 [.agg (enc_TStore false x0)] (.j r) := by
 refine PCalls.of_r k_impl_LiveBytes rfl ?_
 unfold F_impl_LiveBytes at hF
 refine RW.sreg (rl.run 2 rfl (rl.done (RW.sreg (rl.run 1 rfl (rl.done (RW.seq (RW.sreg (rl.run 5 rfl (rl.done ?_)))))))))
 obtain ⟨y4, ey4, h2⟩ := bindS hF
 refine RW.cutq (σ := Int) (fun y2 => [(3, .j y2)]) (fun y2 => []) (fun y => y4 = y) (fun _ _ _ _ g h => RW.gh g h) ?_ ?_
 ·refine RW.blk ?_
  refine RW.iter (σ := Int × Int) ey4 (fun s1 => [(1, .ptr 0 0), (3, .j s1.1), (8, .j (x0.Log.Used.length : Int)), (9, .j s1.2)]) (fun s1 => [some ⟨[L_S x0.Log.Disk.Sectors, L_TWrite x0.Log.Disk.Cache, .j x0.Log.Segs, L_TSeg x0.Log.Used, .j x0.Log.NextGen, .j x0.Log.NextSeq, .j x0.Log.Stamp, .j x0.Log.NextValid, L_I x0.Freed], 0⟩]) (Gh.ren0 [0] (.cells rfl rfl (.keep (ekS.rlst) (.keep (ek_TWrite.rlst) (.keep .int (.keep (ek_TSeg.rlst) (.keep .int (.keep .int (.keep .int (.keep .int (.keep (ekI.rlst) .nil))))))))) .nil) rfl (.cons rfl (.ptr rfl) (.cons rfl (.dat .int) (.cons rfl (.dat .int) (.cons rfl (.dat .int) .nil))))) (fun s1 B o hS1 hB1 hE1 => ?_)
  unfold S_impl_LiveBytes_1 at hS1
  refine RW.sreg ?_
  refine rl.gen rfl rfl fun b hb => ?_
  cases b
  ·have h3 := iteBF hS1 hb
   refine rl.done (RW.seq (RW.cond_f rfl (RW.exit (blkA_eq ?_))))
   cases h3
   exact ⟨_, (hE1 _ rfl).symm, (Gh.ren0 [] .nil rfl (.cons rfl (.dat .int) .nil))⟩
  ·have h4 := iteBT hS1 hb
   refine rl.done (RW.seq (RW.cond_t rfl (RW.skip (RW.seq (RW.blk (RW.sreg (rl.run 2 rfl (rl.done (RW.reg (rl.run 3 rfl ?_))))))))))
   obtain ⟨v3, e3, h5⟩ := bindS h4
   refine rl.call rfl rfl rfl (CallW.val (r' := .j v3) ok_impl_LiveOf (law_impl_LiveOf e3) (.cons (DFL.agg (.cons (.lst ekS) (.cons (.lst ek_TWrite) (.cons .int (.cons (.lst ek_TSeg) (.cons .int (.cons .int (.cons .int (.cons .int (.cons (.lst ekI) .nil)))))))))) (.cons .int .nil)) .refl ?_)
   refine rl.run 2 rfl (rl.done (RW.reg (rl.run 2 rfl (rl.done ?_))))
   cases h5
   exact hB1 _ rfl _ _ (Gh.ren0 [0] (.cells rfl rfl (.keep (ekS.rlst) (.keep (ek_TWrite.rlst) (.keep .int (.keep (ek_TSeg.rlst) (.keep .int (.keep .int (.keep .int (.keep .int (.keep (ekI.rlst) .nil))))))))) .nil) rfl (.cons rfl (.ptr rfl) (.cons rfl (.dat .int) (.cons rfl (.dat .int) (.cons rfl (.dat .int) .nil)))))
 ·intro y2 hC
  subst hC
  refine RW.sreg (rl.run 2 rfl (rl.done (RW.ret ?_)))
  cases h2
  exact RRet.mk rfl .int (by first | decide | simp)
theorem law_impl_RecSize {x0 : TRec} {r : Int} (hF : F_impl_RecSize x0 = some r) : PCalls Tryz.prog 61 [.agg (enc_TRec false x0)] (.j r) := by
 refine PCalls.of_r k_impl_RecSize rfl ?_
 unfold F_impl_RecSize at hF
 refine RW.sreg (rl.run 2 rfl (rl.done (RW.sreg (rl.run 2 rfl ?_))))
 obtain ⟨v1, e1, h1⟩ := bindS hF
 refine rl.call rfl rfl rfl (CallW.val (r' := .tup [.agg (enc_TFrame false v1.1), .bool v1.2]) ok_impl_ItemFrame (law_impl_ItemFrame e1) (.cons (DFL.agg (.cons .int (.cons .int (.cons .int (.cons .int (.cons .int (.cons .int (.cons .str (.cons .str (.cons .str .nil)))))))))) (.cons .int .nil)) (FlL.tup (.cons .refl (.cons .refl .nil))) ?_)
 refine rl.run 6 rfl (rl.done (RW.seq (RW.sreg (rl.run 2 rfl (rl.done ?_)))))
 refine RW.kp [3, 12] [(3, .ptr 1 0), (12, .bool (!v1.2))] [some ⟨[.j x0.Kind, .j x0.Valid, .j x0.Uid, .j x0.Next, .j x0.Flags, .str x0.User, .str x0.Name, .str x0.Text], 0⟩, some ⟨[.j v1.1.Gen, .j v1.1.Seq, .str v1.1.Body], 0⟩] rfl rfl ?_
 cases hb : (!v1.2)
 ·have h2 := iteBF h1 hb
  refine RW.cond_f rfl (RW.skip (RW.sreg (rl.run 1 rfl ?_)))
  obtain ⟨v2, e2, h3⟩ := bindS h2
  refine rl.call rfl rfl rfl (CallW.val (r' := .j v2) ok_impl_FrameSize (law_impl_FrameSize e2) (.cons (DFL.agg (.cons .int (.cons .int (.cons .str .nil)))) .nil) .refl ?_)
  refine rl.run 1 rfl (rl.done (RW.ret ?_))
  cases h3
  exact RRet.mk rfl .int (by first | decide | simp)
 ·have h4 := iteBT h1 hb
  refine RW.cond_t rfl (RW.sreg (rl.run 1 rfl (rl.done (RW.ret ?_))))
  cases h4
  exact RRet.mk rfl .int (by first | decide | simp)
theorem law_impl_Roomy {x0 : TStore} {x1 : TRec} {r : Bool} (hF : F_impl_Roomy x0 x1 = some r) : PCalls Tryz.prog 27 [.agg (enc_TStore false x0), .agg (enc_TRec false x1)] (.bool r) := by
 refine PCalls.of_r k_impl_Roomy rfl ?_
 unfold F_impl_Roomy at hF
 refine RW.sreg (rl.run 3 rfl (rl.done (RW.sdrw (rdraw.op rfl rfl ?_))))
 obtain ⟨v1, e1, h1⟩ := bindS hF
 refine rdraw.call rfl rfl rfl (CallW.val (r' := .j v1) ok_impl_LiveBytes (law_impl_LiveBytes e1) (.cons (DFL.agg (.cons (.lst ekS) (.cons (.lst ek_TWrite) (.cons .int (.cons (.lst ek_TSeg) (.cons .int (.cons .int (.cons .int (.cons .int (.cons (.lst ekI) .nil)))))))))) .nil) .refl ⟨rfl, ?_⟩)
 refine rdraw.op rfl rfl ?_
 obtain ⟨v2, e2, h2⟩ := bindS h1
 refine rdraw.call rfl rfl rfl (CallW.val (r' := .j v2) ok_impl_RecSize (law_impl_RecSize e2) (.cons (DFL.agg (.cons .int (.cons .int (.cons .int (.cons .int (.cons .int (.cons .str (.cons .str (.cons .str .nil))))))))) .nil) .refl ⟨rfl, ?_⟩)
 refine rdraw.op rfl rfl (rdraw.op rfl rfl ?_)
 obtain ⟨v3, e3, h3⟩ := bindS h2
 refine rdraw.call rfl rfl rfl (CallW.val (r' := .agg (enc_TState false v3)) ok_impl_StateNow (law_impl_StateNow e3) (.cons (DFL.agg (.cons (.lst ekS) (.cons (.lst ek_TWrite) (.cons .int (.cons (.lst ek_TSeg) (.cons .int (.cons .int (.cons .int (.cons .int (.cons (.lst ekI) .nil)))))))))) .nil) (ek_TState.flag _).agg ⟨rfl, ?_⟩)
 refine rdraw.op rfl rfl (rdraw.op rfl rfl (rdraw.op rfl rfl (rdraw.op rfl rfl (rdraw.op rfl rfl (rdraw.op rfl rfl (rdraw.op rfl rfl (rdraw.op rfl rfl (rdraw.op rfl rfl (rdraw.op rfl rfl (rdraw.op rfl rfl (rdraw.done ?_)))))))))))
 refine RW.kp [4] [(4, .bool (decide ((w64 ((w64 (v1 + v2)) + (w64 (40 * (v3.Boxes.length : Int))))) ≤ (w64 (80 * (w64 (x0.Log.Segs - 5)))))))] [some ⟨[L_S x0.Log.Disk.Sectors, L_TWrite x0.Log.Disk.Cache, .j x0.Log.Segs, L_TSeg x0.Log.Used, .j x0.Log.NextGen, .j x0.Log.NextSeq, .j x0.Log.Stamp, .j x0.Log.NextValid, L_I x0.Freed], 0⟩, some ⟨[.j x1.Kind, .j x1.Valid, .j x1.Uid, .j x1.Next, .j x1.Flags, .str x1.User, .str x1.Name, .str x1.Text], 0⟩] rfl rfl ?_
 refine RW.ret ?_
 cases h3
 exact RRet.mk rfl .bool (by first | decide | simp)
set_option maxHeartbeats 2000000 in
theorem law_laws_FnExactRoomy {x0 : TStore} {x1 : TRec} {r : Bool} (hF : F_laws_FnExactRoomy x0 x1 = some r) : PCalls Tryz.prog 6 [.agg (enc_TStore false x0), .agg (enc_TRec false x1)] (.bool r) := by
 refine PCalls.of_r k_laws_FnExactRoomy rfl ?_
 unfold F_laws_FnExactRoomy at hF
 refine RW.sreg (rl.run 3 rfl (rl.done (RW.sreg (rl.run 1 rfl (rl.done (RW.sreg (rl.run 2 rfl ?_)))))))
 obtain ⟨v1, e1, h1⟩ := bindS hF
 refine rl.call rfl rfl rfl (CallW.val (r' := .j v1) ok_laws_szStore (law_laws_szStore e1) (.cons (DFL.agg (.cons (.lst ekS) (.cons (.lst ek_TWrite) (.cons .int (.cons (.lst ek_TSeg) (.cons .int (.cons .int (.cons .int (.cons .int (.cons (.lst ekI) .nil)))))))))) (.cons .int .nil)) .refl ?_)
 refine rl.run 1 rfl (rl.done (RW.seq (RW.sreg (rl.run 1 rfl ?_))))
 refine rl.gen rfl rfl fun b hb => ?_
 cases b
 ·have h2 := iteBF h1 hb
  refine rl.done (RW.cond_f rfl (RW.skip (RW.sreg (rl.run 2 rfl ?_))))
  obtain ⟨v2, e2, h3⟩ := bindS h2
  refine rl.call rfl rfl rfl (CallW.val (r' := .j v2) ok_laws_szRec (law_laws_szRec e2) (.cons (DFL.agg (.cons .int (.cons .int (.cons .int (.cons .int (.cons .int (.cons .str (.cons .str (.cons .str .nil))))))))) (.cons .int .nil)) .refl ?_)
  refine rl.run 1 rfl (rl.done ?_)
  refine RW.kp [2, 3, 5] [(2, .ptr 0 0), (3, .ptr 1 0), (5, .j v2)] [some ⟨[L_S x0.Log.Disk.Sectors, L_TWrite x0.Log.Disk.Cache, .j x0.Log.Segs, L_TSeg x0.Log.Used, .j x0.Log.NextGen, .j x0.Log.NextSeq, .j x0.Log.Stamp, .j x0.Log.NextValid, L_I x0.Freed], 0⟩, some ⟨[.j x1.Kind, .j x1.Valid, .j x1.Uid, .j x1.Next, .j x1.Flags, .str x1.User, .str x1.Name, .str x1.Text], 0⟩] rfl rfl ?_
  refine RW.seq (RW.sreg (rl.run 1 rfl ?_))
  refine rl.gen rfl rfl fun b hb => ?_
  cases b
  ·have h4 := iteBF h3 hb
   refine rl.done (RW.cond_f rfl (RW.skip (RW.sdrw (rdraw.op rfl rfl ?_))))
   obtain ⟨v3, e3, h5⟩ := bindS h4
   refine rdraw.call rfl rfl rfl (CallW.val (r' := .agg (enc_TStore false v3)) ok_laws_toStore (law_laws_toStore e3) (.cons (DFL.agg (.cons (.lst ekS) (.cons (.lst ek_TWrite) (.cons .int (.cons (.lst ek_TSeg) (.cons .int (.cons .int (.cons .int (.cons .int (.cons (.lst ekI) .nil)))))))))) .nil) (ek_TStore.flag _).agg ⟨rfl, ?_⟩)
   refine rdraw.op rfl rfl ?_
   obtain ⟨v4, e4, h6⟩ := bindS h5
   refine rdraw.call rfl rfl rfl (CallW.val (r' := .agg (enc_TRec false v4)) ok_laws_toRec (law_laws_toRec e4) (.cons (DFL.agg (.cons .int (.cons .int (.cons .int (.cons .int (.cons .int (.cons .str (.cons .str (.cons .str .nil))))))))) .nil) .refl ⟨rfl, ?_⟩)
   obtain ⟨v5, e5, h7⟩ := bindS h6
   refine rdraw.call rfl rfl rfl (CallW.val (r' := .bool v5) ok_spec_Roomy (law_spec_Roomy e5) (.cons (.dat (.agg (ek_TStore.dat false _))) (.cons (.dat (.agg (ek_TRec.dat false _))) .nil)) .refl ⟨rfl, ?_⟩)
   refine rdraw.op rfl rfl (rdraw.done (RW.sreg (rl.run 1 rfl ?_)))
   obtain ⟨v6, e6, h8⟩ := bindS h7
   refine rl.call rfl rfl rfl (CallW.val (r' := .agg (enc_TStore false v6)) ok_laws_toStore (law_laws_toStore e6) (.cons (DFL.agg (.cons (.lst ekS) (.cons (.lst ek_TWrite) (.cons .int (.cons (.lst ek_TSeg) (.cons .int (.cons .int (.cons .int (.cons .int (.cons (.lst ekI) .nil)))))))))) .nil) (ek_TStore.flag _).agg ?_)
   refine rl.run 2 rfl (rl.done (RW.sdrw (rdraw.op rfl rfl (rdraw.op rfl rfl ?_))))
   obtain ⟨v7, e7, h9⟩ := bindS h8
   refine rdraw.call rfl rfl rfl (CallW.val (r' := .agg (enc_TRec false v7)) ok_laws_toRec (law_laws_toRec e7) (.cons (DFL.agg (.cons .int (.cons .int (.cons .int (.cons .int (.cons .int (.cons .str (.cons .str (.cons .str .nil))))))))) .nil) .refl ⟨rfl, ?_⟩)
   obtain ⟨v8, e8, h10⟩ := bindS h9
   refine rdraw.call rfl rfl rfl (CallW.val (r' := .bool v8) ok_impl_Roomy (law_impl_Roomy e8) (.cons (DFL.agg (.cons (.lst ekS) (.cons (.lst ek_TWrite) (.cons .int (.cons (.lst ek_TSeg) (.cons .int (.cons .int (.cons .int (.cons .int (.cons (.lst ekI) .nil)))))))))) (.cons (.dat (.agg (ek_TRec.dat false _))) .nil)) .refl ⟨rfl, ?_⟩)
   refine rdraw.op rfl rfl (rdraw.done ?_)
   refine RW.kp [2, 6, 7, 8] [(2, .ptr 0 0), (6, .bool v5), (7, .ptr 2 0), (8, .bool v8)] [some ⟨[L_S x0.Log.Disk.Sectors, L_TWrite x0.Log.Disk.Cache, .j x0.Log.Segs, L_TSeg x0.Log.Used, .j x0.Log.NextGen, .j x0.Log.NextSeq, .j x0.Log.Stamp, .j x0.Log.NextValid, L_I x0.Freed], 0⟩, some ⟨[.j x1.Kind, .j x1.Valid, .j x1.Uid, .j x1.Next, .j x1.Flags, .str x1.User, .str x1.Name, .str x1.Text], 0⟩, some ⟨[L_S v6.Log.Disk.Sectors, L_TWrite v6.Log.Disk.Cache, .j v6.Log.Segs, L_TSeg v6.Log.Used, .j v6.Log.NextGen, .j v6.Log.NextSeq, .j v6.Log.Stamp, .j v6.Log.NextValid, L_I v6.Freed], 0⟩] rfl rfl ?_
   refine RW.seq (RW.sreg (rl.run 2 rfl ?_))
   refine rl.gen rfl rfl fun b hb => ?_
   cases b
   ·have h11 := iteBF h10 hb
    refine rl.done (RW.cond_f rfl (RW.skip (RW.seq (RW.sdrw (rdraw.op rfl rfl (rdraw.op rfl rfl ?_))))))
    obtain ⟨v9, e9, h12⟩ := bindS h11
    refine rdraw.call rfl rfl rfl (CallW.val (r' := .agg (enc_TStore false v9)) ok_laws_toStore (law_laws_toStore e9) (.cons (DFL.agg (.cons (.lst ekS) (.cons (.lst ek_TWrite) (.cons .int (.cons (.lst ek_TSeg) (.cons .int (.cons .int (.cons .int (.cons .int (.cons (.lst ekI) .nil)))))))))) .nil) (ek_TStore.flag _).agg ⟨rfl, ?_⟩)
    obtain ⟨v10, e10, h13⟩ := bindS h12
    refine rdraw.call rfl rfl rfl (CallW.val (r' := .bool v10) ok_laws_eqStore (law_laws_eqStore e10) (.cons (DFL.agg (.cons (.lst ekS) (.cons (.lst ek_TWrite) (.cons .int (.cons (.lst ek_TSeg) (.cons .int (.cons .int (.cons .int (.cons .int (.cons (.lst ekI) .nil)))))))))) (.cons (.dat (.agg (ek_TStore.dat false _))) .nil)) .refl ⟨rfl, ?_⟩)
    cases hb : v10
    ·have h14 := iteBF h13 hb
     refine rdraw.op rfl rfl (rdraw.done ?_)
     refine RW.kp [37] [(37, .bool true)] [some ⟨[L_S x0.Log.Disk.Sectors, L_TWrite x0.Log.Disk.Cache, .j x0.Log.Segs, L_TSeg x0.Log.Used, .j x0.Log.NextGen, .j x0.Log.NextSeq, .j x0.Log.Stamp, .j x0.Log.NextValid, L_I x0.Freed], 0⟩, some ⟨[.j x1.Kind, .j x1.Valid, .j x1.Uid, .j x1.Next, .j x1.Flags, .str x1.User, .str x1.Name, .str x1.Text], 0⟩, some ⟨[L_S v6.Log.Disk.Sectors, L_TWrite v6.Log.Disk.Cache, .j v6.Log.Segs, L_TSeg v6.Log.Used, .j v6.Log.NextGen, .j v6.Log.NextSeq, .j v6.Log.Stamp, .j v6.Log.NextValid, L_I v6.Freed], 0⟩] rfl rfl ?_
     refine RW.cond_t rfl (RW.sreg (rl.run 1 rfl (rl.done (RW.ret ?_))))
     cases h14
     exact RRet.mk rfl .bool (by first | decide | simp)
    ·have h15 := iteBT h13 hb
     refine rdraw.op rfl rfl (rdraw.done ?_)
     refine RW.kp [37] [(37, .bool false)] [some ⟨[L_S x0.Log.Disk.Sectors, L_TWrite x0.Log.Disk.Cache, .j x0.Log.Segs, L_TSeg x0.Log.Used, .j x0.Log.NextGen, .j x0.Log.NextSeq, .j x0.Log.Stamp, .j x0.Log.NextValid, L_I x0.Freed], 0⟩, some ⟨[.j x1.Kind, .j x1.Valid, .j x1.Uid, .j x1.Next, .j x1.Flags, .str x1.User, .str x1.Name, .str x1.Text], 0⟩, some ⟨[L_S v6.Log.Disk.Sectors, L_TWrite v6.Log.Disk.Cache, .j v6.Log.Segs, L_TSeg v6.Log.Used, .j v6.Log.NextGen, .j v6.Log.NextSeq, .j v6.Log.Stamp, .j v6.Log.NextValid, L_I v6.Freed], 0⟩] rfl rfl ?_
     refine RW.cond_f rfl (RW.skip (RW.sreg (rl.run 1 rfl (rl.done (RW.ret ?_)))))
     cases h15
     exact RRet.mk rfl .bool (by first | decide | simp)
   ·have h16 := iteBT h10 hb
    refine rl.done (RW.cond_t rfl (RW.sreg (rl.run 1 rfl (rl.done (RW.ret ?_)))))
    cases h16
    exact RRet.mk rfl .bool (by first | decide | simp)
  ·have h17 := iteBT h3 hb
   refine rl.done (RW.cond_t rfl (RW.sreg (rl.run 1 rfl (rl.done (RW.ret ?_)))))
   cases h17
   exact RRet.mk rfl .bool (by first | decide | simp)
 ·have h18 := iteBT h1 hb
  refine rl.done (RW.cond_t rfl (RW.sreg (rl.run 1 rfl (rl.done (RW.ret ?_)))))
  cases h18
  exact RRet.mk rfl .bool (by first | decide | simp)
end Go.Proofs.YtcehlicmghnghaaGreat.V
