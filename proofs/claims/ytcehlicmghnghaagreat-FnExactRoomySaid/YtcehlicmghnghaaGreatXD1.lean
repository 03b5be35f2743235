/- What a call comes to. -/
import Derived.Test.YtcehlicmghnghaaGreatXD0
namespace Go.Proofs.YtcehlicmghnghaaGreat.V
open Go Go.Proofs Go.RowKit
set_option maxRecDepth 100000
theorem law_spec_RecText {x0 : TRec} {r : (List UInt8) × Bool} (hF : F_spec_RecText x0 = some r) : PCalls Tryz.prog 175 [.agg (enc_TRec false x0)] (.tup [.str r.1, .bool r.2]) := by
 refine PCalls.of_r k_spec_RecText rfl ?_
 unfold F_spec_RecText at hF
 refine RW.sreg (rl.run 3 rfl (rl.done (RW.seq (RW.sreg (rl.run 1 rfl ?_)))))
 obtain ⟨v1, e1, h1⟩ := bindS hF
 refine rl.call rfl rfl rfl (CallW.val (r' := .bool v1) ok_spec_RecOk (law_spec_RecOk e1) (.cons (DFL.agg (.cons .int (.cons .int (.cons .int (.cons .int (.cons .int (.cons .str (.cons .str (.cons .str .nil))))))))) .nil) .refl ?_)
 cases hb : v1
 ·have h2 := iteBF h1 hb
  refine rl.run 1 rfl (rl.done (RW.cond_t rfl (RW.sreg (rl.run 2 rfl (rl.done (RW.ret ?_))))))
  cases h2
  exact RRet.mk rfl (OutT.tup (.cons .str (.cons .bool .nil))) (by first | decide | simp)
 ·have h3 := iteBT h1 hb
  refine rl.run 1 rfl (rl.done (RW.cond_f rfl (RW.skip (RW.sdrw (rdraw.op rfl rfl (rdraw.op rfl rfl (rdraw.op rfl rfl ?_)))))))
  refine rdraw.chn rfl rfl ?_
  refine rdraw.op rfl (x_cvb_sl (o := true) (l := [IntKind.u8.wrap x0.Kind]) rfl rfl) ?_
  refine rdraw.opA rfl rfl (.here (.rx rfl) .nil) ?_
  refine rdraw.opA rfl rfl (.here (.rx rfl) .nil) ?_
  obtain ⟨v2, e2, h4⟩ := bindS h3
  refine rdraw.callA rfl rfl rfl (CallW.val (r' := .str v2) ok_spec_l01Var (law_spec_l01Var e2) (.cons .int .nil) .refl ⟨rfl, (.here (.cl rfl rfl (CallW.val (r' := .str v2) ok_spec_l01Var (law_spec_l01Var e2) (.cons .int .nil) .refl ⟨rfl, rfl⟩)) .nil), ?_⟩)
  obtain ⟨v3, e3, h5⟩ := bindS h4
  refine rdraw.op rfl (x_cat rfl rfl e3) ?_
  refine rdraw.opA rfl rfl (.here (.rx rfl) .nil) ?_
  refine rdraw.opA rfl rfl (.here (.rx rfl) .nil) ?_
  obtain ⟨v4, e4, h6⟩ := bindS h5
  refine rdraw.callA rfl rfl rfl (CallW.val (r' := .str v4) ok_spec_l01Var (law_spec_l01Var e4) (.cons .int .nil) .refl ⟨rfl, (.here (.cl rfl rfl (CallW.val (r' := .str v4) ok_spec_l01Var (law_spec_l01Var e4) (.cons .int .nil) .refl ⟨rfl, rfl⟩)) .nil), ?_⟩)
  obtain ⟨v5, e5, h7⟩ := bindS h6
  refine rdraw.op rfl (x_cat rfl rfl e5) ?_
  refine rdraw.opA rfl rfl (.here (.rx rfl) .nil) ?_
  refine rdraw.opA rfl rfl (.here (.rx rfl) .nil) ?_
  obtain ⟨v6, e6, h8⟩ := bindS h7
  refine rdraw.callA rfl rfl rfl (CallW.val (r' := .str v6) ok_spec_l01Var (law_spec_l01Var e6) (.cons .int .nil) .refl ⟨rfl, (.here (.cl rfl rfl (CallW.val (r' := .str v6) ok_spec_l01Var (law_spec_l01Var e6) (.cons .int .nil) .refl ⟨rfl, rfl⟩)) .nil), ?_⟩)
  obtain ⟨v7, e7, h9⟩ := bindS h8
  refine rdraw.op rfl (x_cat rfl rfl e7) ?_
  refine rdraw.opA rfl rfl (.here (.rx rfl) .nil) ?_
  refine rdraw.opA rfl rfl (.here (.rx rfl) .nil) ?_
  obtain ⟨v8, e8, h10⟩ := bindS h9
  refine rdraw.callA rfl rfl rfl (CallW.val (r' := .str v8) ok_spec_l01Var (law_spec_l01Var e8) (.cons .int .nil) .refl ⟨rfl, (.here (.cl rfl rfl (CallW.val (r' := .str v8) ok_spec_l01Var (law_spec_l01Var e8) (.cons .int .nil) .refl ⟨rfl, rfl⟩)) .nil), ?_⟩)
  obtain ⟨v9, e9, h11⟩ := bindS h10
  refine rdraw.op rfl (x_cat rfl rfl e9) ?_
  refine rdraw.opA rfl rfl (.here (.rx rfl) .nil) ?_
  refine rdraw.opA rfl rfl (.here (.rx rfl) .nil) ?_
  obtain ⟨v10, e10, h12⟩ := bindS h11
  refine rdraw.callA rfl rfl rfl (CallW.val (r' := .str v10) ok_spec_l06Short (law_spec_l06Short e10) (.cons .str .nil) .refl ⟨rfl, (.here (.cl rfl rfl (CallW.val (r' := .str v10) ok_spec_l06Short (law_spec_l06Short e10) (.cons .str .nil) .refl ⟨rfl, rfl⟩)) .nil), ?_⟩)
  obtain ⟨v11, e11, h13⟩ := bindS h12
  refine rdraw.op rfl (x_cat rfl rfl e11) ?_
  refine rdraw.opA rfl rfl (.here (.rx rfl) .nil) ?_
  refine rdraw.opA rfl rfl (.here (.rx rfl) .nil) ?_
  obtain ⟨v12, e12, h14⟩ := bindS h13
  refine rdraw.callA rfl rfl rfl (CallW.val (r' := .str v12) ok_spec_l06Short (law_spec_l06Short e12) (.cons .str .nil) .refl ⟨rfl, (.here (.cl rfl rfl (CallW.val (r' := .str v12) ok_spec_l06Short (law_spec_l06Short e12) (.cons .str .nil) .refl ⟨rfl, rfl⟩)) .nil), ?_⟩)
  obtain ⟨v13, e13, h15⟩ := bindS h14
  refine rdraw.op rfl (x_cat rfl rfl e13) ?_
  refine rdraw.opA rfl rfl (.here (.rx rfl) .nil) ?_
  refine rdraw.opA rfl rfl (.here (.rx rfl) .nil) ?_
  obtain ⟨v14, e14, h16⟩ := bindS h15
  refine rdraw.callA rfl rfl rfl (CallW.val (r' := .str v14) ok_spec_l06Short (law_spec_l06Short e14) (.cons .str .nil) .refl ⟨rfl, (.here (.cl rfl rfl (CallW.val (r' := .str v14) ok_spec_l06Short (law_spec_l06Short e14) (.cons .str .nil) .refl ⟨rfl, rfl⟩)) .nil), ?_⟩)
  obtain ⟨v15, e15, h17⟩ := bindS h16
  refine rdraw.op rfl (x_cat rfl rfl e15) ?_
  refine rdraw.op rfl rfl (rdraw.op rfl rfl (rdraw.done ?_))
  refine RW.kp [2, 3] [(2, .str v15), (3, .bool true)] [some ⟨[.j x0.Kind, .j x0.Valid, .j x0.Uid, .j x0.Next, .j x0.Flags, .str x0.User, .str x0.Name, .str x0.Text], 0⟩, some ⟨fl (encB true) [IntKind.u8.wrap x0.Kind], 1⟩] rfl rfl ?_
  refine RW.ret ?_
  cases h17
  exact RRet.mk rfl (OutT.tup (.cons .str (.cons .bool .nil))) (by first | decide | simp)
theorem law_spec_ItemFrame {x0 : TItem} {x1 : Int} {r : TFrame × Bool} (hF : F_spec_ItemFrame x0 x1 = some r) : PCalls Tryz.prog 111 [.agg (enc_TItem false x0), .j x1] (.tup [.agg (enc_TFrame true r.1), .bool r.2]) := by
 refine PCalls.of_r k_spec_ItemFrame rfl ?_
 unfold F_spec_ItemFrame at hF
 refine RW.sreg (rl.run 3 rfl (rl.done (RW.sreg (rl.run 2 rfl ?_))))
 obtain ⟨v1, e1, h1⟩ := bindS hF
 refine rl.call rfl rfl rfl (CallW.val (r' := .tup [.str v1.1, .bool v1.2]) ok_spec_RecText (law_spec_RecText e1) (.cons (DFL.agg (.cons .int (.cons .int (.cons .int (.cons .int (.cons .int (.cons .str (.cons .str (.cons .str .nil))))))))) .nil) (FlL.tup (.cons .refl (.cons .refl .nil))) ?_)
 refine rl.run 5 rfl (rl.done (RW.sreg (rl.run 7 rfl (rl.done ?_))))
 refine RW.kp [4, 7, 8] [(4, .ptr 1 0), (7, .bool v1.2), (8, .ptr 2 0)] [some ⟨[.j x0.Seq, .j x0.Rec.Kind, .j x0.Rec.Valid, .j x0.Rec.Uid, .j x0.Rec.Next, .j x0.Rec.Flags, .str x0.Rec.User, .str x0.Rec.Name, .str x0.Rec.Text], 0⟩, some ⟨[.j 0, .j 0, .str []], 0⟩, some ⟨[.j x1, .j x0.Seq, .str v1.1], 0⟩] rfl rfl ?_
 refine RW.seq (RW.seq ?_)
 obtain ⟨y2, ey2, h2⟩ := bindS h1
 refine RW.cutq (σ := Bool) (fun y2 => [(4, .ptr 0 0), (8, .ptr 1 0), (26, .bool y2)]) (fun y2 => [some ⟨[.j 0, .j 0, .str []], 0⟩, some ⟨[.j x1, .j x0.Seq, .str v1.1], 0⟩]) (fun y => y2 = y) (fun _ _ _ _ g h => RW.gh g h) ?_ ?_
 ·refine RW.reg ?_
  refine rl.run 3 rfl ?_
  cases hb : (!v1.2)
  ·have h3 := iteBF ey2 hb
   refine rl.run 1 rfl ?_
   obtain ⟨v3, e3, h4⟩ := bindS h3
   refine rl.call rfl rfl rfl (CallW.val (r' := .bool v3) ok_spec_FrameOk (law_spec_FrameOk e3) (.cons (DFL.agg (.cons .int (.cons .int (.cons .str .nil)))) .nil) .refl ?_)
   cases hb : v3
   ·have h5 := iteBF h4 hb
    refine rl.run 2 rfl (rl.done ?_)
    cases h5
    exact ⟨_, rfl, (Gh.ren0 [1, 2] (.cells rfl rfl (.keep .int (.keep .int (.keep .str .nil))) (.cells rfl rfl (.keep .int (.keep .int (.keep .str .nil))) .nil)) rfl (.cons rfl (.ptr rfl) (.cons rfl (.ptr rfl) (.cons rfl (.dat .bool) .nil))))⟩
   ·have h6 := iteBT h4 hb
    refine rl.run 2 rfl (rl.done ?_)
    cases h6
    exact ⟨_, rfl, (Gh.ren0 [1, 2] (.cells rfl rfl (.keep .int (.keep .int (.keep .str .nil))) (.cells rfl rfl (.keep .int (.keep .int (.keep .str .nil))) .nil)) rfl (.cons rfl (.ptr rfl) (.cons rfl (.ptr rfl) (.cons rfl (.dat .bool) .nil))))⟩
  ·have h7 := iteBT ey2 hb
   refine rl.run 4 rfl (rl.done ?_)
   cases h7
   exact ⟨_, rfl, (Gh.ren0 [1, 2] (.cells rfl rfl (.keep .int (.keep .int (.keep .str .nil))) (.cells rfl rfl (.keep .int (.keep .int (.keep .str .nil))) .nil)) rfl (.cons rfl (.ptr rfl) (.cons rfl (.ptr rfl) (.cons rfl (.dat .bool) .nil))))⟩
 ·intro y hC
  subst hC
  cases hb : y2
  ·have h8 := iteBF h2 hb
   refine RW.cond_f rfl (RW.skip (RW.sreg (rl.run 3 rfl (rl.done (RW.ret ?_)))))
   cases h8
   exact RRet.mk rfl (OutT.tup (.cons (OutL.agg (.cons .int rfl (.cons .int rfl (.cons .str rfl .nil)))) (.cons .bool .nil))) (by first | decide | simp)
  ·have h9 := iteBT h2 hb
   refine RW.cond_t rfl (RW.sreg (rl.run 3 rfl (rl.done (RW.ret ?_))))
   cases h9
   exact RRet.mk rfl (OutT.tup (.cons (OutL.agg (.cons .int rfl (.cons .int rfl (.cons .str rfl .nil)))) (.cons .bool .nil))) (by first | decide | simp)
theorem law_spec_l02Four {x0 : Int} {r : List UInt8} (hF : F_spec_l02Four x0 = some r) : PCalls Tryz.prog 179 [.int .u32 x0] (.str r) := by
 refine PCalls.of_r k_spec_l02Four rfl ?_
 unfold F_spec_l02Four at hF
 refine RW.sreg (rl.run 1 rfl (rl.done (RW.sreg (rl.run 12 rfl ?_))))
 refine rl.op (x_cvb_sl (o := true) (l := [IntKind.u8.wrap (shrv .u32 x0 24), IntKind.u8.wrap (shrv .u32 x0 16), IntKind.u8.wrap (shrv .u32 x0 8), IntKind.u8.wrap x0]) rfl rfl) ?_
 refine rl.run 1 rfl (rl.done ?_)
 refine RW.kp [2] [(2, .str ([IntKind.u8.wrap (shrv .u32 x0 24), IntKind.u8.wrap (shrv .u32 x0 16), IntKind.u8.wrap (shrv .u32 x0 8), IntKind.u8.wrap x0].map ofI))] [some ⟨fl (encB true) [IntKind.u8.wrap (shrv .u32 x0 24), IntKind.u8.wrap (shrv .u32 x0 16), IntKind.u8.wrap (shrv .u32 x0 8), IntKind.u8.wrap x0], 1⟩] rfl rfl ?_
 refine RW.ret ?_
 cases hF
 exact RRet.mk rfl .str (by first | decide | simp)
theorem law_spec_SumMore {x0 : Int} {x1 : List UInt8} {r : Int} (hF : F_spec_SumMore x0 x1 = some r) : PCalls Tryz.prog 208 [.int .u32 x0, .str x1] (.int .u32 r) := by
 refine PCalls.of_r k_spec_SumMore rfl ?_
 unfold F_spec_SumMore at hF
 refine RW.sreg (rl.run 1 rfl (rl.done (RW.seq (RW.sreg (rl.run 1 rfl (rl.done ?_))))))
 obtain ⟨y7, ey7, h2⟩ := bindS hF
 refine RW.cutq (σ := Int) (fun y2 => [(0, .int .u32 y2)]) (fun y2 => []) (fun y => y7 = y) (fun _ _ _ _ g h => RW.gh g h) ?_ ?_
 ·refine RW.blk ?_
  refine RW.iter (σ := Int × Int) ey7 (fun s1 => [(0, .int .u32 s1.1), (1, .str x1), (5, .j s1.2)]) (fun s1 => []) (Gh.ren0 [] .nil rfl (.cons rfl (.dat .int) (.cons rfl (.dat .str) (.cons rfl (.dat .int) .nil)))) (fun s1 B o hS1 hB1 hE1 => ?_)
  unfold S_spec_SumMore_1 at hS1
  refine RW.seq (RW.sreg (rl.run 3 rfl ?_))
  refine rl.gen rfl rfl fun b hb => ?_
  cases b
  ·have h3 := iteBF hS1 hb
   refine rl.done (RW.cond_f rfl (RW.exit (blkA_eq ?_)))
   cases h3
   exact ⟨_, (hE1 _ rfl).symm, (Gh.ren0 [] .nil rfl (.cons rfl (.dat .int) .nil))⟩
  ·have h4 := iteBT hS1 hb
   refine rl.done (RW.cond_t rfl (RW.skip (RW.seq (RW.blk (RW.sreg (rl.run 3 rfl ?_))))))
   obtain ⟨v3, e3, h5⟩ := bindS h4
   refine rl.op (x_idx rfl rfl e3) ?_
   refine rl.run 3 rfl (rl.done (RW.sreg (rl.run 1 rfl (rl.done ?_))))
   obtain ⟨y6, ey6, h7⟩ := bindS h5
   refine RW.cutq (σ := Int) (fun y5 => [(0, .int .u32 y5), (1, .str x1), (5, .j s1.2)]) (fun y5 => []) (fun y => y6 = y) (fun _ _ _ _ g h => RW.gh g h) ?_ ?_
   ·refine RW.blk ?_
    refine RW.iter (σ := Int × Int) ey6 (fun s4 => [(0, .int .u32 s4.1), (1, .str x1), (5, .j s1.2), (6, .j s4.2)]) (fun s4 => []) (Gh.ren0 [] .nil rfl (.cons rfl (.dat .int) (.cons rfl (.dat .str) (.cons rfl (.dat .int) (.cons rfl (.dat .int) .nil))))) (fun s4 B o hS6 hB6 hE6 => ?_)
    unfold S_spec_SumMore_2 at hS6
    refine RW.seq (RW.sreg (rl.run 1 rfl ?_))
    refine rl.gen rfl rfl fun b hb => ?_
    cases b
    ·have h8 := iteBF hS6 hb
     refine rl.done (RW.cond_f rfl (RW.exit (blkA_eq ?_)))
     cases h8
     exact ⟨_, (hE6 _ rfl).symm, (Gh.ren0 [] .nil rfl (.cons rfl (.dat .int) (.cons rfl (.dat .str) (.cons rfl (.dat .int) .nil))))⟩
    ·have h9 := iteBT hS6 hb
     refine rl.done (RW.cond_t rfl (RW.skip (RW.seq (RW.blk (RW.sreg (rl.run 2 rfl ?_))))))
     refine rl.gen rfl rfl fun b hb => ?_
     cases b
     ·have h10 := iteBF h9 hb
      refine rl.run 1 rfl (rl.done (RW.sreg (rl.run 3 rfl (rl.done (RW.sreg (rl.run 1 rfl (rl.done (RW.cond_f rfl (RW.skip (RW.reg (rl.run 3 rfl ?_)))))))))))
      refine rl.done ?_
      cases h10
      exact hB6 _ rfl _ _ (Gh.ren0 [] .nil rfl (.cons rfl (.dat .int) (.cons rfl (.dat .str) (.cons rfl (.dat .int) (.cons rfl (.dat .int) .nil)))))
     ·have h11 := iteBT h9 hb
      refine rl.run 1 rfl (rl.done (RW.sreg (rl.run 3 rfl (rl.done (RW.sreg (rl.run 1 rfl (rl.done (RW.cond_t rfl (RW.reg (rl.run 3 rfl (rl.done ?_)))))))))))
      refine RW.reg (rl.run 3 rfl (rl.done ?_))
      cases h11
      exact hB6 _ rfl _ _ (Gh.ren0 [] .nil rfl (.cons rfl (.dat .int) (.cons rfl (.dat .str) (.cons rfl (.dat .int) (.cons rfl (.dat .int) .nil)))))
   ·intro y5 hC
    subst hC
    refine RW.reg (rl.run 3 rfl (rl.done ?_))
    cases h7
    exact hB1 _ rfl _ _ (Gh.ren0 [] .nil rfl (.cons rfl (.dat .int) (.cons rfl (.dat .str) (.cons rfl (.dat .int) .nil))))
 ·intro y2 hC
  subst hC
  refine RW.sreg (rl.run 2 rfl (rl.done (RW.ret ?_)))
  cases h2
  exact RRet.mk rfl .int (by first | decide | simp)
theorem law_spec_SumOf {x0 : List UInt8} {r : Int} (hF : F_spec_SumOf x0 = some r) : PCalls Tryz.prog 180 [.str x0] (.int .u32 r) := by
 refine PCalls.of_r k_spec_SumOf rfl ?_
 unfold F_spec_SumOf at hF
 refine RW.sreg (rl.run 1 rfl (rl.done (RW.sreg (rl.run 1 rfl ?_))))
 obtain ⟨v1, e1, h1⟩ := bindS hF
 refine rl.call rfl rfl rfl (CallW.val (r' := .int .u32 v1) ok_spec_SumMore (law_spec_SumMore e1) (.cons .int (.cons .str .nil)) .refl ?_)
 refine rl.run 1 rfl (rl.done (RW.ret ?_))
 cases h1
 exact RRet.mk rfl .int (by first | decide | simp)
theorem law_spec_Sealed {x0 : List UInt8} {r : (List UInt8) × Bool} (hF : F_spec_Sealed x0 = some r) : PCalls Tryz.prog 118 [.str x0] (.tup [.str r.1, .bool r.2]) := by
 refine PCalls.of_r k_spec_Sealed rfl ?_
 unfold F_spec_Sealed at hF
 refine RW.sreg (rl.run 2 rfl (rl.done (RW.seq (RW.sreg (rl.run 2 rfl ?_)))))
 refine rl.gen rfl rfl fun b hb => ?_
 cases b
 ·have h1 := iteBF hF hb
  refine rl.done (RW.cond_f rfl (RW.skip (RW.sreg (rl.run 2 rfl ?_))))
  obtain ⟨v1, e1, h2⟩ := bindS h1
  refine rl.call rfl rfl rfl (CallW.val (r' := .int .u32 v1) ok_spec_SumOf (law_spec_SumOf e1) (.cons .str .nil) .refl ?_)
  obtain ⟨v2, e2, h3⟩ := bindS h2
  refine rl.call rfl rfl rfl (CallW.val (r' := .str v2) ok_spec_l02Four (law_spec_l02Four e2) (.cons .int .nil) .refl ?_)
  obtain ⟨v3, e3, h4⟩ := bindS h3
  refine rl.op (x_cat rfl rfl e3) ?_
  refine rl.run 2 rfl (rl.done (RW.ret ?_))
  cases h4
  exact RRet.mk rfl (OutT.tup (.cons .str (.cons .bool .nil))) (by first | decide | simp)
 ·have h5 := iteBT hF hb
  refine rl.done (RW.cond_t rfl (RW.sreg (rl.run 2 rfl (rl.done (RW.ret ?_)))))
  cases h5
  exact RRet.mk rfl (OutT.tup (.cons .str (.cons .bool .nil))) (by first | decide | simp)
theorem law_spec_FrameText {x0 : TFrame} {r : (List UInt8) × Bool} (hF : F_spec_FrameText x0 = some r) : PCalls Tryz.prog 64 [.agg (enc_TFrame false x0)] (.tup [.str r.1, .bool r.2]) := by
 refine PCalls.of_r k_spec_FrameText rfl ?_
 unfold F_spec_FrameText at hF
 refine RW.sreg (rl.run 3 rfl (rl.done (RW.seq (RW.sreg (rl.run 1 rfl ?_)))))
 obtain ⟨v1, e1, h1⟩ := bindS hF
 refine rl.call rfl rfl rfl (CallW.val (r' := .bool v1) ok_spec_FrameOk (law_spec_FrameOk e1) (.cons (DFL.agg (.cons .int (.cons .int (.cons .str .nil)))) .nil) .refl ?_)
 cases hb : v1
 ·have h2 := iteBF h1 hb
  refine rl.run 1 rfl (rl.done (RW.cond_t rfl (RW.sreg (rl.run 2 rfl (rl.done (RW.ret ?_))))))
  cases h2
  exact RRet.mk rfl (OutT.tup (.cons .str (.cons .bool .nil))) (by first | decide | simp)
 ·have h3 := iteBT h1 hb
  refine rl.run 1 rfl (rl.done (RW.cond_f rfl (RW.skip (RW.sdrw (rdraw.op rfl rfl (rdraw.op rfl rfl ?_))))))
  obtain ⟨v2, e2, h4⟩ := bindS h3
  refine rdraw.call rfl rfl rfl (CallW.val (r' := .str v2) ok_spec_l01Var (law_spec_l01Var e2) (.cons .int .nil) .refl ⟨rfl, ?_⟩)
  refine rdraw.op rfl rfl (rdraw.op rfl rfl ?_)
  obtain ⟨v3, e3, h5⟩ := bindS h4
  refine rdraw.call rfl rfl rfl (CallW.val (r' := .str v3) ok_spec_l01Var (law_spec_l01Var e3) (.cons .int .nil) .refl ⟨rfl, ?_⟩)
  obtain ⟨v4, e4, h6⟩ := bindS h5
  refine rdraw.op rfl (x_cat rfl rfl e4) ?_
  refine rdraw.op rfl rfl (rdraw.op rfl rfl (rdraw.op rfl rfl ?_))
  obtain ⟨v5, e5, h7⟩ := bindS h6
  refine rdraw.call rfl rfl rfl (CallW.val (r' := .str v5) ok_spec_l01Var (law_spec_l01Var e5) (.cons .int .nil) .refl ⟨rfl, ?_⟩)
  obtain ⟨v6, e6, h8⟩ := bindS h7
  refine rdraw.op rfl (x_cat rfl rfl e6) ?_
  refine rdraw.op rfl rfl (rdraw.op rfl rfl ?_)
  obtain ⟨v7, e7, h9⟩ := bindS h8
  refine rdraw.op rfl (x_cat rfl rfl e7) ?_
  obtain ⟨v8, e8, h10⟩ := bindS h9
  refine rdraw.call rfl rfl rfl (CallW.val (r' := .tup [.str v8.1, .bool v8.2]) ok_spec_Sealed (law_spec_Sealed e8) (.cons .str .nil) (FlL.tup (.cons .refl (.cons .refl .nil))) ⟨rfl, ?_⟩)
  refine rdraw.op rfl rfl (rdraw.op rfl rfl (rdraw.op rfl rfl (rdraw.op rfl rfl (rdraw.done ?_))))
  refine RW.kp [2, 3] [(2, .str v8.1), (3, .bool v8.2)] [some ⟨[.j x0.Gen, .j x0.Seq, .str x0.Body], 0⟩] rfl rfl ?_
  refine RW.ret ?_
  cases h10
  exact RRet.mk rfl (OutT.tup (.cons .str (.cons .bool .nil))) (by first | decide | simp)
theorem law_spec_FrameSize {x0 : TFrame} {r : Int} (hF : F_spec_FrameSize x0 = some r) : PCalls Tryz.prog 112 [.agg (enc_TFrame false x0)] (.j r) := by
 refine PCalls.of_r k_spec_FrameSize rfl ?_
 unfold F_spec_FrameSize at hF
 refine RW.sreg (rl.run 2 rfl (rl.done (RW.sreg (rl.run 1 rfl ?_))))
 obtain ⟨v1, e1, h1⟩ := bindS hF
 refine rl.call rfl rfl rfl (CallW.val (r' := .tup [.str v1.1, .bool v1.2]) ok_spec_FrameText (law_spec_FrameText e1) (.cons (DFL.agg (.cons .int (.cons .int (.cons .str .nil)))) .nil) (FlL.tup (.cons .refl (.cons .refl .nil))) ?_)
 refine rl.run 5 rfl (rl.done (RW.sreg (rl.run 3 rfl (rl.done ?_))))
 refine RW.kp [2] [(2, .j (v1.1.length : Int))] [some ⟨[.j x0.Gen, .j x0.Seq, .str x0.Body], 0⟩] rfl rfl ?_
 refine RW.ret ?_
 cases h1
 exact RRet.mk rfl .int (by first | decide | simp)
theorem law_spec_l08Bigger {x0 : TItem} {x1 : TItem} {r : Bool} (hF : F_spec_l08Bigger x0 x1 = some r) : PCalls Tryz.prog 227 [.agg (enc_TItem false x0), .agg (enc_TItem false x1)] (.bool r) := by
 refine PCalls.of_r k_spec_l08Bigger rfl ?_
 unfold F_spec_l08Bigger at hF
 refine RW.sreg (rl.run 3 rfl (rl.done (RW.seq ?_)))
 obtain ⟨y1, ey1, h1⟩ := bindS hF
 refine RW.cutq (σ := Bool) (fun y1 => [(4, .bool y1)]) (fun y1 => []) (fun y => y1 = y) (fun _ _ _ _ g h => RW.gh g h) ?_ ?_
 ·refine RW.reg ?_
  refine rl.run 6 rfl ?_
  refine rl.gen rfl rfl fun b hb => ?_
  cases b
  ·have h2 := iteBF ey1 hb
   refine rl.run 7 rfl ?_
   refine rl.gen rfl rfl fun b hb => ?_
   cases b
   ·have h3 := iteBF h2 hb
    refine rl.run 9 rfl (rl.done ?_)
    cases h3
    exact ⟨_, rfl, (Gh.ren0 [] .nil rfl (.cons rfl (.dat .bool) .nil))⟩
   ·have h4 := iteBT h2 hb
    refine rl.run 9 rfl (rl.done ?_)
    cases h4
    exact ⟨_, rfl, (Gh.ren0 [] .nil rfl (.cons rfl (.dat .bool) .nil))⟩
  ·have h5 := iteBT ey1 hb
   refine rl.run 17 rfl (rl.done ?_)
   cases h5
   exact ⟨_, rfl, (Gh.ren0 [] .nil rfl (.cons rfl (.dat .bool) .nil))⟩
 ·intro y hC
  subst hC
  refine RW.ret ?_
  cases h1
  exact RRet.mk rfl .bool (by first | decide | simp)
theorem law_spec_l08Has {x0 : List TItem} {x1 : Int} {x2 : Int} {x3 : Int} {r : Bool} (hF : F_spec_l08Has x0 x1 x2 x3 = some r) : PCalls Tryz.prog 229 [L_TItem x0, .j x1, .j x2, .j x3] (.bool r) := by
 refine PCalls.of_r k_spec_l08Has rfl ?_
 unfold F_spec_l08Has at hF
 refine RW.sreg (rl.run 1 rfl (rl.done (RW.sreg (rl.run 4 rfl ?_))))
 obtain ⟨v1, e1, h1⟩ := bindS hF
 refine rl.call rfl rfl rfl (CallW.val (r' := .tup [.agg (enc_TItem false v1.1), .bool v1.2]) ok_spec_l07Best (law_spec_l07Best e1) (.cons (.lst ek_TItem) (.cons .int (.cons .int (.cons .int .nil)))) (FlL.tup (.cons .refl (.cons .refl .nil))) ?_)
 refine rl.run 6 rfl (rl.done ?_)
 refine RW.kp [10] [(10, .bool v1.2)] [some ⟨[.j v1.1.Seq, .j v1.1.Rec.Kind, .j v1.1.Rec.Valid, .j v1.1.Rec.Uid, .j v1.1.Rec.Next, .j v1.1.Rec.Flags, .str v1.1.Rec.User, .str v1.1.Rec.Name, .str v1.1.Rec.Text], 0⟩] rfl rfl ?_
 refine RW.sreg (rl.run 2 rfl (rl.done (RW.ret ?_)))
 cases h1
 exact RRet.mk rfl .bool (by first | decide | simp)
theorem law_spec_l08There {x0 : List TItem} {x1 : Int} {r : Bool} (hF : F_spec_l08There x0 x1 = some r) : PCalls Tryz.prog 228 [L_TItem x0, .j x1] (.bool r) := by
 refine PCalls.of_r k_spec_l08There rfl ?_
 unfold F_spec_l08There at hF
 refine RW.sreg (rl.run 1 rfl (rl.done (RW.sreg (rl.run 2 rfl ?_))))
 obtain ⟨v1, e1, h1⟩ := bindS hF
 refine rl.call rfl rfl rfl (CallW.val (r' := .bool v1) ok_spec_l08Has (law_spec_l08Has e1) (.cons (.lst ek_TItem) (.cons .int (.cons .int (.cons .int .nil)))) .refl ?_)
 cases hb : v1
 ·have h2 := iteBF h1 hb
  refine rl.run 7 rfl (rl.done ?_)
  refine RW.kp [4] [(4, .bool false)] [] rfl rfl ?_
  refine RW.ret ?_
  cases h2
  exact RRet.mk rfl .bool (by first | decide | simp)
 ·have h3 := iteBT h1 hb
  refine rl.run 3 rfl ?_
  obtain ⟨v2, e2, h4⟩ := bindS h3
  refine rl.call rfl rfl rfl (CallW.val (r' := .bool v2) ok_spec_l08Has (law_spec_l08Has e2) (.cons (.lst ek_TItem) (.cons .int (.cons .int (.cons .int .nil)))) .refl ?_)
  refine rl.run 3 rfl (rl.done ?_)
  refine RW.kp [4] [(4, .bool (!v2))] [] rfl rfl ?_
  refine RW.ret ?_
  cases h4
  exact RRet.mk rfl .bool (by first | decide | simp)
set_option maxHeartbeats 2000000 in
theorem law_spec_l08Need {x0 : List TItem} {x1 : Int} {r : Bool} (hF : F_spec_l08Need x0 x1 = some r) : PCalls Tryz.prog 204 [L_TItem x0, .j x1] (.bool r) := by
 refine PCalls.of_r k_spec_l08Need rfl ?_
 unfold F_spec_l08Need at hF
 refine RW.sreg (rl.run 1 rfl (rl.done (RW.sreg (rl.run 2 rfl ?_))))
 obtain ⟨v1, e1, h1⟩ := bindS hF
 refine rl.op (x_ia_lst (enc := enc_TItem) (o := false) rfl rfl rfl e1) ?_
 refine rl.op (x_ld_ela (off' := 0) (vs := (enc_TItem false v1)) ek_TItem rfl e1 rfl rfl rfl) ?_
 refine rl.run 2 rfl (rl.done (RW.sreg (rl.run 4 rfl (rl.done (RW.seq (RW.sreg (rl.run 1 rfl (rl.done ?_))))))))
 obtain ⟨y5, ey5, h3⟩ := bindS h1
 refine RW.cutq (σ := Unit) (fun y3 => [(0, L_TItem x0), (5, .ptr 0 0), (6, .ptr 1 0)]) (fun y3 => [some ⟨[.j v1.Seq, .j v1.Rec.Kind, .j v1.Rec.Valid, .j v1.Rec.Uid, .j v1.Rec.Next, .j v1.Rec.Flags, .str v1.Rec.User, .str v1.Rec.Name, .str v1.Rec.Text], 0⟩, some ⟨[.j v1.Rec.Kind, .j v1.Rec.Valid, .j v1.Rec.Uid, .j v1.Rec.Next, .j v1.Rec.Flags, .str v1.Rec.User, .str v1.Rec.Name, .str v1.Rec.Text], 0⟩]) (fun y => y5 = .inr y) (fun _ _ _ _ g h => RW.gh g h) ?_ ?_
 ·refine RW.blk ?_
  refine RW.iter (σ := Int) ey5 (fun s2 => [(0, L_TItem x0), (1, .j x1), (5, .ptr 0 0), (6, .ptr 1 0), (7, .j s2)]) (fun s2 => [some ⟨[.j v1.Seq, .j v1.Rec.Kind, .j v1.Rec.Valid, .j v1.Rec.Uid, .j v1.Rec.Next, .j v1.Rec.Flags, .str v1.Rec.User, .str v1.Rec.Name, .str v1.Rec.Text], 0⟩, some ⟨[.j v1.Rec.Kind, .j v1.Rec.Valid, .j v1.Rec.Uid, .j v1.Rec.Next, .j v1.Rec.Flags, .str v1.Rec.User, .str v1.Rec.Name, .str v1.Rec.Text], 0⟩]) (Gh.ren0 [0, 1] (.cells rfl rfl (.keep .int (.keep .int (.keep .int (.keep .int (.keep .int (.keep .int (.keep .str (.keep .str (.keep .str .nil))))))))) (.cells rfl rfl (.keep .int (.keep .int (.keep .int (.keep .int (.keep .int (.keep .str (.keep .str (.keep .str .nil)))))))) .nil)) rfl (.cons rfl (.dat (ek_TItem.rlst)) (.cons rfl (.dat .int) (.cons rfl (.ptr rfl) (.cons rfl (.ptr rfl) (.cons rfl (.dat .int) .nil)))))) (fun s2 B o hS2 hB2 hE2 => ?_)
  unfold S_spec_l08Need_1 at hS2
  refine RW.seq (RW.sreg (rl.run 2 rfl ?_))
  refine rl.gen rfl rfl fun b hb => ?_
  cases b
  ·have h4 := iteBF hS2 hb
   refine rl.done (RW.cond_f rfl (RW.exit (blkA_eq ?_)))
   cases h4
   exact ⟨_, (hE2 _ rfl).symm, (Gh.ren0 [0, 1] (.cells rfl rfl (.keep .int (.keep .int (.keep .int (.keep .int (.keep .int (.keep .int (.keep .str (.keep .str (.keep .str .nil))))))))) (.cells rfl rfl (.keep .int (.keep .int (.keep .int (.keep .int (.keep .int (.keep .str (.keep .str (.keep .str .nil)))))))) .nil)) rfl (.cons rfl (.dat (ek_TItem.rlst)) (.cons rfl (.ptr rfl) (.cons rfl (.ptr rfl) .nil))))⟩
  ·have h5 := iteBT hS2 hb
   refine rl.done (RW.cond_t rfl (RW.skip (RW.seq (RW.blk (RW.sdrw (rdraw.op rfl rfl (rdraw.op rfl rfl ?_)))))))
   obtain ⟨v4, e4, h6⟩ := bindS h5
   refine rdraw.op rfl (x_ia_lst (enc := enc_TItem) (o := false) rfl rfl rfl e4) ?_
   refine rdraw.op rfl rfl ?_
   refine rdraw.op rfl (x_ld_el (off' := 0) ek_TItem rfl e4 rfl rfl rfl) ?_
   refine rdraw.op rfl rfl (rdraw.op rfl rfl ?_)
   refine rdraw.gen rfl rfl fun b hb => ?_
   cases b
   ·have h7 := iteBF h6 hb
    refine rdraw.done (RW.cond_f rfl (RW.skip (RW.reg (rl.run 3 rfl (rl.done ?_)))))
    cases h7
    exact hB2 _ rfl _ _ (Gh.ren0 [0, 1] (.cells rfl rfl (.keep .int (.keep .int (.keep .int (.keep .int (.keep .int (.keep .int (.keep .str (.keep .str (.keep .str .nil))))))))) (.cells rfl rfl (.keep .int (.keep .int (.keep .int (.keep .int (.keep .int (.keep .str (.keep .str (.keep .str .nil)))))))) .nil)) rfl (.cons rfl (.dat (ek_TItem.rlst)) (.cons rfl (.dat .int) (.cons rfl (.ptr rfl) (.cons rfl (.ptr rfl) (.cons rfl (.dat .int) .nil))))))
   ·have h8 := iteBT h6 hb
    refine rdraw.done (RW.cond_t rfl (RW.sreg (rl.run 1 rfl (rl.done ?_))))
    refine RW.kp [4] [(4, .bool false)] [some ⟨[.j v1.Seq, .j v1.Rec.Kind, .j v1.Rec.Valid, .j v1.Rec.Uid, .j v1.Rec.Next, .j v1.Rec.Flags, .str v1.Rec.User, .str v1.Rec.Name, .str v1.Rec.Text], 0⟩, some ⟨[.j v1.Rec.Kind, .j v1.Rec.Valid, .j v1.Rec.Uid, .j v1.Rec.Next, .j v1.Rec.Flags, .str v1.Rec.User, .str v1.Rec.Name, .str v1.Rec.Text], 0⟩] rfl rfl ?_
    refine RW.ret ?_
    cases h8
    have h9 := elimL h3 (hE2 _ rfl)
    cases h9
    exact RRet.mk rfl .bool (by first | decide | simp)
 ·intro y3 hC
  have h3 := elimR h3 hC
  refine RW.seq (RW.sreg (rl.run 2 rfl (rl.done (RW.blk (RW.sreg ?_)))))
  refine rl.gen rfl rfl fun b hb => ?_
  cases b
  ·have h10 := iteBF h3 hb
   refine rl.run 1 rfl (rl.done (RW.cond_f rfl (RW.sreg ?_)))
   refine rl.gen rfl rfl fun b hb => ?_
   cases b
   ·have h11 := iteBF h10 hb
    refine rl.run 1 rfl (rl.done (RW.cond_f rfl (RW.sreg ?_)))
    refine rl.gen rfl rfl fun b hb => ?_
    cases b
    ·have h12 := iteBF h11 hb
     refine rl.run 1 rfl (rl.done (RW.cond_f rfl (RW.skip (RW.sreg (rl.run 7 rfl ?_)))))
     obtain ⟨v6, e6, h13⟩ := bindS h12
     refine rl.call rfl rfl rfl (CallW.val (r' := .tup [.agg (enc_TItem false v6.1), .bool v6.2]) ok_spec_l07Best (law_spec_l07Best e6) (.cons (.lst ek_TItem) (.cons .int (.cons .int (.cons .int .nil)))) (FlL.tup (.cons .refl (.cons .refl .nil))) ?_)
     refine rl.run 6 rfl (rl.done ?_)
     refine RW.kp [0, 5, 6, 14] [(0, L_TItem x0), (5, .ptr 0 0), (6, .ptr 1 0), (14, .ptr 2 0)] [some ⟨[.j v1.Seq, .j v1.Rec.Kind, .j v1.Rec.Valid, .j v1.Rec.Uid, .j v1.Rec.Next, .j v1.Rec.Flags, .str v1.Rec.User, .str v1.Rec.Name, .str v1.Rec.Text], 0⟩, some ⟨[.j v1.Rec.Kind, .j v1.Rec.Valid, .j v1.Rec.Uid, .j v1.Rec.Next, .j v1.Rec.Flags, .str v1.Rec.User, .str v1.Rec.Name, .str v1.Rec.Text], 0⟩, some ⟨[.j v6.1.Seq, .j v6.1.Rec.Kind, .j v6.1.Rec.Valid, .j v6.1.Rec.Uid, .j v6.1.Rec.Next, .j v6.1.Rec.Flags, .str v6.1.Rec.User, .str v6.1.Rec.Name, .str v6.1.Rec.Text], 0⟩] rfl rfl ?_
     refine RW.seq ?_
     obtain ⟨y7, ey7, h14⟩ := bindS h13
     refine RW.cutq (σ := Bool) (fun y7 => [(4, .bool y7)]) (fun y7 => []) (fun y => y7 = y) (fun _ _ _ _ g h => RW.gh g h) ?_ ?_
     ·refine RW.reg ?_
      refine rl.run 3 rfl ?_
      obtain ⟨v8, e8, h15⟩ := bindS ey7
      refine rl.call rfl rfl rfl (CallW.val (r' := .bool v8) ok_spec_l08There (law_spec_l08There e8) (.cons (.lst ek_TItem) (.cons .int .nil)) .refl ?_)
      cases hb : v8
      ·have h16 := iteBF h15 hb
       refine rl.run 25 rfl (rl.done ?_)
       cases h16
       exact ⟨_, rfl, (Gh.ren0 [] .nil rfl (.cons rfl (.dat .bool) .nil))⟩
      ·have h17 := iteBT h15 hb
       refine rl.run 6 rfl ?_
       obtain ⟨v9, e9, h18⟩ := bindS h17
       refine rl.call rfl rfl rfl (CallW.val (r' := .bool v9) ok_spec_l08Has (law_spec_l08Has e9) (.cons (.lst ek_TItem) (.cons .int (.cons .int (.cons .int .nil)))) .refl ?_)
       cases hb : v9
       ·have h19 := iteBF h18 hb
        refine rl.run 18 rfl (rl.done ?_)
        cases h19
        exact ⟨_, rfl, (Gh.ren0 [] .nil rfl (.cons rfl (.dat .bool) .nil))⟩
       ·have h20 := iteBT h18 hb
        refine rl.run 7 rfl ?_
        obtain ⟨v10, e10, h21⟩ := bindS h20
        refine rl.call rfl rfl rfl (CallW.val (r' := .bool v10) ok_spec_l08Has (law_spec_l08Has e10) (.cons (.lst ek_TItem) (.cons .int (.cons .int (.cons .int .nil)))) .refl ?_)
        cases hb : v10
        ·have h22 := iteBF h21 hb
         refine rl.run 10 rfl (rl.done ?_)
         cases h22
         exact ⟨_, rfl, (Gh.ren0 [] .nil rfl (.cons rfl (.dat .bool) .nil))⟩
        ·have h23 := iteBT h21 hb
         refine rl.run 10 rfl (rl.done ?_)
         cases h23
         exact ⟨_, rfl, (Gh.ren0 [] .nil rfl (.cons rfl (.dat .bool) .nil))⟩
     ·intro y hC
      subst hC
      refine RW.ret ?_
      cases h14
      exact RRet.mk rfl .bool (by first | decide | simp)
    ·have h24 := iteBT h11 hb
     refine rl.run 1 rfl (rl.done (RW.cond_t rfl (RW.sreg (rl.run 5 rfl ?_))))
     obtain ⟨v11, e11, h25⟩ := bindS h24
     refine rl.call rfl rfl rfl (CallW.val (r' := .tup [.agg (enc_TItem false v11.1), .bool v11.2]) ok_spec_l07Best (law_spec_l07Best e11) (.cons (.lst ek_TItem) (.cons .int (.cons .int (.cons .int .nil)))) (FlL.tup (.cons .refl (.cons .refl .nil))) ?_)
     refine rl.run 6 rfl (rl.done ?_)
     refine RW.kp [0, 5, 6, 12] [(0, L_TItem x0), (5, .ptr 0 0), (6, .ptr 1 0), (12, .ptr 2 0)] [some ⟨[.j v1.Seq, .j v1.Rec.Kind, .j v1.Rec.Valid, .j v1.Rec.Uid, .j v1.Rec.Next, .j v1.Rec.Flags, .str v1.Rec.User, .str v1.Rec.Name, .str v1.Rec.Text], 0⟩, some ⟨[.j v1.Rec.Kind, .j v1.Rec.Valid, .j v1.Rec.Uid, .j v1.Rec.Next, .j v1.Rec.Flags, .str v1.Rec.User, .str v1.Rec.Name, .str v1.Rec.Text], 0⟩, some ⟨[.j v11.1.Seq, .j v11.1.Rec.Kind, .j v11.1.Rec.Valid, .j v11.1.Rec.Uid, .j v11.1.Rec.Next, .j v11.1.Rec.Flags, .str v11.1.Rec.User, .str v11.1.Rec.Name, .str v11.1.Rec.Text], 0⟩] rfl rfl ?_
     refine RW.seq ?_
     obtain ⟨y12, ey12, h26⟩ := bindS h25
     refine RW.cutq (σ := Bool) (fun y12 => [(4, .bool y12)]) (fun y12 => []) (fun y => y12 = y) (fun _ _ _ _ g h => RW.gh g h) ?_ ?_
     ·refine RW.reg ?_
      refine rl.run 3 rfl ?_
      obtain ⟨v13, e13, h27⟩ := bindS ey12
      refine rl.call rfl rfl rfl (CallW.val (r' := .bool v13) ok_spec_l08There (law_spec_l08There e13) (.cons (.lst ek_TItem) (.cons .int .nil)) .refl ?_)
      cases hb : v13
      ·have h28 := iteBF h27 hb
       refine rl.run 16 rfl (rl.done ?_)
       cases h28
       exact ⟨_, rfl, (Gh.ren0 [] .nil rfl (.cons rfl (.dat .bool) .nil))⟩
      ·have h29 := iteBT h27 hb
       refine rl.run 6 rfl ?_
       obtain ⟨v14, e14, h30⟩ := bindS h29
       refine rl.call rfl rfl rfl (CallW.val (r' := .bool v14) ok_spec_l08Has (law_spec_l08Has e14) (.cons (.lst ek_TItem) (.cons .int (.cons .int (.cons .int .nil)))) .refl ?_)
       cases hb : v14
       ·have h31 := iteBF h30 hb
        refine rl.run 9 rfl (rl.done ?_)
        cases h31
        exact ⟨_, rfl, (Gh.ren0 [] .nil rfl (.cons rfl (.dat .bool) .nil))⟩
       ·have h32 := iteBT h30 hb
        refine rl.run 9 rfl (rl.done ?_)
        cases h32
        exact ⟨_, rfl, (Gh.ren0 [] .nil rfl (.cons rfl (.dat .bool) .nil))⟩
     ·intro y hC
      subst hC
      refine RW.ret ?_
      cases h26
      exact RRet.mk rfl .bool (by first | decide | simp)
   ·have h33 := iteBT h10 hb
    refine rl.run 1 rfl (rl.done (RW.cond_t rfl (RW.sreg (rl.run 3 rfl ?_))))
    obtain ⟨v15, e15, h34⟩ := bindS h33
    refine rl.call rfl rfl rfl (CallW.val (r' := .tup [.agg (enc_TItem false v15.1), .bool v15.2]) ok_spec_l07Best (law_spec_l07Best e15) (.cons (.lst ek_TItem) (.cons .int (.cons .int (.cons .int .nil)))) (FlL.tup (.cons .refl (.cons .refl .nil))) ?_)
    refine rl.run 6 rfl (rl.done ?_)
    refine RW.kp [0, 5, 6, 9] [(0, L_TItem x0), (5, .ptr 0 0), (6, .ptr 1 0), (9, .ptr 2 0)] [some ⟨[.j v1.Seq, .j v1.Rec.Kind, .j v1.Rec.Valid, .j v1.Rec.Uid, .j v1.Rec.Next, .j v1.Rec.Flags, .str v1.Rec.User, .str v1.Rec.Name, .str v1.Rec.Text], 0⟩, some ⟨[.j v1.Rec.Kind, .j v1.Rec.Valid, .j v1.Rec.Uid, .j v1.Rec.Next, .j v1.Rec.Flags, .str v1.Rec.User, .str v1.Rec.Name, .str v1.Rec.Text], 0⟩, some ⟨[.j v15.1.Seq, .j v15.1.Rec.Kind, .j v15.1.Rec.Valid, .j v15.1.Rec.Uid, .j v15.1.Rec.Next, .j v15.1.Rec.Flags, .str v15.1.Rec.User, .str v15.1.Rec.Name, .str v15.1.Rec.Text], 0⟩] rfl rfl ?_
    refine RW.seq (RW.sreg (rl.run 1 rfl (rl.done ?_)))
    obtain ⟨y21, ey21, h36⟩ := bindS h34
    refine RW.cutq (σ := Unit) (fun y17 => []) (fun y17 => []) (fun y => y21 = .inr y) (fun _ _ _ _ g h => RW.gh g h) ?_ ?_
    ·refine RW.blk ?_
     refine RW.iter (σ := Int) ey21 (fun s16 => [(0, L_TItem x0), (5, .ptr 0 0), (6, .ptr 1 0), (9, .ptr 2 0), (11, .j s16)]) (fun s16 => [some ⟨[.j v1.Seq, .j v1.Rec.Kind, .j v1.Rec.Valid, .j v1.Rec.Uid, .j v1.Rec.Next, .j v1.Rec.Flags, .str v1.Rec.User, .str v1.Rec.Name, .str v1.Rec.Text], 0⟩, some ⟨[.j v1.Rec.Kind, .j v1.Rec.Valid, .j v1.Rec.Uid, .j v1.Rec.Next, .j v1.Rec.Flags, .str v1.Rec.User, .str v1.Rec.Name, .str v1.Rec.Text], 0⟩, some ⟨[.j v15.1.Seq, .j v15.1.Rec.Kind, .j v15.1.Rec.Valid, .j v15.1.Rec.Uid, .j v15.1.Rec.Next, .j v15.1.Rec.Flags, .str v15.1.Rec.User, .str v15.1.Rec.Name, .str v15.1.Rec.Text], 0⟩]) (Gh.ren0 [0, 1, 2] (.cells rfl rfl (.keep .int (.keep .int (.keep .int (.keep .int (.keep .int (.keep .int (.keep .str (.keep .str (.keep .str .nil))))))))) (.cells rfl rfl (.keep .int (.keep .int (.keep .int (.keep .int (.keep .int (.keep .str (.keep .str (.keep .str .nil)))))))) (.cells rfl rfl (.keep .int (.keep .int (.keep .int (.keep .int (.keep .int (.keep .int (.keep .str (.keep .str (.keep .str .nil))))))))) .nil))) rfl (.cons rfl (.dat (ek_TItem.rlst)) (.cons rfl (.ptr rfl) (.cons rfl (.ptr rfl) (.cons rfl (.ptr rfl) (.cons rfl (.dat .int) .nil)))))) (fun s16 B o hS35 hB35 hE35 => ?_)
     unfold S_spec_l08Need_2 at hS35
     refine RW.seq (RW.sreg (rl.run 3 rfl ?_))
     refine rl.gen rfl rfl fun b hb => ?_
     cases b
     ·have h37 := iteBF hS35 hb
      refine rl.done (RW.cond_f rfl (RW.exit (blkA_eq ?_)))
      cases h37
      exact ⟨_, (hE35 _ rfl).symm, (Gh.ren0 [] .nil rfl .nil)⟩
     ·have h38 := iteBT hS35 hb
      refine rl.done (RW.cond_t rfl (RW.skip (RW.seq (RW.blk (RW.seq ?_)))))
      obtain ⟨y18, ey18, h39⟩ := bindS h38
      refine RW.cutq (σ := Bool) (fun y18 => [(0, L_TItem x0), (5, .ptr 0 0), (6, .ptr 1 0), (9, .ptr 2 0), (11, .j s16), (107, .bool y18)]) (fun y18 => [some ⟨[.j v1.Seq, .j v1.Rec.Kind, .j v1.Rec.Valid, .j v1.Rec.Uid, .j v1.Rec.Next, .j v1.Rec.Flags, .str v1.Rec.User, .str v1.Rec.Name, .str v1.Rec.Text], 0⟩, some ⟨[.j v1.Rec.Kind, .j v1.Rec.Valid, .j v1.Rec.Uid, .j v1.Rec.Next, .j v1.Rec.Flags, .str v1.Rec.User, .str v1.Rec.Name, .str v1.Rec.Text], 0⟩, some ⟨[.j v15.1.Seq, .j v15.1.Rec.Kind, .j v15.1.Rec.Valid, .j v15.1.Rec.Uid, .j v15.1.Rec.Next, .j v15.1.Rec.Flags, .str v15.1.Rec.User, .str v15.1.Rec.Name, .str v15.1.Rec.Text], 0⟩]) (fun y => y18 = y) (fun _ _ _ _ g h => RW.gh g h) ?_ ?_
      ·refine RW.drw ?_
       refine rdraw.op rfl rfl (rdraw.op rfl rfl ?_)
       obtain ⟨v19, e19, h40⟩ := bindS ey18
       refine rdraw.op rfl (x_ia_lst (enc := enc_TItem) (o := false) rfl rfl rfl e19) ?_
       refine rdraw.op rfl rfl (rdraw.op rfl rfl ?_)
       refine rdraw.op rfl (x_ld_el (off' := 1) ek_TItem rfl e19 rfl rfl rfl) ?_
       refine rdraw.gen rfl rfl fun b hb => ?_
       cases b
       ·have h41 := iteBF h40 hb
        refine rdraw.op rfl rfl (rdraw.off rfl (rdraw.off rfl (rdraw.off rfl (rdraw.off rfl (rdraw.off rfl (rdraw.off rfl (rdraw.off rfl (rdraw.off rfl (rdraw.off rfl (rdraw.op rfl rfl (rdraw.done ?_)))))))))))
        cases h41
        exact ⟨_, rfl, (Gh.ren0 [0, 1, 2] (.cells rfl rfl (.keep .int (.keep .int (.keep .int (.keep .int (.keep .int (.keep .int (.keep .str (.keep .str (.keep .str .nil))))))))) (.cells rfl rfl (.keep .int (.keep .int (.keep .int (.keep .int (.keep .int (.keep .str (.keep .str (.keep .str .nil)))))))) (.cells rfl rfl (.keep .int (.keep .int (.keep .int (.keep .int (.keep .int (.keep .int (.keep .str (.keep .str (.keep .str .nil))))))))) .nil))) rfl (.cons rfl (.dat (ek_TItem.rlst)) (.cons rfl (.ptr rfl) (.cons rfl (.ptr rfl) (.cons rfl (.ptr rfl) (.cons rfl (.dat .int) (.cons rfl (.dat .bool) .nil)))))))⟩
       ·have h42 := iteBT h40 hb
        refine rdraw.op rfl rfl (rdraw.op rfl rfl (rdraw.op rfl rfl ?_))
        obtain ⟨v20, e20, h43⟩ := bindS h42
        refine rdraw.op rfl (x_ia_lst (enc := enc_TItem) (o := false) rfl rfl rfl e20) ?_
        refine rdraw.op rfl rfl (rdraw.op rfl rfl ?_)
        refine rdraw.op rfl (x_ld_el (off' := 2) ek_TItem rfl e20 rfl rfl rfl) ?_
        refine rdraw.op rfl rfl (rdraw.op rfl rfl ?_)
        refine rdraw.gen rfl rfl fun b hb => ?_
        cases b
        ·have h44 := iteBF h43 hb
         refine rdraw.op rfl rfl (rdraw.done ?_)
         cases h44
         exact ⟨_, rfl, (Gh.ren0 [0, 1, 2] (.cells rfl rfl (.keep .int (.keep .int (.keep .int (.keep .int (.keep .int (.keep .int (.keep .str (.keep .str (.keep .str .nil))))))))) (.cells rfl rfl (.keep .int (.keep .int (.keep .int (.keep .int (.keep .int (.keep .str (.keep .str (.keep .str .nil)))))))) (.cells rfl rfl (.keep .int (.keep .int (.keep .int (.keep .int (.keep .int (.keep .int (.keep .str (.keep .str (.keep .str .nil))))))))) .nil))) rfl (.cons rfl (.dat (ek_TItem.rlst)) (.cons rfl (.ptr rfl) (.cons rfl (.ptr rfl) (.cons rfl (.ptr rfl) (.cons rfl (.dat .int) (.cons rfl (.dat .bool) .nil)))))))⟩
        ·have h45 := iteBT h43 hb
         refine rdraw.op rfl rfl (rdraw.done ?_)
         cases h45
         exact ⟨_, rfl, (Gh.ren0 [0, 1, 2] (.cells rfl rfl (.keep .int (.keep .int (.keep .int (.keep .int (.keep .int (.keep .int (.keep .str (.keep .str (.keep .str .nil))))))))) (.cells rfl rfl (.keep .int (.keep .int (.keep .int (.keep .int (.keep .int (.keep .str (.keep .str (.keep .str .nil)))))))) (.cells rfl rfl (.keep .int (.keep .int (.keep .int (.keep .int (.keep .int (.keep .int (.keep .str (.keep .str (.keep .str .nil))))))))) .nil))) rfl (.cons rfl (.dat (ek_TItem.rlst)) (.cons rfl (.ptr rfl) (.cons rfl (.ptr rfl) (.cons rfl (.ptr rfl) (.cons rfl (.dat .int) (.cons rfl (.dat .bool) .nil)))))))⟩
      ·intro y hC
       subst hC
       cases hb : y18
       ·have h46 := iteBF h39 hb
        refine RW.cond_f rfl (RW.skip (RW.reg (rl.run 3 rfl (rl.done ?_))))
        cases h46
        exact hB35 _ rfl _ _ (Gh.ren0 [0, 1, 2] (.cells rfl rfl (.keep .int (.keep .int (.keep .int (.keep .int (.keep .int (.keep .int (.keep .str (.keep .str (.keep .str .nil))))))))) (.cells rfl rfl (.keep .int (.keep .int (.keep .int (.keep .int (.keep .int (.keep .str (.keep .str (.keep .str .nil)))))))) (.cells rfl rfl (.keep .int (.keep .int (.keep .int (.keep .int (.keep .int (.keep .int (.keep .str (.keep .str (.keep .str .nil))))))))) .nil))) rfl (.cons rfl (.dat (ek_TItem.rlst)) (.cons rfl (.ptr rfl) (.cons rfl (.ptr rfl) (.cons rfl (.ptr rfl) (.cons rfl (.dat .int) .nil))))))
       ·have h47 := iteBT h39 hb
        refine RW.cond_t rfl (RW.sreg (rl.run 6 rfl (rl.done ?_)))
        refine RW.kp [4] [(4, .bool (v15.1.Seq == v1.Seq))] [some ⟨[.j v1.Seq, .j v1.Rec.Kind, .j v1.Rec.Valid, .j v1.Rec.Uid, .j v1.Rec.Next, .j v1.Rec.Flags, .str v1.Rec.User, .str v1.Rec.Name, .str v1.Rec.Text], 0⟩, some ⟨[.j v1.Rec.Kind, .j v1.Rec.Valid, .j v1.Rec.Uid, .j v1.Rec.Next, .j v1.Rec.Flags, .str v1.Rec.User, .str v1.Rec.Name, .str v1.Rec.Text], 0⟩, some ⟨[.j v15.1.Seq, .j v15.1.Rec.Kind, .j v15.1.Rec.Valid, .j v15.1.Rec.Uid, .j v15.1.Rec.Next, .j v15.1.Rec.Flags, .str v15.1.Rec.User, .str v15.1.Rec.Name, .str v15.1.Rec.Text], 0⟩] rfl rfl ?_
        refine RW.ret ?_
        cases h47
        have h48 := elimL h36 (hE35 _ rfl)
        cases h48
        exact RRet.mk rfl .bool (by first | decide | simp)
    ·intro y17 hC
     have h36 := elimR h36 hC
     refine RW.sreg (rl.run 1 rfl (rl.done (RW.ret ?_)))
     cases h36
     exact RRet.mk rfl .bool (by first | decide | simp)
  ·have h49 := iteBT h3 hb
   refine rl.run 1 rfl (rl.done (RW.cond_t rfl (RW.seq (RW.sreg (rl.run 1 rfl (rl.done ?_))))))
   obtain ⟨y29, ey29, h51⟩ := bindS h49
   refine RW.cutq (σ := Unit) (fun y23 => [(0, L_TItem x0), (6, .ptr 0 0)]) (fun y23 => [some ⟨[.j v1.Rec.Kind, .j v1.Rec.Valid, .j v1.Rec.Uid, .j v1.Rec.Next, .j v1.Rec.Flags, .str v1.Rec.User, .str v1.Rec.Name, .str v1.Rec.Text], 0⟩]) (fun y => y29 = .inr y) (fun _ _ _ _ g h => RW.gh g h) ?_ ?_
   ·refine RW.blk ?_
    refine RW.iter (σ := Int) ey29 (fun s22 => [(0, L_TItem x0), (5, .ptr 0 0), (6, .ptr 1 0), (8, .j s22)]) (fun s22 => [some ⟨[.j v1.Seq, .j v1.Rec.Kind, .j v1.Rec.Valid, .j v1.Rec.Uid, .j v1.Rec.Next, .j v1.Rec.Flags, .str v1.Rec.User, .str v1.Rec.Name, .str v1.Rec.Text], 0⟩, some ⟨[.j v1.Rec.Kind, .j v1.Rec.Valid, .j v1.Rec.Uid, .j v1.Rec.Next, .j v1.Rec.Flags, .str v1.Rec.User, .str v1.Rec.Name, .str v1.Rec.Text], 0⟩]) (Gh.ren0 [0, 1] (.cells rfl rfl (.keep .int (.keep .int (.keep .int (.keep .int (.keep .int (.keep .int (.keep .str (.keep .str (.keep .str .nil))))))))) (.cells rfl rfl (.keep .int (.keep .int (.keep .int (.keep .int (.keep .int (.keep .str (.keep .str (.keep .str .nil)))))))) .nil)) rfl (.cons rfl (.dat (ek_TItem.rlst)) (.cons rfl (.ptr rfl) (.cons rfl (.ptr rfl) (.cons rfl (.dat .int) .nil))))) (fun s22 B o hS50 hB50 hE50 => ?_)
    unfold S_spec_l08Need_3 at hS50
    refine RW.seq (RW.sreg (rl.run 3 rfl ?_))
    refine rl.gen rfl rfl fun b hb => ?_
    cases b
    ·have h52 := iteBF hS50 hb
     refine rl.done (RW.cond_f rfl (RW.exit (blkA_eq ?_)))
     cases h52
     exact ⟨_, (hE50 _ rfl).symm, (Gh.ren0 [1] (.cells rfl rfl (.keep .int (.keep .int (.keep .int (.keep .int (.keep .int (.keep .str (.keep .str (.keep .str .nil)))))))) .nil) rfl (.cons rfl (.dat (ek_TItem.rlst)) (.cons rfl (.ptr rfl) .nil)))⟩
    ·have h53 := iteBT hS50 hb
     refine rl.done (RW.cond_t rfl (RW.skip (RW.seq (RW.blk (RW.seq ?_)))))
     obtain ⟨y24, ey24, h54⟩ := bindS h53
     refine RW.cutq (σ := Bool) (fun y24 => [(0, L_TItem x0), (5, .ptr 0 0), (6, .ptr 1 0), (8, .j s22), (70, .bool y24)]) (fun y24 => [some ⟨[.j v1.Seq, .j v1.Rec.Kind, .j v1.Rec.Valid, .j v1.Rec.Uid, .j v1.Rec.Next, .j v1.Rec.Flags, .str v1.Rec.User, .str v1.Rec.Name, .str v1.Rec.Text], 0⟩, some ⟨[.j v1.Rec.Kind, .j v1.Rec.Valid, .j v1.Rec.Uid, .j v1.Rec.Next, .j v1.Rec.Flags, .str v1.Rec.User, .str v1.Rec.Name, .str v1.Rec.Text], 0⟩]) (fun y => y24 = y) (fun _ _ _ _ g h => RW.gh g h) ?_ ?_
     ·refine RW.drw ?_
      refine rdraw.op rfl rfl (rdraw.op rfl rfl ?_)
      obtain ⟨v25, e25, h55⟩ := bindS ey24
      refine rdraw.op rfl (x_ia_lst (enc := enc_TItem) (o := false) rfl rfl rfl e25) ?_
      refine rdraw.op rfl rfl (rdraw.op rfl rfl ?_)
      refine rdraw.op rfl (x_ld_el (off' := 1) ek_TItem rfl e25 rfl rfl rfl) ?_
      refine rdraw.gen rfl rfl fun b hb => ?_
      cases b
      ·have h56 := iteBF h55 hb
       refine rdraw.op rfl rfl (rdraw.off rfl (rdraw.off rfl (rdraw.off rfl (rdraw.off rfl (rdraw.off rfl (rdraw.off rfl (rdraw.off rfl (rdraw.off rfl (rdraw.off rfl (rdraw.op rfl rfl (rdraw.op rfl rfl ?_)))))))))))
       refine rdraw.off rfl (rdraw.off rfl (rdraw.off rfl (rdraw.off rfl (rdraw.off rfl (rdraw.off rfl (rdraw.op rfl rfl (rdraw.done ?_)))))))
       cases h56
       exact ⟨_, rfl, (Gh.ren0 [0, 1] (.cells rfl rfl (.keep .int (.keep .int (.keep .int (.keep .int (.keep .int (.keep .int (.keep .str (.keep .str (.keep .str .nil))))))))) (.cells rfl rfl (.keep .int (.keep .int (.keep .int (.keep .int (.keep .int (.keep .str (.keep .str (.keep .str .nil)))))))) .nil)) rfl (.cons rfl (.dat (ek_TItem.rlst)) (.cons rfl (.ptr rfl) (.cons rfl (.ptr rfl) (.cons rfl (.dat .int) (.cons rfl (.dat .bool) .nil))))))⟩
      ·have h57 := iteBT h55 hb
       refine rdraw.op rfl rfl (rdraw.op rfl rfl (rdraw.op rfl rfl ?_))
       obtain ⟨v26, e26, h58⟩ := bindS h57
       refine rdraw.op rfl (x_ia_lst (enc := enc_TItem) (o := false) rfl rfl rfl e26) ?_
       refine rdraw.op rfl rfl (rdraw.op rfl rfl ?_)
       refine rdraw.op rfl (x_ld_el (off' := 2) ek_TItem rfl e26 rfl rfl rfl) ?_
       refine rdraw.op rfl rfl (rdraw.op rfl rfl ?_)
       refine rdraw.gen rfl rfl fun b hb => ?_
       cases b
       ·have h59 := iteBF h58 hb
        refine rdraw.op rfl rfl (rdraw.op rfl rfl (rdraw.off rfl (rdraw.off rfl (rdraw.off rfl (rdraw.off rfl (rdraw.off rfl (rdraw.off rfl (rdraw.op rfl rfl (rdraw.done ?_)))))))))
        cases h59
        exact ⟨_, rfl, (Gh.ren0 [0, 1] (.cells rfl rfl (.keep .int (.keep .int (.keep .int (.keep .int (.keep .int (.keep .int (.keep .str (.keep .str (.keep .str .nil))))))))) (.cells rfl rfl (.keep .int (.keep .int (.keep .int (.keep .int (.keep .int (.keep .str (.keep .str (.keep .str .nil)))))))) .nil)) rfl (.cons rfl (.dat (ek_TItem.rlst)) (.cons rfl (.ptr rfl) (.cons rfl (.ptr rfl) (.cons rfl (.dat .int) (.cons rfl (.dat .bool) .nil))))))⟩
       ·have h60 := iteBT h58 hb
        refine rdraw.op rfl rfl (rdraw.op rfl rfl (rdraw.op rfl rfl (rdraw.op rfl rfl ?_)))
        obtain ⟨v27, e27, h61⟩ := bindS h60
        refine rdraw.op rfl (x_ia_lst (enc := enc_TItem) (o := false) rfl rfl rfl e27) ?_
        refine rdraw.op rfl (x_ld_ela (off' := 0) (vs := (enc_TItem false v27)) ek_TItem rfl e27 rfl rfl rfl) ?_
        refine rdraw.op rfl rfl ?_
        obtain ⟨v28, e28, h62⟩ := bindS h61
        refine rdraw.call rfl rfl rfl (CallW.val (r' := .bool v28) ok_spec_l08Bigger (law_spec_l08Bigger e28) (.cons (.dat (.agg (ek_TItem.dat false _))) (.cons (DFL.agg (.cons .int (.cons .int (.cons .int (.cons .int (.cons .int (.cons .int (.cons .str (.cons .str (.cons .str .nil)))))))))) .nil)) .refl ⟨rfl, ?_⟩)
        cases hb : v28
        ·have h63 := iteBF h62 hb
         refine rdraw.op rfl rfl (rdraw.done ?_)
         cases h63
         exact ⟨_, rfl, (Gh.ren0 [0, 1] (.cells rfl rfl (.keep .int (.keep .int (.keep .int (.keep .int (.keep .int (.keep .int (.keep .str (.keep .str (.keep .str .nil))))))))) (.cells rfl rfl (.keep .int (.keep .int (.keep .int (.keep .int (.keep .int (.keep .str (.keep .str (.keep .str .nil)))))))) .nil)) rfl (.cons rfl (.dat (ek_TItem.rlst)) (.cons rfl (.ptr rfl) (.cons rfl (.ptr rfl) (.cons rfl (.dat .int) (.cons rfl (.dat .bool) .nil))))))⟩
        ·have h64 := iteBT h62 hb
         refine rdraw.op rfl rfl (rdraw.done ?_)
         cases h64
         exact ⟨_, rfl, (Gh.ren0 [0, 1] (.cells rfl rfl (.keep .int (.keep .int (.keep .int (.keep .int (.keep .int (.keep .int (.keep .str (.keep .str (.keep .str .nil))))))))) (.cells rfl rfl (.keep .int (.keep .int (.keep .int (.keep .int (.keep .int (.keep .str (.keep .str (.keep .str .nil)))))))) .nil)) rfl (.cons rfl (.dat (ek_TItem.rlst)) (.cons rfl (.ptr rfl) (.cons rfl (.ptr rfl) (.cons rfl (.dat .int) (.cons rfl (.dat .bool) .nil))))))⟩
     ·intro y hC
      subst hC
      cases hb : y24
      ·have h65 := iteBF h54 hb
       refine RW.cond_f rfl (RW.skip (RW.reg (rl.run 3 rfl (rl.done ?_))))
       cases h65
       exact hB50 _ rfl _ _ (Gh.ren0 [0, 1] (.cells rfl rfl (.keep .int (.keep .int (.keep .int (.keep .int (.keep .int (.keep .int (.keep .str (.keep .str (.keep .str .nil))))))))) (.cells rfl rfl (.keep .int (.keep .int (.keep .int (.keep .int (.keep .int (.keep .str (.keep .str (.keep .str .nil)))))))) .nil)) rfl (.cons rfl (.dat (ek_TItem.rlst)) (.cons rfl (.ptr rfl) (.cons rfl (.ptr rfl) (.cons rfl (.dat .int) .nil)))))
      ·have h66 := iteBT h54 hb
       refine RW.cond_t rfl (RW.sreg (rl.run 1 rfl (rl.done (RW.ret ?_))))
       cases h66
       have h67 := elimL h51 (hE50 _ rfl)
       cases h67
       exact RRet.mk rfl .bool (by first | decide | simp)
   ·intro y23 hC
    have h51 := elimR h51 hC
    refine RW.sreg (rl.run 3 rfl ?_)
    obtain ⟨v30, e30, h68⟩ := bindS h51
    refine rl.call rfl rfl rfl (CallW.val (r' := .bool v30) ok_spec_l08There (law_spec_l08There e30) (.cons (.lst ek_TItem) (.cons .int .nil)) .refl ?_)
    refine rl.run 1 rfl (rl.done (RW.ret ?_))
    cases h68
    exact RRet.mk rfl .bool (by first | decide | simp)
theorem law_spec_NeededAll {x0 : List TItem} {r : List Bool} (hF : F_spec_NeededAll x0 = some r) : PCalls Tryz.prog 172 [L_TItem x0] (.lst true 1 (fl (encO true) r) r.length) := by
 refine PCalls.of_r k_spec_NeededAll rfl ?_
 unfold F_spec_NeededAll at hF
 refine RW.sreg (rl.run 1 rfl (rl.done (RW.sreg (rl.run 1 rfl ?_))))
 obtain ⟨v1, e1, h1⟩ := bindS hF
 refine rl.call rfl rfl rfl (CallW.val (r' := .bool v1) ok_spec_ItemsOk (law_spec_ItemsOk e1) (.cons (.lst ek_TItem) .nil) .refl ?_)
 cases hb : v1
 ·have h2 := iteBF h1 hb
  refine rl.run 1 rfl (rl.done (RW.sreg (rl.run 2 rfl (rl.done (RW.seq (RW.sreg (rl.run 1 rfl (rl.done ?_))))))))
  refine RW.gh (Gh.nil_t 4 1 rfl) ?_
  obtain ⟨y5, ey5, h4⟩ := bindS h2
  refine RW.cutq (σ := (List Bool)) (fun y3 => [(4, .sl 0 0 y3.length)]) (fun y3 => [some ⟨fl (encO true) y3, 1⟩]) (fun y => y5 = y) (fun _ _ _ _ g h => RW.gh g h) ?_ ?_
  ·refine RW.blk ?_
   refine RW.iter (σ := Int × (List Bool)) ey5 (fun s2 => [(0, L_TItem x0), (3, .bool false), (4, .sl 0 0 s2.2.length), (5, .j s2.1)]) (fun s2 => [some ⟨fl (encO true) s2.2, 1⟩]) (Gh.ren0 [0] (.same rfl (ekO.fref _ _) .nil) rfl (.cons rfl (.dat (ek_TItem.rlst)) (.cons rfl (.dat .bool) (.cons rfl (.slq rfl rfl) (.cons rfl (.dat .int) .nil))))) (fun s2 B o hS3 hB3 hE3 => ?_)
   unfold S_spec_NeededAll_1 at hS3
   refine RW.seq (RW.sreg (rl.run 3 rfl ?_))
   refine rl.gen rfl rfl fun b hb => ?_
   cases b
   ·have h5 := iteBF hS3 hb
    refine rl.done (RW.cond_f rfl (RW.exit (blkA_eq ?_)))
    cases h5
    exact ⟨_, (hE3 _ rfl).symm, (Gh.ren0 [0] (.same rfl (ekO.fref _ _) .nil) rfl (.cons rfl (.slq rfl rfl) .nil))⟩
   ·have h6 := iteBT hS3 hb
    refine rl.done (RW.cond_t rfl (RW.skip (RW.seq (RW.blk (RW.reg (rl.run 8 rfl ?_))))))
    obtain ⟨v4, e4, h7⟩ := bindS h6
    refine rl.op (x_app rfl rfl (rapp_sl (l := s2.2) (m := [false]) (o := true) ekO rfl rfl (acont_slq (m := [false]) (o := true) fkO rfl rfl) rfl (fkO.fst _ _) e4)) ?_
    refine rl.run 1 rfl (rl.done (RW.reg (rl.run 3 rfl (rl.done ?_))))
    cases h7
    exact hB3 _ rfl _ _ (Gh.ren0 [2] (.same rfl (ekO.fref _ _) .nil) rfl (.cons rfl (.dat (ek_TItem.rlst)) (.cons rfl (.dat .bool) (.cons rfl (.slq rfl rfl) (.cons rfl (.dat .int) .nil)))))
  ·intro y3 hC
   subst hC
   refine RW.sreg (rl.run 2 rfl (rl.done (RW.ret ?_)))
   cases h4
   exact RRet.mk rfl (OutR.ownq ekO rfl rfl) (by first | decide | simp)
 ·have h8 := iteBT h1 hb
  refine rl.run 1 rfl (rl.done (RW.sreg (rl.run 2 rfl (rl.done (RW.seq (RW.sreg (rl.run 1 rfl (rl.done ?_))))))))
  refine RW.gh (Gh.nil_t 4 1 rfl) ?_
  obtain ⟨y10, ey10, h10⟩ := bindS h8
  refine RW.cutq (σ := (List Bool)) (fun y7 => [(4, .sl 0 0 y7.length)]) (fun y7 => [some ⟨fl (encO true) y7, 1⟩]) (fun y => y10 = y) (fun _ _ _ _ g h => RW.gh g h) ?_ ?_
  ·refine RW.blk ?_
   refine RW.iter (σ := Int × (List Bool)) ey10 (fun s6 => [(0, L_TItem x0), (3, .bool true), (4, .sl 0 0 s6.2.length), (5, .j s6.1)]) (fun s6 => [some ⟨fl (encO true) s6.2, 1⟩]) (Gh.ren0 [0] (.same rfl (ekO.fref _ _) .nil) rfl (.cons rfl (.dat (ek_TItem.rlst)) (.cons rfl (.dat .bool) (.cons rfl (.slq rfl rfl) (.cons rfl (.dat .int) .nil))))) (fun s6 B o hS9 hB9 hE9 => ?_)
   unfold S_spec_NeededAll_2 at hS9
   refine RW.seq (RW.sreg (rl.run 3 rfl ?_))
   refine rl.gen rfl rfl fun b hb => ?_
   cases b
   ·have h11 := iteBF hS9 hb
    refine rl.done (RW.cond_f rfl (RW.exit (blkA_eq ?_)))
    cases h11
    exact ⟨_, (hE9 _ rfl).symm, (Gh.ren0 [0] (.same rfl (ekO.fref _ _) .nil) rfl (.cons rfl (.slq rfl rfl) .nil))⟩
   ·have h12 := iteBT hS9 hb
    refine rl.done (RW.cond_t rfl (RW.skip (RW.seq (RW.blk (RW.reg (rl.run 5 rfl ?_))))))
    obtain ⟨v8, e8, h13⟩ := bindS h12
    refine rl.call rfl rfl rfl (CallW.val (r' := .bool v8) ok_spec_l08Need (law_spec_l08Need e8) (.cons (.lst ek_TItem) (.cons .int .nil)) .refl ?_)
    refine rl.run 2 rfl ?_
    obtain ⟨v9, e9, h14⟩ := bindS h13
    refine rl.op (x_app rfl rfl (rapp_sl (l := s6.2) (m := [v8]) (o := true) ekO rfl rfl (acont_slq (m := [v8]) (o := true) fkO rfl rfl) rfl (fkO.fst _ _) e9)) ?_
    refine rl.run 1 rfl (rl.done (RW.reg (rl.run 3 rfl (rl.done ?_))))
    cases h14
    exact hB9 _ rfl _ _ (Gh.ren0 [2] (.same rfl (ekO.fref _ _) .nil) rfl (.cons rfl (.dat (ek_TItem.rlst)) (.cons rfl (.dat .bool) (.cons rfl (.slq rfl rfl) (.cons rfl (.dat .int) .nil)))))
  ·intro y7 hC
   subst hC
   refine RW.sreg (rl.run 2 rfl (rl.done (RW.ret ?_)))
   cases h10
   exact RRet.mk rfl (OutR.ownq ekO rfl rfl) (by first | decide | simp)
theorem law_spec_l12Freed {x0 : TStore} {x1 : Int} {r : Bool} (hF : F_spec_l12Freed x0 x1 = some r) : PCalls Tryz.prog 174 [.agg (enc_TStore false x0), .j x1] (.bool r) := by
 refine PCalls.of_r k_spec_l12Freed rfl ?_
 unfold F_spec_l12Freed at hF
 refine RW.sreg (rl.run 2 rfl (rl.done (RW.seq (RW.sreg (rl.run 1 rfl (rl.done ?_))))))
 obtain ⟨y4, ey4, h2⟩ := bindS hF
 refine RW.cutq (σ := Unit) (fun y2 => []) (fun y2 => []) (fun y => y4 = .inr y) (fun _ _ _ _ g h => RW.gh g h) ?_ ?_
 ·refine RW.blk ?_
  refine RW.iter (σ := Int) ey4 (fun s1 => [(1, .j x1), (2, .ptr 0 0), (5, .j s1)]) (fun s1 => [some ⟨[L_S x0.Log.Disk.Sectors, L_TWrite x0.Log.Disk.Cache, .j x0.Log.Segs, L_TSeg x0.Log.Used, .j x0.Log.NextGen, .j x0.Log.NextSeq, .j x0.Log.Stamp, .j x0.Log.NextValid, L_I x0.Freed], 0⟩]) (Gh.ren0 [0] (.cells rfl rfl (.keep (ekS.rlst) (.keep (ek_TWrite.rlst) (.keep .int (.keep (ek_TSeg.rlst) (.keep .int (.keep .int (.keep .int (.keep .int (.keep (ekI.rlst) .nil))))))))) .nil) rfl (.cons rfl (.dat .int) (.cons rfl (.ptr rfl) (.cons rfl (.dat .int) .nil)))) (fun s1 B o hS1 hB1 hE1 => ?_)
  unfold S_spec_l12Freed_1 at hS1
  refine RW.seq (RW.sreg (rl.run 4 rfl ?_))
  refine rl.gen rfl rfl fun b hb => ?_
  cases b
  ·have h3 := iteBF hS1 hb
   refine rl.done (RW.cond_f rfl (RW.exit (blkA_eq ?_)))
   cases h3
   exact ⟨_, (hE1 _ rfl).symm, (Gh.ren0 [] .nil rfl .nil)⟩
  ·have h4 := iteBT hS1 hb
   refine rl.done (RW.cond_t rfl (RW.skip (RW.seq (RW.blk (RW.sreg (rl.run 3 rfl ?_))))))
   obtain ⟨v3, e3, h5⟩ := bindS h4
   refine rl.op (x_ia_lst (enc := encI) (o := false) rfl rfl rfl e3) ?_
   refine rl.op (x_ld_el (off' := 0) ekI rfl e3 rfl rfl rfl) ?_
   refine rl.run 1 rfl ?_
   refine rl.gen rfl rfl fun b hb => ?_
   cases b
   ·have h6 := iteBF h5 hb
    refine rl.done ?_
    refine RW.kp [1, 2, 5, 19] [(1, .j x1), (2, .ptr 0 0), (5, .j s1), (19, .bool false)] [some ⟨[L_S x0.Log.Disk.Sectors, L_TWrite x0.Log.Disk.Cache, .j x0.Log.Segs, L_TSeg x0.Log.Used, .j x0.Log.NextGen, .j x0.Log.NextSeq, .j x0.Log.Stamp, .j x0.Log.NextValid, L_I x0.Freed], 0⟩] rfl rfl ?_
    refine RW.cond_f rfl (RW.skip (RW.reg (rl.run 3 rfl (rl.done ?_))))
    cases h6
    exact hB1 _ rfl _ _ (Gh.ren0 [0] (.cells rfl rfl (.keep (ekS.rlst) (.keep (ek_TWrite.rlst) (.keep .int (.keep (ek_TSeg.rlst) (.keep .int (.keep .int (.keep .int (.keep .int (.keep (ekI.rlst) .nil))))))))) .nil) rfl (.cons rfl (.dat .int) (.cons rfl (.ptr rfl) (.cons rfl (.dat .int) .nil))))
   ·have h7 := iteBT h5 hb
    refine rl.done ?_
    refine RW.kp [1, 2, 5, 19] [(1, .j x1), (2, .ptr 0 0), (5, .j s1), (19, .bool true)] [some ⟨[L_S x0.Log.Disk.Sectors, L_TWrite x0.Log.Disk.Cache, .j x0.Log.Segs, L_TSeg x0.Log.Used, .j x0.Log.NextGen, .j x0.Log.NextSeq, .j x0.Log.Stamp, .j x0.Log.NextValid, L_I x0.Freed], 0⟩] rfl rfl ?_
    refine RW.cond_t rfl (RW.sreg (rl.run 1 rfl (rl.done (RW.ret ?_))))
    cases h7
    have h8 := elimL h2 (hE1 _ rfl)
    cases h8
    exact RRet.mk rfl .bool (by first | decide | simp)
 ·intro y2 hC
  have h2 := elimR h2 hC
  refine RW.sreg (rl.run 1 rfl (rl.done (RW.ret ?_)))
  cases h2
  exact RRet.mk rfl .bool (by first | decide | simp)
theorem law_spec_l12Kept {x0 : TStore} {r : List TItem} (hF : F_spec_l12Kept x0 = some r) : PCalls Tryz.prog 173 [.agg (enc_TStore false x0)] (.lst true 9 (fl (enc_TItem true) r) r.length) := by
 refine PCalls.of_r k_spec_l12Kept rfl ?_
 unfold F_spec_l12Kept at hF
 refine RW.sreg (rl.run 2 rfl (rl.done (RW.sreg (rl.run 2 rfl (rl.done (RW.seq (RW.sreg (rl.run 1 rfl (rl.done ?_)))))))))
 refine RW.gh (Gh.nil_t 3 9 rfl) ?_
 obtain ⟨y7, ey7, h2⟩ := bindS hF
 refine RW.cutq (σ := (List TItem)) (fun y2 => [(3, .sl 0 0 y2.length)]) (fun y2 => [some ⟨fl (enc_TItem true) y2, 9⟩]) (fun y => y7 = y) (fun _ _ _ _ g h => RW.gh g h) ?_ ?_
 ·refine RW.blk ?_
  refine RW.iter (σ := Int × (List TItem)) ey7 (fun s1 => [(1, .ptr 0 0), (3, .sl 1 0 s1.2.length), (4, .j s1.1)]) (fun s1 => [some ⟨[L_S x0.Log.Disk.Sectors, L_TWrite x0.Log.Disk.Cache, .j x0.Log.Segs, L_TSeg x0.Log.Used, .j x0.Log.NextGen, .j x0.Log.NextSeq, .j x0.Log.Stamp, .j x0.Log.NextValid, L_I x0.Freed], 0⟩, some ⟨fl (enc_TItem true) s1.2, 9⟩]) (Gh.ren0 [0, 1] (.cells rfl rfl (.keep (ekS.rlst) (.keep (ek_TWrite.rlst) (.keep .int (.keep (ek_TSeg.rlst) (.keep .int (.keep .int (.keep .int (.keep .int (.keep (ekI.rlst) .nil))))))))) (.same rfl (ek_TItem.fref _ _) .nil)) rfl (.cons rfl (.ptr rfl) (.cons rfl (.slq rfl rfl) (.cons rfl (.dat .int) .nil)))) (fun s1 B o hS1 hB1 hE1 => ?_)
  unfold S_spec_l12Kept_1 at hS1
  refine RW.seq (RW.sreg (rl.run 5 rfl ?_))
  refine rl.gen rfl rfl fun b hb => ?_
  cases b
  ·have h3 := iteBF hS1 hb
   refine rl.done (RW.cond_f rfl (RW.exit (blkA_eq ?_)))
   cases h3
   exact ⟨_, (hE1 _ rfl).symm, (Gh.ren0 [1] (.same rfl (ek_TItem.fref _ _) .nil) rfl (.cons rfl (.slq rfl rfl) .nil))⟩
  ·have h4 := iteBT hS1 hb
   refine rl.done (RW.cond_t rfl (RW.skip (RW.seq (RW.blk (RW.sdrw (rdraw.op rfl rfl (rdraw.op rfl rfl (rdraw.op rfl rfl (rdraw.op rfl rfl (rdraw.op rfl rfl ?_))))))))))
   obtain ⟨v3, e3, h5⟩ := bindS h4
   refine rdraw.op rfl (x_ia_lst (enc := enc_TSeg) (o := false) rfl rfl rfl e3) ?_
   refine rdraw.op rfl rfl ?_
   refine rdraw.op rfl (x_ld_el (off' := 0) ek_TSeg rfl e3 rfl rfl rfl) ?_
   obtain ⟨v4, e4, h6⟩ := bindS h5
   refine rdraw.call rfl rfl rfl (CallW.val (r' := .bool v4) ok_spec_l12Freed (law_spec_l12Freed e4) (.cons (DFL.agg (.cons (.lst ekS) (.cons (.lst ek_TWrite) (.cons .int (.cons (.lst ek_TSeg) (.cons .int (.cons .int (.cons .int (.cons .int (.cons (.lst ekI) .nil)))))))))) (.cons .int .nil)) .refl ⟨rfl, ?_⟩)
   cases hb : v4
   ·have h7 := iteBF h6 hb
    refine rdraw.op rfl rfl (rdraw.done ?_)
    refine RW.kp [1, 3, 4, 23] [(1, .ptr 0 0), (3, .sl 1 0 s1.2.length), (4, .j s1.1), (23, .bool true)] [some ⟨[L_S x0.Log.Disk.Sectors, L_TWrite x0.Log.Disk.Cache, .j x0.Log.Segs, L_TSeg x0.Log.Used, .j x0.Log.NextGen, .j x0.Log.NextSeq, .j x0.Log.Stamp, .j x0.Log.NextValid, L_I x0.Freed], 0⟩, some ⟨fl (enc_TItem true) s1.2, 9⟩] rfl rfl ?_
    refine RW.cond_t rfl (RW.reg (rl.run 5 rfl ?_))
    obtain ⟨v5, e5, h8⟩ := bindS h7
    refine rl.op (x_ia_lst (enc := enc_TSeg) (o := false) rfl rfl rfl e5) ?_
    refine rl.run 1 rfl ?_
    refine rl.op (x_ld_el (off' := 3) ek_TSeg rfl e5 rfl rfl rfl) ?_
    obtain ⟨v6, e6, h9⟩ := bindS h8
    refine rl.op (x_app rfl rfl (rapp_sl (l := s1.2) (m := v5.Items) (o := true) ek_TItem rfl rfl acont_lst rfl (fk_TItem.fst _ _) e6)) ?_
    refine rl.run 1 rfl (rl.done (RW.reg (rl.run 3 rfl (rl.done ?_))))
    cases h9
    exact hB1 _ rfl _ _ (Gh.ren0 [0, 2] (.cells rfl rfl (.keep (ekS.rlst) (.keep (ek_TWrite.rlst) (.keep .int (.keep (ek_TSeg.rlst) (.keep .int (.keep .int (.keep .int (.keep .int (.keep (ekI.rlst) .nil))))))))) (.same rfl (ek_TItem.fref _ _) .nil)) rfl (.cons rfl (.ptr rfl) (.cons rfl (.slq rfl rfl) (.cons rfl (.dat .int) .nil))))
   ·have h10 := iteBT h6 hb
    refine rdraw.op rfl rfl (rdraw.done ?_)
    refine RW.kp [1, 3, 4, 23] [(1, .ptr 0 0), (3, .sl 1 0 s1.2.length), (4, .j s1.1), (23, .bool false)] [some ⟨[L_S x0.Log.Disk.Sectors, L_TWrite x0.Log.Disk.Cache, .j x0.Log.Segs, L_TSeg x0.Log.Used, .j x0.Log.NextGen, .j x0.Log.NextSeq, .j x0.Log.Stamp, .j x0.Log.NextValid, L_I x0.Freed], 0⟩, some ⟨fl (enc_TItem true) s1.2, 9⟩] rfl rfl ?_
    refine RW.cond_f rfl (RW.skip (RW.reg (rl.run 3 rfl (rl.done ?_))))
    cases h10
    exact hB1 _ rfl _ _ (Gh.ren0 [0, 1] (.cells rfl rfl (.keep (ekS.rlst) (.keep (ek_TWrite.rlst) (.keep .int (.keep (ek_TSeg.rlst) (.keep .int (.keep .int (.keep .int (.keep .int (.keep (ekI.rlst) .nil))))))))) (.same rfl (ek_TItem.fref _ _) .nil)) rfl (.cons rfl (.ptr rfl) (.cons rfl (.slq rfl rfl) (.cons rfl (.dat .int) .nil))))
 ·intro y2 hC
  subst hC
  refine RW.sreg (rl.run 2 rfl (rl.done (RW.ret ?_)))
  cases h2
  exact RRet.mk rfl (OutR.ownq ek_TItem rfl rfl) (by first | decide | simp)
set_option maxHeartbeats 2000000 in
theorem law_spec_l13Sizes {x0 : TStore} {r : List Int} (hF : F_spec_l13Sizes x0 = some r) : PCalls Tryz.prog 110 [.agg (enc_TStore false x0)] (.lst true 1 (fl (encI true) r) r.length) := by
 refine PCalls.of_r k_spec_l13Sizes rfl ?_
 unfold F_spec_l13Sizes at hF
 refine RW.sreg (rl.run 2 rfl (rl.done (RW.sreg (rl.run 1 rfl ?_))))
 obtain ⟨v1, e1, h1⟩ := bindS hF
 refine rl.call rfl rfl rfl (CallW.val (r' := L_TItem v1) ok_spec_l12Kept (law_spec_l12Kept e1) (.cons (DFL.agg (.cons (.lst ekS) (.cons (.lst ek_TWrite) (.cons .int (.cons (.lst ek_TSeg) (.cons .int (.cons .int (.cons .int (.cons .int (.cons (.lst ekI) .nil)))))))))) .nil) (ek_TItem.fflag _).lst ?_)
 obtain ⟨v2, e2, h2⟩ := bindS h1
 refine rl.call rfl rfl rfl (CallW.val (r' := L_O v2) ok_spec_NeededAll (law_spec_NeededAll e2) (.cons (.lst ek_TItem) .nil) (ekO.fflag _).lst ?_)
 refine rl.run 1 rfl (rl.done (RW.sreg (rl.run 2 rfl (rl.done (RW.sreg (rl.run 1 rfl (rl.done (RW.seq (RW.sreg (rl.run 1 rfl (rl.done ?_)))))))))))
 refine RW.gh (Gh.nil_t 4 1 rfl) ?_
 obtain ⟨y20, ey20, h4⟩ := bindS h2
 refine RW.cutq (σ := (List Int)) (fun y4 => [(4, .sl 0 0 y4.length)]) (fun y4 => [some ⟨fl (encI true) y4, 1⟩]) (fun y => y20 = y) (fun _ _ _ _ g h => RW.gh g h) ?_ ?_
 ·refine RW.blk ?_
  refine RW.iter (σ := Int × Int × (List Int)) ey20 (fun s3 => [(1, .ptr 0 0), (3, L_O v2), (4, .sl 1 0 s3.2.2.length), (5, .j s3.1), (6, .j s3.2.1)]) (fun s3 => [some ⟨[L_S x0.Log.Disk.Sectors, L_TWrite x0.Log.Disk.Cache, .j x0.Log.Segs, L_TSeg x0.Log.Used, .j x0.Log.NextGen, .j x0.Log.NextSeq, .j x0.Log.Stamp, .j x0.Log.NextValid, L_I x0.Freed], 0⟩, some ⟨fl (encI true) s3.2.2, 1⟩]) (Gh.ren0 [0, 1] (.cells rfl rfl (.keep (ekS.rlst) (.keep (ek_TWrite.rlst) (.keep .int (.keep (ek_TSeg.rlst) (.keep .int (.keep .int (.keep .int (.keep .int (.keep (ekI.rlst) .nil))))))))) (.same rfl (ekI.fref _ _) .nil)) rfl (.cons rfl (.ptr rfl) (.cons rfl (.dat (ekO.rlst)) (.cons rfl (.slq rfl rfl) (.cons rfl (.dat .int) (.cons rfl (.dat .int) .nil)))))) (fun s3 B o hS3 hB3 hE3 => ?_)
  unfold S_spec_l13Sizes_1 at hS3
  refine RW.seq (RW.sreg (rl.run 5 rfl ?_))
  refine rl.gen rfl rfl fun b hb => ?_
  cases b
  ·have h5 := iteBF hS3 hb
   refine rl.done (RW.cond_f rfl (RW.exit (blkA_eq ?_)))
   cases h5
   exact ⟨_, (hE3 _ rfl).symm, (Gh.ren0 [1] (.same rfl (ekI.fref _ _) .nil) rfl (.cons rfl (.slq rfl rfl) .nil))⟩
  ·have h6 := iteBT hS3 hb
   refine rl.done (RW.cond_t rfl (RW.skip (RW.seq (RW.blk (RW.sreg (rl.run 1 rfl (rl.done (RW.seq (RW.sdrw (rdraw.op rfl rfl (rdraw.op rfl rfl ?_)))))))))))
   refine rdraw.op rfl rfl (rdraw.op rfl rfl (rdraw.op rfl rfl ?_))
   obtain ⟨v5, e5, h7⟩ := bindS h6
   refine rdraw.op rfl (x_ia_lst (enc := enc_TSeg) (o := false) rfl rfl rfl e5) ?_
   refine rdraw.op rfl rfl ?_
   refine rdraw.op rfl (x_ld_el (off' := 0) ek_TSeg rfl e5 rfl rfl rfl) ?_
   obtain ⟨v6, e6, h8⟩ := bindS h7
   refine rdraw.call rfl rfl rfl (CallW.val (r' := .bool v6) ok_spec_l12Freed (law_spec_l12Freed e6) (.cons (DFL.agg (.cons (.lst ekS) (.cons (.lst ek_TWrite) (.cons .int (.cons (.lst ek_TSeg) (.cons .int (.cons .int (.cons .int (.cons .int (.cons (.lst ekI) .nil)))))))))) (.cons .int .nil)) .refl ⟨rfl, ?_⟩)
   cases hb : v6
   ·have h9 := iteBF h8 hb
    refine rdraw.done ?_
    refine RW.kp [1, 3, 4, 5, 6, 7, 31] [(1, .ptr 0 0), (3, L_O v2), (4, .sl 1 0 s3.2.2.length), (5, .j s3.1), (6, .j s3.2.1), (7, .j 0), (31, .bool false)] [some ⟨[L_S x0.Log.Disk.Sectors, L_TWrite x0.Log.Disk.Cache, .j x0.Log.Segs, L_TSeg x0.Log.Used, .j x0.Log.NextGen, .j x0.Log.NextSeq, .j x0.Log.Stamp, .j x0.Log.NextValid, L_I x0.Freed], 0⟩, some ⟨fl (encI true) s3.2.2, 1⟩] rfl rfl ?_
    refine RW.cond_f rfl (RW.skip (RW.seq (RW.sreg (rl.run 1 rfl (rl.done ?_)))))
    obtain ⟨y17, ey17, h11⟩ := bindS h9
    refine RW.cutq (σ := Int × Int) (fun y8 => [(1, .ptr 0 0), (3, L_O v2), (4, .sl 1 0 s3.2.2.length), (5, .j y8.1), (6, .j s3.2.1), (7, .j y8.2)]) (fun y8 => [some ⟨[L_S x0.Log.Disk.Sectors, L_TWrite x0.Log.Disk.Cache, .j x0.Log.Segs, L_TSeg x0.Log.Used, .j x0.Log.NextGen, .j x0.Log.NextSeq, .j x0.Log.Stamp, .j x0.Log.NextValid, L_I x0.Freed], 0⟩, some ⟨fl (encI true) s3.2.2, 1⟩]) (fun y => y17 = y) (fun _ _ _ _ g h => RW.gh g h) ?_ ?_
    ·refine RW.blk ?_
     refine RW.iter (σ := Int × Int × Int) ey17 (fun s7 => [(1, .ptr 0 0), (3, L_O v2), (4, .sl 1 0 s3.2.2.length), (5, .j s7.1), (6, .j s3.2.1), (7, .j s7.2.1), (8, .j s7.2.2)]) (fun s7 => [some ⟨[L_S x0.Log.Disk.Sectors, L_TWrite x0.Log.Disk.Cache, .j x0.Log.Segs, L_TSeg x0.Log.Used, .j x0.Log.NextGen, .j x0.Log.NextSeq, .j x0.Log.Stamp, .j x0.Log.NextValid, L_I x0.Freed], 0⟩, some ⟨fl (encI true) s3.2.2, 1⟩]) (Gh.ren0 [0, 1] (.cells rfl rfl (.keep (ekS.rlst) (.keep (ek_TWrite.rlst) (.keep .int (.keep (ek_TSeg.rlst) (.keep .int (.keep .int (.keep .int (.keep .int (.keep (ekI.rlst) .nil))))))))) (.same rfl (ekI.fref _ _) .nil)) rfl (.cons rfl (.ptr rfl) (.cons rfl (.dat (ekO.rlst)) (.cons rfl (.slq rfl rfl) (.cons rfl (.dat .int) (.cons rfl (.dat .int) (.cons rfl (.dat .int) (.cons rfl (.dat .int) .nil)))))))) (fun s7 B o hS10 hB10 hE10 => ?_)
     unfold S_spec_l13Sizes_2 at hS10
     refine RW.seq (RW.sreg (rl.run 5 rfl ?_))
     obtain ⟨v9, e9, h12⟩ := bindS hS10
     refine rl.op (x_ia_lst (enc := enc_TSeg) (o := false) rfl rfl rfl e9) ?_
     refine rl.run 1 rfl ?_
     refine rl.op (x_ld_el (off' := 3) ek_TSeg rfl e9 rfl rfl rfl) ?_
     refine rl.run 1 rfl ?_
     refine rl.gen rfl rfl fun b hb => ?_
     cases b
     ·have h13 := iteBF h12 hb
      refine rl.done (RW.cond_f rfl (RW.exit (blkA_eq ?_)))
      cases h13
      exact ⟨_, (hE10 _ rfl).symm, (Gh.ren0 [0, 1] (.cells rfl rfl (.keep (ekS.rlst) (.keep (ek_TWrite.rlst) (.keep .int (.keep (ek_TSeg.rlst) (.keep .int (.keep .int (.keep .int (.keep .int (.keep (ekI.rlst) .nil))))))))) (.same rfl (ekI.fref _ _) .nil)) rfl (.cons rfl (.ptr rfl) (.cons rfl (.dat (ekO.rlst)) (.cons rfl (.slq rfl rfl) (.cons rfl (.dat .int) (.cons rfl (.dat .int) (.cons rfl (.dat .int) .nil)))))))⟩
     ·have h14 := iteBT h12 hb
      refine rl.done (RW.cond_t rfl (RW.skip (RW.seq (RW.blk (RW.seq (RW.sreg (rl.run 2 rfl ?_)))))))
      obtain ⟨v10, e10, h15⟩ := bindS h14
      refine rl.op (x_ia_lst (enc := encO) (o := false) rfl rfl rfl e10) ?_
      refine rl.op (x_ld_el (off' := 0) ekO rfl e10 rfl rfl rfl) ?_
      refine rl.done ?_
      refine RW.kp [1, 3, 4, 5, 6, 7, 8, 50] [(1, .ptr 0 0), (3, L_O v2), (4, .sl 1 0 s3.2.2.length), (5, .j s7.1), (6, .j s3.2.1), (7, .j s7.2.1), (8, .j s7.2.2), (50, .bool v10)] [some ⟨[L_S x0.Log.Disk.Sectors, L_TWrite x0.Log.Disk.Cache, .j x0.Log.Segs, L_TSeg x0.Log.Used, .j x0.Log.NextGen, .j x0.Log.NextSeq, .j x0.Log.Stamp, .j x0.Log.NextValid, L_I x0.Freed], 0⟩, some ⟨fl (encI true) s3.2.2, 1⟩] rfl rfl ?_
      obtain ⟨y11, ey11, h16⟩ := bindS h15
      refine RW.cutq (σ := Int) (fun y11 => [(1, .ptr 0 0), (3, L_O v2), (4, .sl 1 0 s3.2.2.length), (5, .j s7.1), (6, .j s3.2.1), (7, .j y11), (8, .j s7.2.2)]) (fun y11 => [some ⟨[L_S x0.Log.Disk.Sectors, L_TWrite x0.Log.Disk.Cache, .j x0.Log.Segs, L_TSeg x0.Log.Used, .j x0.Log.NextGen, .j x0.Log.NextSeq, .j x0.Log.Stamp, .j x0.Log.NextValid, L_I x0.Freed], 0⟩, some ⟨fl (encI true) s3.2.2, 1⟩]) (fun y => y11 = y) (fun _ _ _ _ g h => RW.gh g h) ?_ ?_
      ·cases hb : v10
       ·have h17 := iteBF ey11 hb
        refine RW.cond_f rfl (RW.skip ?_)
        cases h17
        exact ⟨_, rfl, (Gh.ren0 [0, 1] (.cells rfl rfl (.keep (ekS.rlst) (.keep (ek_TWrite.rlst) (.keep .int (.keep (ek_TSeg.rlst) (.keep .int (.keep .int (.keep .int (.keep .int (.keep (ekI.rlst) .nil))))))))) (.same rfl (ekI.fref _ _) .nil)) rfl (.cons rfl (.ptr rfl) (.cons rfl (.dat (ekO.rlst)) (.cons rfl (.slq rfl rfl) (.cons rfl (.dat .int) (.cons rfl (.dat .int) (.cons rfl (.dat .int) (.cons rfl (.dat .int) .nil))))))))⟩
       ·have h18 := iteBT ey11 hb
        refine RW.cond_t rfl (RW.sdrw (rdraw.op rfl rfl (rdraw.op rfl rfl (rdraw.op rfl rfl (rdraw.op rfl rfl ?_)))))
        obtain ⟨v12, e12, h19⟩ := bindS h18
        refine rdraw.op rfl (x_ia_lst (enc := enc_TSeg) (o := false) rfl rfl rfl e12) ?_
        refine rdraw.op rfl rfl ?_
        refine rdraw.op rfl (x_ld_el (off' := 3) ek_TSeg rfl e12 rfl rfl rfl) ?_
        refine rdraw.op rfl rfl ?_
        obtain ⟨v13, e13, h20⟩ := bindS h19
        refine rdraw.op rfl (x_ia_lst (enc := enc_TItem) (o := false) rfl rfl rfl e13) ?_
        refine rdraw.op rfl (x_ld_ela (off' := 0) (vs := (enc_TItem false v13)) ek_TItem rfl e13 rfl rfl rfl) ?_
        refine rdraw.op rfl rfl (rdraw.op rfl rfl (rdraw.op rfl rfl (rdraw.op rfl rfl ?_)))
        obtain ⟨v14, e14, h21⟩ := bindS h20
        refine rdraw.op rfl (x_ia_lst (enc := enc_TSeg) (o := false) rfl rfl rfl e14) ?_
        refine rdraw.op rfl rfl ?_
        refine rdraw.op rfl (x_ld_el (off' := 1) ek_TSeg rfl e14 rfl rfl rfl) ?_
        obtain ⟨v15, e15, h22⟩ := bindS h21
        refine rdraw.call rfl rfl rfl (CallW.val (r' := .tup [.agg (enc_TFrame false v15.1), .bool v15.2]) ok_spec_ItemFrame (law_spec_ItemFrame e15) (.cons (.dat (.agg (ek_TItem.dat false _))) (.cons .int .nil)) (FlL.tup (.cons .refl (.cons .refl .nil))) ⟨rfl, ?_⟩)
        refine rdraw.op rfl rfl (rdraw.op rfl rfl (rdraw.op rfl rfl ?_))
        refine rdraw.chnB rfl rfl (.here (.rx rfl) (.here (.rx rfl) (.here (.rx rfl) (.here (.cl rfl rfl (CallW.val (r' := .tup [.agg (enc_TFrame false v15.1), .bool v15.2]) ok_spec_ItemFrame (law_spec_ItemFrame e15) (.cons (.dat (.agg (ek_TItem.dat false _))) (.cons .int .nil)) (FlL.tup (.cons .refl (.cons .refl .nil))) ⟨rfl, rfl⟩)) (.here (.rx (x_ld_el (off' := 1) ek_TSeg rfl e14 rfl rfl rfl)) (.here (.rx rfl) (.here (.rx (x_ia_lst (enc := enc_TSeg) (o := false) rfl rfl rfl e14)) (.here (.rx rfl) (.here (.rx rfl) (.here (.rx rfl) (.here (.rx rfl) (.here (.rx (x_ld_ela (off' := 0) (vs := (enc_TItem false v13)) ek_TItem rfl e13 rfl rfl rfl)) (.here (.rx (x_ia_lst (enc := enc_TItem) (o := false) rfl rfl rfl e13)) (.here (.rx rfl) (.here (.rx (x_ld_el (off' := 3) ek_TSeg rfl e12 rfl rfl rfl)) (.here (.rx rfl) (.here (.rx (x_ia_lst (enc := enc_TSeg) (o := false) rfl rfl rfl e12)) (.here (.rx rfl) (.here (.rx rfl) (.here (.rx rfl) (.here (.rx rfl) .nil))))))))))))))))))))) ?_
        refine rdraw.chnB rfl rfl (.here (.rx rfl) (.skip rfl (.skip rfl (.skip rfl (.skip rfl (.skip rfl (.skip rfl (.skip rfl (.skip rfl (.skip rfl (.skip rfl (.skip rfl (.skip rfl (.skip rfl (.skip rfl (.skip rfl (.skip rfl (.skip rfl (.skip rfl (.skip rfl (.skip rfl .nil))))))))))))))))))))) ?_
        refine rdraw.op rfl rfl (rdraw.done ?_)
        refine RW.kp [1, 3, 4, 5, 6, 7, 8, 9] [(1, .ptr 0 0), (3, L_O v2), (4, .sl 1 0 s3.2.2.length), (5, .j s7.1), (6, .j s3.2.1), (7, .j s7.2.1), (8, .j s7.2.2), (9, .ptr 2 0)] [some ⟨[L_S x0.Log.Disk.Sectors, L_TWrite x0.Log.Disk.Cache, .j x0.Log.Segs, L_TSeg x0.Log.Used, .j x0.Log.NextGen, .j x0.Log.NextSeq, .j x0.Log.Stamp, .j x0.Log.NextValid, L_I x0.Freed], 0⟩, some ⟨fl (encI true) s3.2.2, 1⟩, some ⟨[.j v15.1.Gen, .j v15.1.Seq, .str v15.1.Body], 0⟩] rfl rfl ?_
        refine RW.reg (rl.run 2 rfl ?_)
        obtain ⟨v16, e16, h23⟩ := bindS h22
        refine rl.call rfl rfl rfl (CallW.val (r' := .j v16) ok_spec_FrameSize (law_spec_FrameSize e16) (.cons (DFL.agg (.cons .int (.cons .int (.cons .str .nil)))) .nil) .refl ?_)
        refine rl.run 2 rfl (rl.done ?_)
        cases h23
        exact ⟨_, rfl, (Gh.ren0 [0, 1] (.cells rfl rfl (.keep (ekS.rlst) (.keep (ek_TWrite.rlst) (.keep .int (.keep (ek_TSeg.rlst) (.keep .int (.keep .int (.keep .int (.keep .int (.keep (ekI.rlst) .nil))))))))) (.same rfl (ekI.fref _ _) .nil)) rfl (.cons rfl (.ptr rfl) (.cons rfl (.dat (ekO.rlst)) (.cons rfl (.slq rfl rfl) (.cons rfl (.dat .int) (.cons rfl (.dat .int) (.cons rfl (.dat .int) (.cons rfl (.dat .int) .nil))))))))⟩
      ·intro y hC
       subst hC
       refine RW.reg (rl.run 3 rfl (rl.done (RW.reg (rl.run 3 rfl (rl.done ?_)))))
       cases h16
       exact hB10 _ rfl _ _ (Gh.ren0 [0, 1] (.cells rfl rfl (.keep (ekS.rlst) (.keep (ek_TWrite.rlst) (.keep .int (.keep (ek_TSeg.rlst) (.keep .int (.keep .int (.keep .int (.keep .int (.keep (ekI.rlst) .nil))))))))) (.same rfl (ekI.fref _ _) .nil)) rfl (.cons rfl (.ptr rfl) (.cons rfl (.dat (ekO.rlst)) (.cons rfl (.slq rfl rfl) (.cons rfl (.dat .int) (.cons rfl (.dat .int) (.cons rfl (.dat .int) (.cons rfl (.dat .int) .nil))))))))
    ·intro y8 hC
     subst hC
     refine RW.reg (rl.run 3 rfl ?_)
     obtain ⟨v18, e18, h24⟩ := bindS h11
     refine rl.op (x_app rfl rfl (rapp_sl (l := s3.2.2) (m := [y17.2]) (o := true) ekI rfl rfl (acont_slq (m := [y17.2]) (o := true) fkI rfl rfl) rfl (fkI.fst _ _) e18)) ?_
     refine rl.run 1 rfl (rl.done (RW.reg (rl.run 3 rfl (rl.done ?_))))
     cases h24
     exact hB3 _ rfl _ _ (Gh.ren0 [0, 3] (.cells rfl rfl (.keep (ekS.rlst) (.keep (ek_TWrite.rlst) (.keep .int (.keep (ek_TSeg.rlst) (.keep .int (.keep .int (.keep .int (.keep .int (.keep (ekI.rlst) .nil))))))))) (.same rfl (ekI.fref _ _) .nil)) rfl (.cons rfl (.ptr rfl) (.cons rfl (.dat (ekO.rlst)) (.cons rfl (.slq rfl rfl) (.cons rfl (.dat .int) (.cons rfl (.dat .int) .nil))))))
   ·have h25 := iteBT h8 hb
    refine rdraw.done ?_
    refine RW.kp [1, 3, 4, 5, 6, 7, 31] [(1, .ptr 0 0), (3, L_O v2), (4, .sl 1 0 s3.2.2.length), (5, .j s3.1), (6, .j s3.2.1), (7, .j 0), (31, .bool true)] [some ⟨[L_S x0.Log.Disk.Sectors, L_TWrite x0.Log.Disk.Cache, .j x0.Log.Segs, L_TSeg x0.Log.Used, .j x0.Log.NextGen, .j x0.Log.NextSeq, .j x0.Log.Stamp, .j x0.Log.NextValid, L_I x0.Freed], 0⟩, some ⟨fl (encI true) s3.2.2, 1⟩] rfl rfl ?_
    refine RW.cond_t rfl (RW.sreg (rl.run 2 rfl ?_))
    obtain ⟨v19, e19, h26⟩ := bindS h25
    refine rl.op (x_app rfl rfl (rapp_sl (l := s3.2.2) (m := ([0] : List Int)) (o := true) ekI rfl rfl (acont_slq (m := ([0] : List Int)) (o := true) fkI rfl rfl) rfl (fkI.fst _ _) e19)) ?_
    refine rl.run 1 rfl (rl.done (RW.exit (blkA_eq (RW.reg (rl.run 3 rfl (rl.done ?_))))))
    cases h26
    exact hB3 _ rfl _ _ (Gh.ren0 [0, 3] (.cells rfl rfl (.keep (ekS.rlst) (.keep (ek_TWrite.rlst) (.keep .int (.keep (ek_TSeg.rlst) (.keep .int (.keep .int (.keep .int (.keep .int (.keep (ekI.rlst) .nil))))))))) (.same rfl (ekI.fref _ _) .nil)) rfl (.cons rfl (.ptr rfl) (.cons rfl (.dat (ekO.rlst)) (.cons rfl (.slq rfl rfl) (.cons rfl (.dat .int) (.cons rfl (.dat .int) .nil))))))
 ·intro y4 hC
  subst hC
  refine RW.sreg (rl.run 2 rfl (rl.done (RW.ret ?_)))
  cases h4
  exact RRet.mk rfl (OutR.ownq ekI rfl rfl) (by first | decide | simp)
theorem law_spec_LiveBytes {x0 : TStore} {r : Int} (hF : F_spec_LiveBytes x0 = some r) : PCalls Tryz.prog 58 [.agg (enc_TStore false x0)] (.j r) := by
 refine PCalls.of_r k_spec_LiveBytes rfl ?_
 unfold F_spec_LiveBytes at hF
 refine RW.sreg (rl.run 2 rfl (rl.done (RW.sreg (rl.run 1 rfl ?_))))
 obtain ⟨v1, e1, h1⟩ := bindS hF
 refine rl.call rfl rfl rfl (CallW.val (r' := L_I v1) ok_spec_l13Sizes (law_spec_l13Sizes e1) (.cons (DFL.agg (.cons (.lst ekS) (.cons (.lst ek_TWrite) (.cons .int (.cons (.lst ek_TSeg) (.cons .int (.cons .int (.cons .int (.cons .int (.cons (.lst ekI) .nil)))))))))) .nil) (ekI.fflag _).lst ?_)
 refine rl.run 1 rfl (rl.done (RW.sreg (rl.run 1 rfl (rl.done (RW.seq (RW.sreg (rl.run 1 rfl (rl.done ?_))))))))
 obtain ⟨y5, ey5, h3⟩ := bindS h1
 refine RW.cutq (σ := Int) (fun y3 => [(4, .j y3)]) (fun y3 => []) (fun y => y5 = y) (fun _ _ _ _ g h => RW.gh g h) ?_ ?_
 ·refine RW.blk ?_
  refine RW.iter (σ := Int × Int) ey5 (fun s2 => [(3, L_I v1), (4, .j s2.1), (5, .j s2.2)]) (fun s2 => []) (Gh.ren0 [] .nil rfl (.cons rfl (.dat (ekI.rlst)) (.cons rfl (.dat .int) (.cons rfl (.dat .int) .nil)))) (fun s2 B o hS2 hB2 hE2 => ?_)
  unfold S_spec_LiveBytes_1 at hS2
  refine RW.seq (RW.sreg (rl.run 3 rfl ?_))
  refine rl.gen rfl rfl fun b hb => ?_
  cases b
  ·have h4 := iteBF hS2 hb
   refine rl.done (RW.cond_f rfl (RW.exit (blkA_eq ?_)))
   cases h4
   exact ⟨_, (hE2 _ rfl).symm, (Gh.ren0 [] .nil rfl (.cons rfl (.dat .int) .nil))⟩
  ·have h5 := iteBT hS2 hb
   refine rl.done (RW.cond_t rfl (RW.skip (RW.seq (RW.blk (RW.reg (rl.run 3 rfl ?_))))))
   obtain ⟨v4, e4, h6⟩ := bindS h5
   refine rl.op (x_ia_lst (enc := encI) (o := false) rfl rfl rfl e4) ?_
   refine rl.op (x_ld_el (off' := 0) ekI rfl e4 rfl rfl rfl) ?_
   refine rl.run 2 rfl (rl.done (RW.reg (rl.run 3 rfl (rl.done ?_))))
   cases h6
   exact hB2 _ rfl _ _ (Gh.ren0 [] .nil rfl (.cons rfl (.dat (ekI.rlst)) (.cons rfl (.dat .int) (.cons rfl (.dat .int) .nil))))
 ·intro y3 hC
  subst hC
  refine RW.sreg (rl.run 2 rfl (rl.done (RW.ret ?_)))
  cases h3
  exact RRet.mk rfl .int (by first | decide | simp)
theorem law_spec_RecSize {x0 : TRec} {r : Int} (hF : F_spec_RecSize x0 = some r) : PCalls Tryz.prog 59 [.agg (enc_TRec false x0)] (.j r) := by
 refine PCalls.of_r k_spec_RecSize rfl ?_
 unfold F_spec_RecSize at hF
 refine RW.sreg (rl.run 2 rfl (rl.done (RW.sreg (rl.run 2 rfl ?_))))
 obtain ⟨v1, e1, h1⟩ := bindS hF
 refine rl.call rfl rfl rfl (CallW.val (r' := .tup [.agg (enc_TFrame false v1.1), .bool v1.2]) ok_spec_ItemFrame (law_spec_ItemFrame e1) (.cons (DFL.agg (.cons .int (.cons .int (.cons .int (.cons .int (.cons .int (.cons .int (.cons .str (.cons .str (.cons .str .nil)))))))))) (.cons .int .nil)) (FlL.tup (.cons .refl (.cons .refl .nil))) ?_)
 refine rl.run 6 rfl (rl.done (RW.seq (RW.sreg (rl.run 2 rfl (rl.done ?_)))))
 refine RW.kp [3, 12] [(3, .ptr 1 0), (12, .bool (!v1.2))] [some ⟨[.j x0.Kind, .j x0.Valid, .j x0.Uid, .j x0.Next, .j x0.Flags, .str x0.User, .str x0.Name, .str x0.Text], 0⟩, some ⟨[.j v1.1.Gen, .j v1.1.Seq, .str v1.1.Body], 0⟩] rfl rfl ?_
 cases hb : (!v1.2)
 ·have h2 := iteBF h1 hb
  refine RW.cond_f rfl (RW.skip (RW.sreg (rl.run 1 rfl ?_)))
  obtain ⟨v2, e2, h3⟩ := bindS h2
  refine rl.call rfl rfl rfl (CallW.val (r' := .j v2) ok_spec_FrameSize (law_spec_FrameSize e2) (.cons (DFL.agg (.cons .int (.cons .int (.cons .str .nil)))) .nil) .refl ?_)
  refine rl.run 1 rfl (rl.done (RW.ret ?_))
  cases h3
  exact RRet.mk rfl .int (by first | decide | simp)
 ·have h4 := iteBT h1 hb
  refine RW.cond_t rfl (RW.sreg (rl.run 1 rfl (rl.done (RW.ret ?_))))
  cases h4
  exact RRet.mk rfl .int (by first | decide | simp)
theorem law_spec_Roomy {x0 : TStore} {x1 : TRec} {r : Bool} (hF : F_spec_Roomy x0 x1 = some r) : PCalls Tryz.prog 25 [.agg (enc_TStore false x0), .agg (enc_TRec false x1)] (.bool r) := by
 refine PCalls.of_r k_spec_Roomy rfl ?_
 unfold F_spec_Roomy at hF
 refine RW.sreg (rl.run 3 rfl (rl.done (RW.sreg (rl.run 1 rfl ?_))))
 obtain ⟨v1, e1, h1⟩ := bindS hF
 refine rl.call rfl rfl rfl (CallW.val (r' := .agg (enc_TState false v1)) ok_spec_StateNow (law_spec_StateNow e1) (.cons (DFL.agg (.cons (.lst ekS) (.cons (.lst ek_TWrite) (.cons .int (.cons (.lst ek_TSeg) (.cons .int (.cons .int (.cons .int (.cons .int (.cons (.lst ekI) .nil)))))))))) .nil) (ek_TState.flag _).agg ?_)
 refine rl.run 2 rfl (rl.done (RW.sdrw (rdraw.op rfl rfl ?_)))
 obtain ⟨v2, e2, h2⟩ := bindS h1
 refine rdraw.call rfl rfl rfl (CallW.val (r' := .j v2) ok_spec_LiveBytes (law_spec_LiveBytes e2) (.cons (DFL.agg (.cons (.lst ekS) (.cons (.lst ek_TWrite) (.cons .int (.cons (.lst ek_TSeg) (.cons .int (.cons .int (.cons .int (.cons .int (.cons (.lst ekI) .nil)))))))))) .nil) .refl ⟨rfl, ?_⟩)
 refine rdraw.op rfl rfl ?_
 obtain ⟨v3, e3, h3⟩ := bindS h2
 refine rdraw.call rfl rfl rfl (CallW.val (r' := .j v3) ok_spec_RecSize (law_spec_RecSize e3) (.cons (DFL.agg (.cons .int (.cons .int (.cons .int (.cons .int (.cons .int (.cons .str (.cons .str (.cons .str .nil))))))))) .nil) .refl ⟨rfl, ?_⟩)
 refine rdraw.op rfl rfl (rdraw.op rfl rfl (rdraw.op rfl rfl (rdraw.op rfl rfl (rdraw.op rfl rfl (rdraw.op rfl rfl (rdraw.op rfl rfl (rdraw.op rfl rfl (rdraw.op rfl rfl (rdraw.op rfl rfl (rdraw.op rfl rfl (rdraw.op rfl rfl ?_)))))))))))
 refine rdraw.op rfl rfl (rdraw.done ?_)
 refine RW.kp [4] [(4, .bool (decide ((w64 ((w64 (v2 + v3)) + (w64 (40 * (v1.Boxes.length : Int))))) ≤ (w64 (80 * (w64 (x0.Log.Segs - 5)))))))] [some ⟨[L_S x0.Log.Disk.Sectors, L_TWrite x0.Log.Disk.Cache, .j x0.Log.Segs, L_TSeg x0.Log.Used, .j x0.Log.NextGen, .j x0.Log.NextSeq, .j x0.Log.Stamp, .j x0.Log.NextValid, L_I x0.Freed], 0⟩, some ⟨[.j x1.Kind, .j x1.Valid, .j x1.Uid, .j x1.Next, .j x1.Flags, .str x1.User, .str x1.Name, .str x1.Text], 0⟩, some ⟨[L_TBox v1.Boxes], 0⟩] rfl rfl ?_
 refine RW.ret ?_
 cases h3
 exact RRet.mk rfl .bool (by first | decide | simp)
theorem law_impl_in {x0 : Int} {x1 : Int} {x2 : Int} {r : Bool} (hF : F_impl_in x0 x1 x2 = some r) : PCalls Tryz.prog 33 [.j x0, .j x1, .j x2] (.bool r) := by
 refine PCalls.of_r k_impl_in rfl ?_
 unfold F_impl_in at hF
 refine RW.sreg (rl.run 1 rfl (rl.done (RW.sreg (rl.run 2 rfl ?_))))
 refine rl.gen rfl rfl fun b hb => ?_
 cases b
 ·have h1 := iteBF hF hb
  refine rl.run 6 rfl (rl.done ?_)
  refine RW.kp [6] [(6, .bool false)] [] rfl rfl ?_
  refine RW.ret ?_
  cases h1
  exact RRet.mk rfl .bool (by first | decide | simp)
 ·have h2 := iteBT hF hb
  refine rl.run 6 rfl (rl.done ?_)
  refine RW.kp [6] [(6, .bool (decide (x0 ≤ x2)))] [] rfl rfl ?_
  refine RW.ret ?_
  cases h2
  exact RRet.mk rfl .bool (by first | decide | simp)
theorem law_impl_WordOk {x0 : List UInt8} {r : Bool} (hF : F_impl_WordOk x0 = some r) : PCalls Tryz.prog 198 [.str x0] (.bool r) := by
 refine PCalls.of_r k_impl_WordOk rfl ?_
 unfold F_impl_WordOk at hF
 refine RW.sreg (rl.run 1 rfl (rl.done (RW.seq (RW.sreg (rl.run 2 rfl ?_)))))
 obtain ⟨v1, e1, h1⟩ := bindS hF
 refine rl.call rfl rfl rfl (CallW.val (r' := .bool v1) ok_impl_in (law_impl_in e1) (.cons .int (.cons .int (.cons .int .nil))) .refl ?_)
 cases hb : v1
 ·have h2 := iteBF h1 hb
  refine rl.run 1 rfl (rl.done (RW.cond_t rfl (RW.sreg (rl.run 1 rfl (rl.done (RW.ret ?_))))))
  cases h2
  exact RRet.mk rfl .bool (by first | decide | simp)
 ·have h3 := iteBT h1 hb
  refine rl.run 1 rfl (rl.done (RW.cond_f rfl (RW.skip (RW.seq (RW.sreg (rl.run 3 rfl (rl.done ?_)))))))
  obtain ⟨y7, ey7, h5⟩ := bindS h3
  refine RW.cutq (σ := Unit) (fun y3 => []) (fun y3 => []) (fun y => y7 = .inr y) (fun _ _ _ _ g h => RW.gh g h) ?_ ?_
  ·refine RW.blk ?_
   refine RW.iter (σ := Int) ey7 (fun s2 => [(0, .str x0), (9, .j (x0.length : Int)), (10, .j s2)]) (fun s2 => []) (Gh.ren0 [] .nil rfl (.cons rfl (.dat .str) (.cons rfl (.dat .int) (.cons rfl (.dat .int) .nil)))) (fun s2 B o hS4 hB4 hE4 => ?_)
   unfold S_impl_WordOk_1 at hS4
   refine RW.sreg ?_
   refine rl.gen rfl rfl fun b hb => ?_
   cases b
   ·have h6 := iteBF hS4 hb
    refine rl.done (RW.seq (RW.cond_f rfl (RW.exit (blkA_eq ?_))))
    cases h6
    exact ⟨_, (hE4 _ rfl).symm, (Gh.ren0 [] .nil rfl .nil)⟩
   ·have h7 := iteBT hS4 hb
    refine rl.done (RW.seq (RW.cond_t rfl (RW.skip (RW.seq (RW.blk (RW.sreg (rl.run 2 rfl (rl.done (RW.seq ?_)))))))))
    obtain ⟨y4, ey4, h8⟩ := bindS h7
    refine RW.cutq (σ := Bool) (fun y4 => [(0, .str x0), (9, .j (x0.length : Int)), (10, .j s2), (22, .bool y4)]) (fun y4 => []) (fun y => y4 = y) (fun _ _ _ _ g h => RW.gh g h) ?_ ?_
    ·refine RW.reg ?_
     refine rl.run 2 rfl ?_
     obtain ⟨v5, e5, h9⟩ := bindS ey4
     refine rl.op (x_idx rfl rfl e5) ?_
     refine rl.gen rfl rfl fun b hb => ?_
     cases b
     ·have h10 := iteBF h9 hb
      refine rl.run 3 rfl ?_
      obtain ⟨v6, e6, h11⟩ := bindS h10
      refine rl.gop rfl (x_idx rfl rfl e6) ?_
      refine rl.gen rfl rfl fun b hb => ?_
      cases b
      ·have h12 := iteBF h11 hb
       refine rl.run 1 rfl (rl.done ?_)
       cases h12
       exact ⟨_, rfl, (Gh.ren0 [] .nil rfl (.cons rfl (.dat .str) (.cons rfl (.dat .int) (.cons rfl (.dat .int) (.cons rfl (.dat .bool) .nil)))))⟩
      ·have h13 := iteBT h11 hb
       refine rl.run 1 rfl (rl.done ?_)
       cases h13
       exact ⟨_, rfl, (Gh.ren0 [] .nil rfl (.cons rfl (.dat .str) (.cons rfl (.dat .int) (.cons rfl (.dat .int) (.cons rfl (.dat .bool) .nil)))))⟩
     ·have h14 := iteBT h9 hb
      refine rl.run 6 rfl (rl.done ?_)
      cases h14
      exact ⟨_, rfl, (Gh.ren0 [] .nil rfl (.cons rfl (.dat .str) (.cons rfl (.dat .int) (.cons rfl (.dat .int) (.cons rfl (.dat .bool) .nil)))))⟩
    ·intro y hC
     subst hC
     cases hb : y4
     ·have h15 := iteBF h8 hb
      refine RW.cond_f rfl (RW.skip (RW.reg (rl.run 2 rfl (rl.done ?_))))
      cases h15
      exact hB4 _ rfl _ _ (Gh.ren0 [] .nil rfl (.cons rfl (.dat .str) (.cons rfl (.dat .int) (.cons rfl (.dat .int) .nil))))
     ·have h16 := iteBT h8 hb
      refine RW.cond_t rfl (RW.sreg (rl.run 1 rfl (rl.done (RW.ret ?_))))
      cases h16
      have h17 := elimL h5 (hE4 _ rfl)
      cases h17
      exact RRet.mk rfl .bool (by first | decide | simp)
  ·intro y3 hC
   have h5 := elimR h5 hC
   refine RW.sreg (rl.run 1 rfl (rl.done (RW.ret ?_)))
   cases h5
   exact RRet.mk rfl .bool (by first | decide | simp)
set_option maxHeartbeats 2000000 in
theorem law_impl_RecOk {x0 : TRec} {r : Bool} (hF : F_impl_RecOk x0 = some r) : PCalls Tryz.prog 157 [.agg (enc_TRec false x0)] (.bool r) := by
 refine PCalls.of_r k_impl_RecOk rfl ?_
 unfold F_impl_RecOk at hF
 refine RW.sreg (rl.run 2 rfl (rl.done (RW.seq (RW.sreg (rl.run 2 rfl ?_)))))
 obtain ⟨v1, e1, h1⟩ := bindS hF
 refine rl.call rfl rfl rfl (CallW.val (r' := .bool v1) ok_impl_in (law_impl_in e1) (.cons .int (.cons .int (.cons .int .nil))) .refl ?_)
 cases hb : v1
 ·have h2 := iteBF h1 hb
  refine rl.run 1 rfl (rl.done (RW.cond_t rfl (RW.sreg (rl.run 1 rfl (rl.done (RW.ret ?_))))))
  cases h2
  exact RRet.mk rfl .bool (by first | decide | simp)
 ·have h3 := iteBT h1 hb
  refine rl.run 1 rfl (rl.done (RW.cond_f rfl (RW.skip (RW.sreg (rl.run 3 rfl (rl.done (RW.sreg (rl.run 4 rfl (rl.done (RW.sreg (rl.run 1 rfl ?_)))))))))))
  refine rl.done (RW.seq (RW.seq ?_))
  obtain ⟨y2, ey2, h4⟩ := bindS h3
  refine RW.cutq (σ := Bool) (fun y2 => [(1, .ptr 0 0), (3, .ptr 1 0), (4, .bool true), (24, .bool y2)]) (fun y2 => [some ⟨[.j x0.Kind, .j x0.Valid, .j x0.Uid, .j x0.Next, .j x0.Flags, .str x0.User, .str x0.Name, .str x0.Text], 0⟩, some ⟨[.j 0, .j 0, .j x0.Uid, .j x0.Next, .j x0.Flags, .str x0.User, .str x0.Name, .str x0.Text], 0⟩]) (fun y => y2 = y) (fun _ _ _ _ g h => RW.gh g h) ?_ ?_
  ·refine RW.reg ?_
   refine rl.run 2 rfl ?_
   refine rl.gen rfl rfl fun b hb => ?_
   cases b
   ·have h5 := iteBF ey2 hb
    refine rl.run 3 rfl ?_
    refine rl.gen rfl rfl fun b hb => ?_
    cases b
    ·have h6 := iteBF h5 hb
     refine rl.run 4 rfl ?_
     refine rl.gen rfl rfl fun b hb => ?_
     cases b
     ·have h7 := iteBF h6 hb
      refine rl.run 1 rfl (rl.done ?_)
      cases h7
      exact ⟨_, rfl, (Gh.ren0 [0, 1] (.cells rfl rfl (.keep .int (.keep .int (.keep .int (.keep .int (.keep .int (.keep .str (.keep .str (.keep .str .nil)))))))) (.cells rfl rfl (.keep .int (.keep .int (.keep .int (.keep .int (.keep .int (.keep .str (.keep .str (.keep .str .nil)))))))) .nil)) rfl (.cons rfl (.ptr rfl) (.cons rfl (.ptr rfl) (.cons rfl (.dat .bool) (.cons rfl (.dat .bool) .nil)))))⟩
     ·have h8 := iteBT h6 hb
      refine rl.run 1 rfl (rl.done ?_)
      cases h8
      exact ⟨_, rfl, (Gh.ren0 [0, 1] (.cells rfl rfl (.keep .int (.keep .int (.keep .int (.keep .int (.keep .int (.keep .str (.keep .str (.keep .str .nil)))))))) (.cells rfl rfl (.keep .int (.keep .int (.keep .int (.keep .int (.keep .int (.keep .str (.keep .str (.keep .str .nil)))))))) .nil)) rfl (.cons rfl (.ptr rfl) (.cons rfl (.ptr rfl) (.cons rfl (.dat .bool) (.cons rfl (.dat .bool) .nil)))))⟩
    ·have h9 := iteBT h5 hb
     refine rl.run 6 rfl (rl.done ?_)
     cases h9
     exact ⟨_, rfl, (Gh.ren0 [0, 1] (.cells rfl rfl (.keep .int (.keep .int (.keep .int (.keep .int (.keep .int (.keep .str (.keep .str (.keep .str .nil)))))))) (.cells rfl rfl (.keep .int (.keep .int (.keep .int (.keep .int (.keep .int (.keep .str (.keep .str (.keep .str .nil)))))))) .nil)) rfl (.cons rfl (.ptr rfl) (.cons rfl (.ptr rfl) (.cons rfl (.dat .bool) (.cons rfl (.dat .bool) .nil)))))⟩
   ·have h10 := iteBT ey2 hb
    refine rl.run 10 rfl (rl.done ?_)
    cases h10
    exact ⟨_, rfl, (Gh.ren0 [0, 1] (.cells rfl rfl (.keep .int (.keep .int (.keep .int (.keep .int (.keep .int (.keep .str (.keep .str (.keep .str .nil)))))))) (.cells rfl rfl (.keep .int (.keep .int (.keep .int (.keep .int (.keep .int (.keep .str (.keep .str (.keep .str .nil)))))))) .nil)) rfl (.cons rfl (.ptr rfl) (.cons rfl (.ptr rfl) (.cons rfl (.dat .bool) (.cons rfl (.dat .bool) .nil)))))⟩
  ·intro y hC
   subst hC
   obtain ⟨y3, ey3, h11⟩ := bindS h4
   refine RW.cutq (σ := Bool × Int) (fun y3 => [(1, .ptr 0 0), (3, .ptr 1 0), (4, .bool y3.1)]) (fun y3 => [some ⟨[.j x0.Kind, .j x0.Valid, .j x0.Uid, .j x0.Next, .j x0.Flags, .str x0.User, .str x0.Name, .str x0.Text], 0⟩, some ⟨[.j 0, .j 0, .j y3.2, .j x0.Next, .j x0.Flags, .str x0.User, .str x0.Name, .str x0.Text], 0⟩]) (fun y => y3 = y) (fun _ _ _ _ g h => RW.gh g h) ?_ ?_
   ·cases hb : y2
    ·have h12 := iteBF ey3 hb
     refine RW.cond_f rfl (RW.skip ?_)
     cases h12
     exact ⟨_, rfl, (Gh.ren0 [0, 1] (.cells rfl rfl (.keep .int (.keep .int (.keep .int (.keep .int (.keep .int (.keep .str (.keep .str (.keep .str .nil)))))))) (.cells rfl rfl (.keep .int (.keep .int (.keep .int (.keep .int (.keep .int (.keep .str (.keep .str (.keep .str .nil)))))))) .nil)) rfl (.cons rfl (.ptr rfl) (.cons rfl (.ptr rfl) (.cons rfl (.dat .bool) .nil))))⟩
    ·have h13 := iteBT ey3 hb
     refine RW.cond_t rfl (RW.sreg (rl.run 2 rfl ?_))
     obtain ⟨v4, e4, h14⟩ := bindS h13
     refine rl.call rfl rfl rfl (CallW.val (r' := .bool v4) ok_impl_in (law_impl_in e4) (.cons .int (.cons .int (.cons .int .nil))) .refl ?_)
     cases hb : v4
     ·have h15 := iteBF h14 hb
      refine rl.run 1 rfl (rl.done (RW.reg (rl.run 2 rfl (rl.done ?_))))
      cases h15
      exact ⟨_, rfl, (Gh.ren0 [0, 1] (.cells rfl rfl (.keep .int (.keep .int (.keep .int (.keep .int (.keep .int (.keep .str (.keep .str (.keep .str .nil)))))))) (.cells rfl rfl (.keep .int (.keep .int (.keep .int (.keep .int (.keep .int (.keep .str (.keep .str (.keep .str .nil)))))))) .nil)) rfl (.cons rfl (.ptr rfl) (.cons rfl (.ptr rfl) (.cons rfl (.dat .bool) .nil))))⟩
     ·have h16 := iteBT h14 hb
      refine rl.run 1 rfl (rl.done (RW.reg (rl.run 2 rfl (rl.done ?_))))
      cases h16
      exact ⟨_, rfl, (Gh.ren0 [0, 1] (.cells rfl rfl (.keep .int (.keep .int (.keep .int (.keep .int (.keep .int (.keep .str (.keep .str (.keep .str .nil)))))))) (.cells rfl rfl (.keep .int (.keep .int (.keep .int (.keep .int (.keep .int (.keep .str (.keep .str (.keep .str .nil)))))))) .nil)) rfl (.cons rfl (.ptr rfl) (.cons rfl (.ptr rfl) (.cons rfl (.dat .bool) .nil))))⟩
   ·intro y hC
    subst hC
    refine RW.seq (RW.seq ?_)
    obtain ⟨y5, ey5, h17⟩ := bindS h11
    refine RW.cutq (σ := Bool) (fun y5 => [(1, .ptr 0 0), (3, .ptr 1 0), (4, .bool y3.1), (36, .bool y5)]) (fun y5 => [some ⟨[.j x0.Kind, .j x0.Valid, .j x0.Uid, .j x0.Next, .j x0.Flags, .str x0.User, .str x0.Name, .str x0.Text], 0⟩, some ⟨[.j 0, .j 0, .j y3.2, .j x0.Next, .j x0.Flags, .str x0.User, .str x0.Name, .str x0.Text], 0⟩]) (fun y => y5 = y) (fun _ _ _ _ g h => RW.gh g h) ?_ ?_
    ·refine RW.reg ?_
     refine rl.run 2 rfl ?_
     refine rl.gen rfl rfl fun b hb => ?_
     cases b
     ·have h18 := iteBF ey5 hb
      refine rl.run 3 rfl ?_
      refine rl.gen rfl rfl fun b hb => ?_
      cases b
      ·have h19 := iteBF h18 hb
       refine rl.run 1 rfl (rl.done ?_)
       cases h19
       exact ⟨_, rfl, (Gh.ren0 [0, 1] (.cells rfl rfl (.keep .int (.keep .int (.keep .int (.keep .int (.keep .int (.keep .str (.keep .str (.keep .str .nil)))))))) (.cells rfl rfl (.keep .int (.keep .int (.keep .int (.keep .int (.keep .int (.keep .str (.keep .str (.keep .str .nil)))))))) .nil)) rfl (.cons rfl (.ptr rfl) (.cons rfl (.ptr rfl) (.cons rfl (.dat .bool) (.cons rfl (.dat .bool) .nil)))))⟩
      ·have h20 := iteBT h18 hb
       refine rl.run 1 rfl (rl.done ?_)
       cases h20
       exact ⟨_, rfl, (Gh.ren0 [0, 1] (.cells rfl rfl (.keep .int (.keep .int (.keep .int (.keep .int (.keep .int (.keep .str (.keep .str (.keep .str .nil)))))))) (.cells rfl rfl (.keep .int (.keep .int (.keep .int (.keep .int (.keep .int (.keep .str (.keep .str (.keep .str .nil)))))))) .nil)) rfl (.cons rfl (.ptr rfl) (.cons rfl (.ptr rfl) (.cons rfl (.dat .bool) (.cons rfl (.dat .bool) .nil)))))⟩
     ·have h21 := iteBT ey5 hb
      refine rl.run 5 rfl (rl.done ?_)
      cases h21
      exact ⟨_, rfl, (Gh.ren0 [0, 1] (.cells rfl rfl (.keep .int (.keep .int (.keep .int (.keep .int (.keep .int (.keep .str (.keep .str (.keep .str .nil)))))))) (.cells rfl rfl (.keep .int (.keep .int (.keep .int (.keep .int (.keep .int (.keep .str (.keep .str (.keep .str .nil)))))))) .nil)) rfl (.cons rfl (.ptr rfl) (.cons rfl (.ptr rfl) (.cons rfl (.dat .bool) (.cons rfl (.dat .bool) .nil)))))⟩
    ·intro y hC
     subst hC
     obtain ⟨y6, ey6, h22⟩ := bindS h17
     refine RW.cutq (σ := Bool × Int) (fun y6 => [(1, .ptr 0 0), (3, .ptr 1 0), (4, .bool y6.1)]) (fun y6 => [some ⟨[.j x0.Kind, .j x0.Valid, .j x0.Uid, .j x0.Next, .j x0.Flags, .str x0.User, .str x0.Name, .str x0.Text], 0⟩, some ⟨[.j 0, .j 0, .j y3.2, .j x0.Next, .j y6.2, .str x0.User, .str x0.Name, .str x0.Text], 0⟩]) (fun y => y6 = y) (fun _ _ _ _ g h => RW.gh g h) ?_ ?_
     ·cases hb : y5
      ·have h23 := iteBF ey6 hb
       refine RW.cond_f rfl (RW.skip ?_)
       cases h23
       exact ⟨_, rfl, (Gh.ren0 [0, 1] (.cells rfl rfl (.keep .int (.keep .int (.keep .int (.keep .int (.keep .int (.keep .str (.keep .str (.keep .str .nil)))))))) (.cells rfl rfl (.keep .int (.keep .int (.keep .int (.keep .int (.keep .int (.keep .str (.keep .str (.keep .str .nil)))))))) .nil)) rfl (.cons rfl (.ptr rfl) (.cons rfl (.ptr rfl) (.cons rfl (.dat .bool) .nil))))⟩
      ·have h24 := iteBT ey6 hb
       refine RW.cond_t rfl (RW.seq ?_)
       obtain ⟨y7, ey7, h25⟩ := bindS h24
       refine RW.cutq (σ := Bool) (fun y7 => [(1, .ptr 0 0), (3, .ptr 1 0), (4, .bool y7)]) (fun y7 => [some ⟨[.j x0.Kind, .j x0.Valid, .j x0.Uid, .j x0.Next, .j x0.Flags, .str x0.User, .str x0.Name, .str x0.Text], 0⟩, some ⟨[.j 0, .j 0, .j y3.2, .j x0.Next, .j x0.Flags, .str x0.User, .str x0.Name, .str x0.Text], 0⟩]) (fun y => y7 = y) (fun _ _ _ _ g h => RW.gh g h) ?_ ?_
       ·refine RW.reg ?_
        refine rl.run 2 rfl ?_
        cases hb : y3.1
        ·have h26 := iteBF ey7 hb
         refine rl.run 5 rfl (rl.done ?_)
         cases h26
         exact ⟨_, rfl, (Gh.ren0 [0, 1] (.cells rfl rfl (.keep .int (.keep .int (.keep .int (.keep .int (.keep .int (.keep .str (.keep .str (.keep .str .nil)))))))) (.cells rfl rfl (.keep .int (.keep .int (.keep .int (.keep .int (.keep .int (.keep .str (.keep .str (.keep .str .nil)))))))) .nil)) rfl (.cons rfl (.ptr rfl) (.cons rfl (.ptr rfl) (.cons rfl (.dat .bool) .nil))))⟩
        ·have h27 := iteBT ey7 hb
         refine rl.run 2 rfl ?_
         obtain ⟨v8, e8, h28⟩ := bindS h27
         refine rl.call rfl rfl rfl (CallW.val (r' := .bool v8) ok_impl_in (law_impl_in e8) (.cons .int (.cons .int (.cons .int .nil))) .refl ?_)
         cases hb : v8
         ·have h29 := iteBF h28 hb
          refine rl.run 2 rfl (rl.done ?_)
          cases h29
          exact ⟨_, rfl, (Gh.ren0 [0, 1] (.cells rfl rfl (.keep .int (.keep .int (.keep .int (.keep .int (.keep .int (.keep .str (.keep .str (.keep .str .nil)))))))) (.cells rfl rfl (.keep .int (.keep .int (.keep .int (.keep .int (.keep .int (.keep .str (.keep .str (.keep .str .nil)))))))) .nil)) rfl (.cons rfl (.ptr rfl) (.cons rfl (.ptr rfl) (.cons rfl (.dat .bool) .nil))))⟩
         ·have h30 := iteBT h28 hb
          refine rl.run 2 rfl (rl.done ?_)
          cases h30
          exact ⟨_, rfl, (Gh.ren0 [0, 1] (.cells rfl rfl (.keep .int (.keep .int (.keep .int (.keep .int (.keep .int (.keep .str (.keep .str (.keep .str .nil)))))))) (.cells rfl rfl (.keep .int (.keep .int (.keep .int (.keep .int (.keep .int (.keep .str (.keep .str (.keep .str .nil)))))))) .nil)) rfl (.cons rfl (.ptr rfl) (.cons rfl (.ptr rfl) (.cons rfl (.dat .bool) .nil))))⟩
       ·intro y hC
        subst hC
        refine RW.reg (rl.run 2 rfl (rl.done ?_))
        cases h25
        exact ⟨_, rfl, (Gh.ren0 [0, 1] (.cells rfl rfl (.keep .int (.keep .int (.keep .int (.keep .int (.keep .int (.keep .str (.keep .str (.keep .str .nil)))))))) (.cells rfl rfl (.keep .int (.keep .int (.keep .int (.keep .int (.keep .int (.keep .str (.keep .str (.keep .str .nil)))))))) .nil)) rfl (.cons rfl (.ptr rfl) (.cons rfl (.ptr rfl) (.cons rfl (.dat .bool) .nil))))⟩
     ·intro y hC
      subst hC
      refine RW.seq (RW.sreg (rl.run 2 rfl (rl.done ?_)))
      obtain ⟨y9, ey9, h31⟩ := bindS h22
      refine RW.cutq (σ := Bool × Int × (List UInt8) × (List UInt8) × (List UInt8)) (fun y9 => [(3, .ptr 0 0), (4, .bool y9.1)]) (fun y9 => [some ⟨[.j 0, .j 0, .j y3.2, .j y9.2.1, .j y6.2, .str y9.2.2.1, .str y9.2.2.2.1, .str y9.2.2.2.2], 0⟩]) (fun y => y9 = .inr y) (fun _ _ _ _ g h => RW.gh g h) ?_ ?_
      ·refine RW.blk ?_
       refine RW.sreg ?_
       refine rl.gen rfl rfl fun b hb => ?_
       cases b
       ·have h32 := iteBF ey9 hb
        refine rl.run 1 rfl (rl.done (RW.cond_f rfl (RW.sreg ?_)))
        refine rl.gen rfl rfl fun b hb => ?_
        cases b
        ·have h33 := iteBF h32 hb
         refine rl.run 1 rfl (rl.done (RW.cond_f rfl (RW.seq (RW.sreg ?_))))
         refine rl.gen rfl rfl fun b hb => ?_
         cases b
         ·have h34 := iteBF h33 hb
          refine rl.run 1 rfl (rl.done (RW.cond_f rfl (RW.sreg ?_)))
          refine rl.gen rfl rfl fun b hb => ?_
          cases b
          ·have h35 := iteBF h34 hb
           refine rl.run 1 rfl (rl.done (RW.cond_f rfl (RW.reg ?_)))
           refine rl.gen rfl rfl fun b hb => ?_
           cases b
           ·have h36 := iteBF h35 hb
            refine rl.run 1 rfl (rl.done (RW.cond_f rfl (RW.sreg (rl.run 1 rfl (rl.done ?_)))))
            refine RW.kp [2] [(2, .bool false)] [some ⟨[.j x0.Kind, .j x0.Valid, .j x0.Uid, .j x0.Next, .j x0.Flags, .str x0.User, .str x0.Name, .str x0.Text], 0⟩, some ⟨[.j 0, .j 0, .j y3.2, .j x0.Next, .j y6.2, .str x0.User, .str x0.Name, .str x0.Text], 0⟩] rfl rfl ?_
            refine RW.ret ?_
            cases h36
            have h37 := elimL h31 rfl
            cases h37
            exact RRet.mk rfl .bool (by first | decide | simp)
           ·have h38 := iteBT h35 hb
            refine rl.run 1 rfl (rl.done (RW.cond_t rfl (RW.skip ?_)))
            cases h38
            exact ⟨_, rfl, (Gh.ren0 [1] (.cells rfl rfl (.keep .int (.keep .int (.keep .int (.keep .int (.keep .int (.keep .str (.keep .str (.keep .str .nil)))))))) .nil) rfl (.cons rfl (.ptr rfl) (.cons rfl (.dat .bool) .nil)))⟩
          ·have h39 := iteBT h34 hb
           refine rl.run 1 rfl (rl.done (RW.cond_t rfl (RW.skip (RW.cond_t rfl (RW.skip ?_)))))
           cases h39
           exact ⟨_, rfl, (Gh.ren0 [1] (.cells rfl rfl (.keep .int (.keep .int (.keep .int (.keep .int (.keep .int (.keep .str (.keep .str (.keep .str .nil)))))))) .nil) rfl (.cons rfl (.ptr rfl) (.cons rfl (.dat .bool) .nil)))⟩
         ·have h40 := iteBT h33 hb
          refine rl.run 1 rfl (rl.done (RW.cond_t rfl (RW.skip (RW.cond_t rfl (RW.skip ?_)))))
          cases h40
          exact ⟨_, rfl, (Gh.ren0 [1] (.cells rfl rfl (.keep .int (.keep .int (.keep .int (.keep .int (.keep .int (.keep .str (.keep .str (.keep .str .nil)))))))) .nil) rfl (.cons rfl (.ptr rfl) (.cons rfl (.dat .bool) .nil)))⟩
        ·have h41 := iteBT h32 hb
         refine rl.run 1 rfl (rl.done (RW.cond_t rfl (RW.seq ?_)))
         obtain ⟨y10, ey10, h42⟩ := bindS h41
         refine RW.cutq (σ := Bool) (fun y10 => [(3, .ptr 0 0), (4, .bool y10)]) (fun y10 => [some ⟨[.j 0, .j 0, .j y3.2, .j x0.Next, .j y6.2, .str x0.User, .str x0.Name, .str x0.Text], 0⟩]) (fun y => y10 = y) (fun _ _ _ _ g h => RW.gh g h) ?_ ?_
         ·refine RW.reg ?_
          refine rl.run 2 rfl ?_
          cases hb : y6.1
          ·have h43 := iteBF ey10 hb
           refine rl.run 6 rfl (rl.done ?_)
           cases h43
           exact ⟨_, rfl, (Gh.ren0 [1] (.cells rfl rfl (.keep .int (.keep .int (.keep .int (.keep .int (.keep .int (.keep .str (.keep .str (.keep .str .nil)))))))) .nil) rfl (.cons rfl (.ptr rfl) (.cons rfl (.dat .bool) .nil)))⟩
          ·have h44 := iteBT ey10 hb
           refine rl.run 3 rfl ?_
           refine rl.gen rfl rfl fun b hb => ?_
           cases b
           ·have h45 := iteBF h44 hb
            refine rl.run 2 rfl (rl.done ?_)
            cases h45
            exact ⟨_, rfl, (Gh.ren0 [1] (.cells rfl rfl (.keep .int (.keep .int (.keep .int (.keep .int (.keep .int (.keep .str (.keep .str (.keep .str .nil)))))))) .nil) rfl (.cons rfl (.ptr rfl) (.cons rfl (.dat .bool) .nil)))⟩
           ·have h46 := iteBT h44 hb
            refine rl.run 2 rfl (rl.done ?_)
            cases h46
            exact ⟨_, rfl, (Gh.ren0 [1] (.cells rfl rfl (.keep .int (.keep .int (.keep .int (.keep .int (.keep .int (.keep .str (.keep .str (.keep .str .nil)))))))) .nil) rfl (.cons rfl (.ptr rfl) (.cons rfl (.dat .bool) .nil)))⟩
         ·intro y hC
          subst hC
          refine RW.reg (rl.run 2 rfl (rl.done ?_))
          cases h42
          exact ⟨_, rfl, (Gh.ren0 [0] (.cells rfl rfl (.keep .int (.keep .int (.keep .int (.keep .int (.keep .int (.keep .str (.keep .str (.keep .str .nil)))))))) .nil) rfl (.cons rfl (.ptr rfl) (.cons rfl (.dat .bool) .nil)))⟩
       ·have h47 := iteBT ey9 hb
        refine rl.run 1 rfl (rl.done (RW.cond_t rfl (RW.seq ?_)))
        obtain ⟨y11, ey11, h48⟩ := bindS h47
        refine RW.cutq (σ := Bool) (fun y11 => [(3, .ptr 0 0), (4, .bool y11)]) (fun y11 => [some ⟨[.j 0, .j 0, .j y3.2, .j x0.Next, .j y6.2, .str x0.User, .str x0.Name, .str x0.Text], 0⟩]) (fun y => y11 = y) (fun _ _ _ _ g h => RW.gh g h) ?_ ?_
        ·refine RW.reg ?_
         refine rl.run 2 rfl ?_
         obtain ⟨v12, e12, h49⟩ := bindS ey11
         refine rl.call rfl rfl rfl (CallW.val (r' := .bool v12) ok_impl_WordOk (law_impl_WordOk e12) (.cons .str .nil) .refl ?_)
         cases hb : v12
         ·have h50 := iteBF h49 hb
          refine rl.run 11 rfl (rl.done ?_)
          cases h50
          exact ⟨_, rfl, (Gh.ren0 [1] (.cells rfl rfl (.keep .int (.keep .int (.keep .int (.keep .int (.keep .int (.keep .str (.keep .str (.keep .str .nil)))))))) .nil) rfl (.cons rfl (.ptr rfl) (.cons rfl (.dat .bool) .nil)))⟩
         ·have h51 := iteBT h49 hb
          refine rl.run 3 rfl ?_
          obtain ⟨v13, e13, h52⟩ := bindS h51
          refine rl.call rfl rfl rfl (CallW.val (r' := .bool v13) ok_impl_WordOk (law_impl_WordOk e13) (.cons .str .nil) .refl ?_)
          cases hb : v13
          ·have h53 := iteBF h52 hb
           refine rl.run 7 rfl (rl.done ?_)
           cases h53
           exact ⟨_, rfl, (Gh.ren0 [1] (.cells rfl rfl (.keep .int (.keep .int (.keep .int (.keep .int (.keep .int (.keep .str (.keep .str (.keep .str .nil)))))))) .nil) rfl (.cons rfl (.ptr rfl) (.cons rfl (.dat .bool) .nil)))⟩
          ·have h54 := iteBT h52 hb
           refine rl.run 4 rfl ?_
           obtain ⟨v14, e14, h55⟩ := bindS h54
           refine rl.call rfl rfl rfl (CallW.val (r' := .bool v14) ok_impl_in (law_impl_in e14) (.cons .int (.cons .int (.cons .int .nil))) .refl ?_)
           cases hb : v14
           ·have h56 := iteBF h55 hb
            refine rl.run 2 rfl (rl.done ?_)
            cases h56
            exact ⟨_, rfl, (Gh.ren0 [1] (.cells rfl rfl (.keep .int (.keep .int (.keep .int (.keep .int (.keep .int (.keep .str (.keep .str (.keep .str .nil)))))))) .nil) rfl (.cons rfl (.ptr rfl) (.cons rfl (.dat .bool) .nil)))⟩
           ·have h57 := iteBT h55 hb
            refine rl.run 2 rfl (rl.done ?_)
            cases h57
            exact ⟨_, rfl, (Gh.ren0 [1] (.cells rfl rfl (.keep .int (.keep .int (.keep .int (.keep .int (.keep .int (.keep .str (.keep .str (.keep .str .nil)))))))) .nil) rfl (.cons rfl (.ptr rfl) (.cons rfl (.dat .bool) .nil)))⟩
        ·intro y hC
         subst hC
         refine RW.reg (rl.run 6 rfl (rl.done ?_))
         cases h48
         exact ⟨_, rfl, (Gh.ren0 [0] (.cells rfl rfl (.keep .int (.keep .int (.keep .int (.keep .int (.keep .int (.keep .str (.keep .str (.keep .str .nil)))))))) .nil) rfl (.cons rfl (.ptr rfl) (.cons rfl (.dat .bool) .nil)))⟩
      ·intro y9_ hC
       have h31 := elimR h31 hC
       refine RW.sreg (rl.run 2 rfl ?_)
       cases hb : y9_.1
       ·have h58 := iteBF h31 hb
        refine rl.run 5 rfl (rl.done (RW.ret ?_))
        cases h58
        exact RRet.mk rfl .bool (by first | decide | simp)
       ·have h59 := iteBT h31 hb
        refine rl.run 5 rfl (rl.done (RW.ret ?_))
        cases h59
        exact RRet.mk rfl .bool (by first | decide | simp)
theorem law_impl_ItemsOk_1_w {x0 : TItem} {x1 : TItem} {r : Bool} (hF : F_impl_ItemsOk_1_w x0 x1 = some r) : ACalls Tryz.prog 1 159 [.agg (enc_TItem false x0), .ptr 0 0] [some ⟨[.j x1.Seq, .j x1.Rec.Kind, .j x1.Rec.Valid, .j x1.Rec.Uid, .j x1.Rec.Next, .j x1.Rec.Flags, .str x1.Rec.User, .str x1.Rec.Name, .str x1.Rec.Text], 0⟩] (.bool r) [some ⟨[.j x1.Seq, .j x1.Rec.Kind, .j x1.Rec.Valid, .j x1.Rec.Uid, .j x1.Rec.Next, .j x1.Rec.Flags, .str x1.Rec.User, .str x1.Rec.Name, .str x1.Rec.Text], 0⟩] := by
 refine ACalls.of_s k_impl_ItemsOk_1 rfl ?_
 unfold F_impl_ItemsOk_1_w at hF
 refine RW.sreg (rl.run 2 rfl (rl.done (RW.sreg (rl.run 4 rfl ?_))))
 refine rl.gen rfl rfl fun b hb => ?_
 cases b
 ·have h1 := iteBF hF hb
  refine rl.run 6 rfl (rl.done ?_)
  refine RW.kp [3] [(3, .bool false)] [some ⟨[.j x1.Seq, .j x1.Rec.Kind, .j x1.Rec.Valid, .j x1.Rec.Uid, .j x1.Rec.Next, .j x1.Rec.Flags, .str x1.Rec.User, .str x1.Rec.Name, .str x1.Rec.Text], 0⟩, some ⟨[.j x0.Seq, .j x0.Rec.Kind, .j x0.Rec.Valid, .j x0.Rec.Uid, .j x0.Rec.Next, .j x0.Rec.Flags, .str x0.Rec.User, .str x0.Rec.Name, .str x0.Rec.Text], 0⟩] rfl rfl ?_
  refine RW.ret ?_
  cases h1
  exact RRetS.mk rfl .bool (Gh.renN [0] (.cells rfl rfl (.keep .int (.keep .int (.keep .int (.keep .int (.keep .int (.keep .int (.keep .str (.keep .str (.keep .str .nil))))))))) .nil) rfl rfl rfl .nil)
 ·have h2 := iteBT hF hb
  refine rl.run 6 rfl (rl.done ?_)
  refine RW.kp [3] [(3, .bool (!(x0.Seq == x1.Seq && (x0.Rec.Kind == x1.Rec.Kind && (x0.Rec.Valid == x1.Rec.Valid && (x0.Rec.Uid == x1.Rec.Uid && (x0.Rec.Next == x1.Rec.Next && (x0.Rec.Flags == x1.Rec.Flags && (x0.Rec.User == x1.Rec.User && (x0.Rec.Name == x1.Rec.Name && (x0.Rec.Text == x1.Rec.Text && true)))))))))))] [some ⟨[.j x1.Seq, .j x1.Rec.Kind, .j x1.Rec.Valid, .j x1.Rec.Uid, .j x1.Rec.Next, .j x1.Rec.Flags, .str x1.Rec.User, .str x1.Rec.Name, .str x1.Rec.Text], 0⟩, some ⟨[.j x0.Seq, .j x0.Rec.Kind, .j x0.Rec.Valid, .j x0.Rec.Uid, .j x0.Rec.Next, .j x0.Rec.Flags, .str x0.Rec.User, .str x0.Rec.Name, .str x0.Rec.Text], 0⟩] rfl rfl ?_
  refine RW.ret ?_
  cases h2
  exact RRetS.mk rfl .bool (Gh.renN [0] (.cells rfl rfl (.keep .int (.keep .int (.keep .int (.keep .int (.keep .int (.keep .int (.keep .str (.keep .str (.keep .str .nil))))))))) .nil) rfl rfl rfl .nil)
theorem law_slices_IndexFunc_Item_ItemsOk_1 {x0 : List TItem} {x1 : TItem} {r : Int} (hF : F_slices_IndexFunc_Item_ItemsOk_1 x0 x1 = some r) : ACalls Tryz.prog 1 199 [L_TItem x0, .fn 159 [.ptr 0 0]] [some ⟨[.j x1.Seq, .j x1.Rec.Kind, .j x1.Rec.Valid, .j x1.Rec.Uid, .j x1.Rec.Next, .j x1.Rec.Flags, .str x1.Rec.User, .str x1.Rec.Name, .str x1.Rec.Text], 0⟩] (.j r) [some ⟨[.j x1.Seq, .j x1.Rec.Kind, .j x1.Rec.Valid, .j x1.Rec.Uid, .j x1.Rec.Next, .j x1.Rec.Flags, .str x1.Rec.User, .str x1.Rec.Name, .str x1.Rec.Text], 0⟩] := by
 refine ACalls.of_s k_slices_IndexFunc_Item rfl ?_
 unfold F_slices_IndexFunc_Item_ItemsOk_1 at hF
 refine RW.sreg (rl.run 1 rfl (rl.done (RW.seq (RW.sreg (rl.run 3 rfl (rl.done ?_))))))
 obtain ⟨y5, ey5, h2⟩ := bindS hF
 refine RW.cutq (σ := Unit) (fun y2 => []) (fun y2 => [some ⟨[.j x1.Seq, .j x1.Rec.Kind, .j x1.Rec.Valid, .j x1.Rec.Uid, .j x1.Rec.Next, .j x1.Rec.Flags, .str x1.Rec.User, .str x1.Rec.Name, .str x1.Rec.Text], 0⟩]) (fun y => y5 = .inr y) (fun _ _ _ _ g h => RW.gh g h) ?_ ?_
 ·refine RW.blk ?_
  refine RW.iter (σ := Int) ey5 (fun s1 => [(0, L_TItem x0), (1, .fn 159 [.ptr 0 0]), (7, .j (x0.length : Int)), (8, .j s1)]) (fun s1 => [some ⟨[.j x1.Seq, .j x1.Rec.Kind, .j x1.Rec.Valid, .j x1.Rec.Uid, .j x1.Rec.Next, .j x1.Rec.Flags, .str x1.Rec.User, .str x1.Rec.Name, .str x1.Rec.Text], 0⟩]) (Gh.renN [0] (.cells rfl rfl (.keep .int (.keep .int (.keep .int (.keep .int (.keep .int (.keep .int (.keep .str (.keep .str (.keep .str .nil))))))))) .nil) rfl rfl rfl (.cons rfl (.dat (ek_TItem.rlst)) (.cons rfl (RnL.fn (.cons (.ptr rfl) .nil)) (.cons rfl (.dat .int) (.cons rfl (.dat .int) .nil))))) (fun s1 B o hS1 hB1 hE1 => ?_)
  unfold S_slices_IndexFunc_Item_ItemsOk_1_1 at hS1
  refine RW.sreg ?_
  refine rl.gen rfl rfl fun b hb => ?_
  cases b
  ·have h3 := iteBF hS1 hb
   refine rl.done (RW.seq (RW.cond_f rfl (RW.exit (blkA_eq ?_))))
   cases h3
   exact ⟨_, (hE1 _ rfl).symm, (Gh.renN [0] (.cells rfl rfl (.keep .int (.keep .int (.keep .int (.keep .int (.keep .int (.keep .int (.keep .str (.keep .str (.keep .str .nil))))))))) .nil) rfl rfl rfl .nil)⟩
  ·have h4 := iteBT hS1 hb
   refine rl.done (RW.seq (RW.cond_t rfl (RW.skip (RW.seq (RW.blk (RW.sreg (rl.run 2 rfl (rl.done (RW.sreg (rl.run 3 rfl ?_))))))))))
   obtain ⟨v3, e3, h5⟩ := bindS h4
   refine rl.op (x_ia_lst (enc := enc_TItem) (o := false) rfl rfl rfl e3) ?_
   refine rl.op (x_ld_ela (off' := 0) (vs := (enc_TItem false v3)) ek_TItem rfl e3 rfl rfl rfl) ?_
   obtain ⟨v4, e4, h6⟩ := bindS h5
   refine rl.call rfl rfl rfl (CallW.embR [0] ok_impl_ItemsOk_1 (law_impl_ItemsOk_1_w e4) (.cells rfl rfl (.keep .int (.keep .int (.keep .int (.keep .int (.keep .int (.keep .int (.keep .str (.keep .str (.keep .str .nil))))))))) .nil) rfl rfl (.cons (.dat (ek_TItem.rrec)) (.cons (.ptr rfl) .nil)) .bool ?_)
   cases hb : v4
   ·have h7 := iteBF h6 hb
    refine rl.done (RW.cond_f rfl (RW.skip (RW.reg (rl.run 2 rfl (rl.done ?_)))))
    cases h7
    exact hB1 _ rfl _ _ (Gh.renN [0] (.cells rfl rfl (.keep .int (.keep .int (.keep .int (.keep .int (.keep .int (.keep .int (.keep .str (.keep .str (.keep .str .nil))))))))) .nil) rfl rfl rfl (.cons rfl (.dat (ek_TItem.rlst)) (.cons rfl (RnL.fn (.cons (.ptr rfl) .nil)) (.cons rfl (.dat .int) (.cons rfl (.dat .int) .nil)))))
   ·have h8 := iteBT h6 hb
    refine rl.done (RW.cond_t rfl (RW.sreg (rl.run 2 rfl (rl.done ?_))))
    refine RW.kp [4] [(4, .j s1)] [some ⟨[.j x1.Seq, .j x1.Rec.Kind, .j x1.Rec.Valid, .j x1.Rec.Uid, .j x1.Rec.Next, .j x1.Rec.Flags, .str x1.Rec.User, .str x1.Rec.Name, .str x1.Rec.Text], 0⟩] rfl rfl ?_
    refine RW.ret ?_
    cases h8
    have h9 := elimL h2 (hE1 _ rfl)
    cases h9
    exact RRetS.mk rfl .int (Gh.renN [0] (.cells rfl rfl (.keep .int (.keep .int (.keep .int (.keep .int (.keep .int (.keep .int (.keep .str (.keep .str (.keep .str .nil))))))))) .nil) rfl rfl rfl .nil)
 ·intro y2 hC
  have h2 := elimR h2 hC
  refine RW.sreg (rl.run 1 rfl (rl.done (RW.ret ?_)))
  cases h2
  exact RRetS.mk rfl .int (Gh.renN [0] (.cells rfl rfl (.keep .int (.keep .int (.keep .int (.keep .int (.keep .int (.keep .int (.keep .str (.keep .str (.keep .str .nil))))))))) .nil) rfl rfl rfl .nil)
theorem law_slices_ContainsFunc_Item_ItemsOk_1 {x0 : List TItem} {x1 : TItem} {r : Bool} (hF : F_slices_ContainsFunc_Item_ItemsOk_1 x0 x1 = some r) : ACalls Tryz.prog 1 158 [L_TItem x0, .fn 159 [.ptr 0 0]] [some ⟨[.j x1.Seq, .j x1.Rec.Kind, .j x1.Rec.Valid, .j x1.Rec.Uid, .j x1.Rec.Next, .j x1.Rec.Flags, .str x1.Rec.User, .str x1.Rec.Name, .str x1.Rec.Text], 0⟩] (.bool r) [some ⟨[.j x1.Seq, .j x1.Rec.Kind, .j x1.Rec.Valid, .j x1.Rec.Uid, .j x1.Rec.Next, .j x1.Rec.Flags, .str x1.Rec.User, .str x1.Rec.Name, .str x1.Rec.Text], 0⟩] := by
 refine ACalls.of_s k_slices_ContainsFunc_Item rfl ?_
 unfold F_slices_ContainsFunc_Item_ItemsOk_1 at hF
 refine RW.sreg (rl.run 1 rfl (rl.done (RW.sreg (rl.run 2 rfl ?_))))
 obtain ⟨v1, e1, h1⟩ := bindS hF
 refine rl.call rfl rfl rfl (CallW.embR [0] ok_slices_IndexFunc_Item (law_slices_IndexFunc_Item_ItemsOk_1 e1) (.cells rfl rfl (.keep .int (.keep .int (.keep .int (.keep .int (.keep .int (.keep .int (.keep .str (.keep .str (.keep .str .nil))))))))) .nil) rfl rfl (.cons (.dat (ek_TItem.rlst)) (.cons (RnL.fn (.cons (.ptr rfl) .nil)) .nil)) .int ?_)
 refine rl.run 2 rfl (rl.done (RW.ret ?_))
 cases h1
 exact RRetS.mk rfl .bool (Gh.renN [0] (.cells rfl rfl (.keep .int (.keep .int (.keep .int (.keep .int (.keep .int (.keep .int (.keep .str (.keep .str (.keep .str .nil))))))))) .nil) rfl rfl rfl .nil)
set_option maxHeartbeats 2000000 in
theorem law_impl_ItemsOk {x0 : List TItem} {r : Bool} (hF : F_impl_ItemsOk x0 = some r) : PCalls Tryz.prog 101 [L_TItem x0] (.bool r) := by
 refine PCalls.of_r k_impl_ItemsOk rfl ?_
 unfold F_impl_ItemsOk at hF
 refine RW.sreg (rl.run 1 rfl (rl.done (RW.seq (RW.sreg (rl.run 2 rfl ?_)))))
 refine rl.gen rfl rfl fun b hb => ?_
 cases b
 ·have h1 := iteBF hF hb
  refine rl.done (RW.cond_f rfl (RW.skip (RW.seq (RW.sreg (rl.run 3 rfl (rl.done ?_))))))
  obtain ⟨y9, ey9, h3⟩ := bindS h1
  refine RW.cutq (σ := Unit) (fun y2 => []) (fun y2 => []) (fun y => y9 = .inr y) (fun _ _ _ _ g h => RW.gh g h) ?_ ?_
  ·refine RW.blk ?_
   refine RW.iter (σ := Int) ey9 (fun s1 => [(0, L_TItem x0), (8, L_TItem x0), (9, .j (x0.length : Int)), (10, .j s1)]) (fun s1 => []) (Gh.ren0 [] .nil rfl (.cons rfl (.dat (ek_TItem.rlst)) (.cons rfl (.dat (ek_TItem.rlst)) (.cons rfl (.dat .int) (.cons rfl (.dat .int) .nil))))) (fun s1 B o hS2 hB2 hE2 => ?_)
   unfold S_impl_ItemsOk_1 at hS2
   refine RW.sreg ?_
   refine rl.gen rfl rfl fun b hb => ?_
   cases b
   ·have h4 := iteBF hS2 hb
    refine rl.done (RW.seq (RW.cond_f rfl (RW.exit (blkA_eq ?_))))
    cases h4
    exact ⟨_, (hE2 _ rfl).symm, (Gh.ren0 [] .nil rfl .nil)⟩
   ·have h5 := iteBT hS2 hb
    refine rl.done (RW.seq (RW.cond_t rfl (RW.skip (RW.seq (RW.blk (RW.sreg (rl.run 1 rfl ?_)))))))
    obtain ⟨v3, e3, h6⟩ := bindS h5
    refine rl.op (x_ia_lst (enc := enc_TItem) (o := false) rfl rfl rfl e3) ?_
    refine rl.op (x_ld_ela (off' := 0) (vs := (enc_TItem false v3)) ek_TItem rfl e3 rfl rfl rfl) ?_
    refine rl.run 3 rfl (rl.done (RW.seq (RW.seq ?_)))
    obtain ⟨y4, ey4, h7⟩ := bindS h6
    refine RW.cutq (σ := Bool) (fun y4 => [(0, L_TItem x0), (3, .j s1), (4, .ptr 0 0), (8, L_TItem x0), (9, .j (x0.length : Int)), (10, .j s1), (24, .bool y4)]) (fun y4 => [some ⟨[.j v3.Seq, .j v3.Rec.Kind, .j v3.Rec.Valid, .j v3.Rec.Uid, .j v3.Rec.Next, .j v3.Rec.Flags, .str v3.Rec.User, .str v3.Rec.Name, .str v3.Rec.Text], 0⟩]) (fun y => y4 = y) (fun _ _ _ _ g h => RW.gh g h) ?_ ?_
    ·refine RW.reg ?_
     refine rl.run 2 rfl ?_
     obtain ⟨v5, e5, h8⟩ := bindS ey4
     refine rl.call rfl rfl rfl (CallW.val (r' := .bool v5) ok_impl_in (law_impl_in e5) (.cons .int (.cons .int (.cons .int .nil))) .refl ?_)
     cases hb : v5
     ·have h9 := iteBF h8 hb
      refine rl.run 7 rfl (rl.done ?_)
      cases h9
      exact ⟨_, rfl, (Gh.ren0 [0] (.cells rfl rfl (.keep .int (.keep .int (.keep .int (.keep .int (.keep .int (.keep .int (.keep .str (.keep .str (.keep .str .nil))))))))) .nil) rfl (.cons rfl (.dat (ek_TItem.rlst)) (.cons rfl (.dat .int) (.cons rfl (.ptr rfl) (.cons rfl (.dat (ek_TItem.rlst)) (.cons rfl (.dat .int) (.cons rfl (.dat .int) (.cons rfl (.dat .bool) .nil))))))))⟩
     ·have h10 := iteBT h8 hb
      refine rl.run 4 rfl ?_
      obtain ⟨v6, e6, h11⟩ := bindS h10
      refine rl.call rfl rfl rfl (CallW.val (r' := .bool v6) ok_impl_RecOk (law_impl_RecOk e6) (.cons (DFL.agg (.cons .int (.cons .int (.cons .int (.cons .int (.cons .int (.cons .str (.cons .str (.cons .str .nil))))))))) .nil) .refl ?_)
      cases hb : v6
      ·have h12 := iteBF h11 hb
       refine rl.run 2 rfl (rl.done ?_)
       cases h12
       exact ⟨_, rfl, (Gh.ren0 [0] (.cells rfl rfl (.keep .int (.keep .int (.keep .int (.keep .int (.keep .int (.keep .int (.keep .str (.keep .str (.keep .str .nil))))))))) .nil) rfl (.cons rfl (.dat (ek_TItem.rlst)) (.cons rfl (.dat .int) (.cons rfl (.ptr rfl) (.cons rfl (.dat (ek_TItem.rlst)) (.cons rfl (.dat .int) (.cons rfl (.dat .int) (.cons rfl (.dat .bool) .nil))))))))⟩
      ·have h13 := iteBT h11 hb
       refine rl.run 2 rfl (rl.done ?_)
       cases h13
       exact ⟨_, rfl, (Gh.ren0 [0] (.cells rfl rfl (.keep .int (.keep .int (.keep .int (.keep .int (.keep .int (.keep .int (.keep .str (.keep .str (.keep .str .nil))))))))) .nil) rfl (.cons rfl (.dat (ek_TItem.rlst)) (.cons rfl (.dat .int) (.cons rfl (.ptr rfl) (.cons rfl (.dat (ek_TItem.rlst)) (.cons rfl (.dat .int) (.cons rfl (.dat .int) (.cons rfl (.dat .bool) .nil))))))))⟩
    ·intro y hC
     subst hC
     cases hb : y4
     ·have h14 := iteBF h7 hb
      refine RW.cond_f rfl (RW.skip (RW.sreg (rl.run 2 rfl ?_)))
      obtain ⟨v7, e7, h15⟩ := bindS h14
      refine rl.op (x_sle ek_TItem rfl rfl rfl abnd_hi e7) ?_
      refine rl.run 1 rfl ?_
      obtain ⟨v8, e8, h16⟩ := bindS h15
      refine rl.call rfl rfl rfl (CallW.embR [0] ok_slices_ContainsFunc_Item (law_slices_ContainsFunc_Item_ItemsOk_1 e8) (.cells rfl rfl (.keep .int (.keep .int (.keep .int (.keep .int (.keep .int (.keep .int (.keep .str (.keep .str (.keep .str .nil))))))))) .nil) rfl rfl (.cons (.dat (ek_TItem.rlst)) (.cons (RnL.fn (.cons (.ptr rfl) .nil)) .nil)) .bool ?_)
      cases hb : v8
      ·have h17 := iteBF h16 hb
       refine rl.done (RW.cond_f rfl (RW.skip (RW.reg (rl.run 2 rfl (rl.done ?_)))))
       cases h17
       exact hB2 _ rfl _ _ (Gh.ren0 [] .nil rfl (.cons rfl (.dat (ek_TItem.rlst)) (.cons rfl (.dat (ek_TItem.rlst)) (.cons rfl (.dat .int) (.cons rfl (.dat .int) .nil)))))
      ·have h18 := iteBT h16 hb
       refine rl.done (RW.cond_t rfl (RW.sreg (rl.run 1 rfl (rl.done ?_))))
       refine RW.kp [2] [(2, .bool false)] [some ⟨[.j v3.Seq, .j v3.Rec.Kind, .j v3.Rec.Valid, .j v3.Rec.Uid, .j v3.Rec.Next, .j v3.Rec.Flags, .str v3.Rec.User, .str v3.Rec.Name, .str v3.Rec.Text], 0⟩] rfl rfl ?_
       refine RW.ret ?_
       cases h18
       have h19 := elimL h3 (hE2 _ rfl)
       cases h19
       exact RRet.mk rfl .bool (by first | decide | simp)
     ·have h20 := iteBT h7 hb
      refine RW.cond_t rfl (RW.sreg (rl.run 1 rfl (rl.done (RW.ret ?_))))
      cases h20
      have h21 := elimL h3 (hE2 _ rfl)
      cases h21
      exact RRet.mk rfl .bool (by first | decide | simp)
  ·intro y2 hC
   have h3 := elimR h3 hC
   refine RW.sreg (rl.run 1 rfl (rl.done (RW.ret ?_)))
   cases h3
   exact RRet.mk rfl .bool (by first | decide | simp)
 ·have h22 := iteBT hF hb
  refine rl.done (RW.cond_t rfl (RW.sreg (rl.run 1 rfl (rl.done (RW.ret ?_)))))
  cases h22
  exact RRet.mk rfl .bool (by first | decide | simp)
theorem law_impl_StateOf_1 {x0 : TRec} {r : Int × Bool} (hF : F_impl_StateOf_1 x0 = some r) : PCalls Tryz.prog 103 [.agg (enc_TRec false x0)] (.tup [.j r.1, .bool r.2]) := by
 refine PCalls.of_r k_impl_StateOf_1 rfl ?_
 unfold F_impl_StateOf_1 at hF
 refine RW.sreg (rl.run 3 rfl (rl.done (RW.sdrw (rdraw.op rfl rfl (rdraw.op rfl rfl (rdraw.op rfl rfl (rdraw.op rfl rfl (rdraw.op rfl rfl (rdraw.op rfl rfl (rdraw.op rfl rfl (rdraw.done ?_)))))))))))
 refine RW.ret ?_
 cases hF
 exact RRet.mk rfl (OutT.tup (.cons .int (.cons .bool .nil))) (by first | decide | simp)
theorem law_impl_numbers_StateOf_1 {x0 : List TItem} {r : List Int} (hF : F_impl_numbers_StateOf_1 x0 = some r) : PCalls Tryz.prog 102 [L_TItem x0, .fn 103 []] (.lst true 1 (fl (encI true) r) r.length) := by
 refine PCalls.of_r k_impl_numbers rfl ?_
 unfold F_impl_numbers_StateOf_1 at hF
 refine RW.sreg (rl.run 1 rfl (rl.done (RW.sreg (rl.run 2 rfl (rl.done (RW.seq (RW.sreg (rl.run 3 rfl (rl.done ?_)))))))))
 refine RW.gh (Gh.nil_t 5 1 rfl) ?_
 obtain ⟨y6, ey6, h2⟩ := bindS hF
 refine RW.cutq (σ := (List Int)) (fun y2 => [(5, .sl 0 0 y2.length)]) (fun y2 => [some ⟨fl (encI true) y2, 1⟩]) (fun y => y6 = y) (fun _ _ _ _ g h => RW.gh g h) ?_ ?_
 ·refine RW.blk ?_
  refine RW.iter (σ := Int × (List Int)) ey6 (fun s1 => [(1, .fn 103 []), (5, .sl 0 0 s1.2.length), (11, L_TItem x0), (12, .j (x0.length : Int)), (13, .j s1.1)]) (fun s1 => [some ⟨fl (encI true) s1.2, 1⟩]) (Gh.ren0 [0] (.same rfl (ekI.fref _ _) .nil) rfl (.cons rfl (RnL.fn .nil) (.cons rfl (.slq rfl rfl) (.cons rfl (.dat (ek_TItem.rlst)) (.cons rfl (.dat .int) (.cons rfl (.dat .int) .nil)))))) (fun s1 B o hS1 hB1 hE1 => ?_)
  unfold S_impl_numbers_StateOf_1_1 at hS1
  refine RW.sreg ?_
  refine rl.gen rfl rfl fun b hb => ?_
  cases b
  ·have h3 := iteBF hS1 hb
   refine rl.done (RW.seq (RW.cond_f rfl (RW.exit (blkA_eq ?_))))
   cases h3
   exact ⟨_, (hE1 _ rfl).symm, (Gh.ren0 [0] (.same rfl (ekI.fref _ _) .nil) rfl (.cons rfl (.slq rfl rfl) .nil))⟩
  ·have h4 := iteBT hS1 hb
   refine rl.done (RW.seq (RW.cond_t rfl (RW.skip (RW.seq (RW.blk (RW.sreg ?_))))))
   obtain ⟨v3, e3, h5⟩ := bindS h4
   refine rl.op (x_ia_lst (enc := enc_TItem) (o := false) rfl rfl rfl e3) ?_
   refine rl.op (x_ld_ela (off' := 0) (vs := (enc_TItem false v3)) ek_TItem rfl e3 rfl rfl rfl) ?_
   refine rl.run 2 rfl (rl.done (RW.sreg (rl.run 3 rfl ?_)))
   obtain ⟨v4, e4, h6⟩ := bindS h5
   refine rl.call rfl rfl rfl (CallW.val (r' := .tup [.j v4.1, .bool v4.2]) ok_impl_StateOf_1 (law_impl_StateOf_1 e4) (.cons (DFL.agg (.cons .int (.cons .int (.cons .int (.cons .int (.cons .int (.cons .str (.cons .str (.cons .str .nil))))))))) .nil) (FlL.tup (.cons .refl (.cons .refl .nil))) ?_)
   refine rl.run 5 rfl (rl.done ?_)
   refine RW.kp [1, 5, 8, 9, 11, 12, 13] [(1, .fn 103 []), (5, .sl 0 0 s1.2.length), (8, .j v4.1), (9, .bool v4.2), (11, L_TItem x0), (12, .j (x0.length : Int)), (13, .j s1.1)] [some ⟨fl (encI true) s1.2, 1⟩, some ⟨[.j v3.Seq, .j v3.Rec.Kind, .j v3.Rec.Valid, .j v3.Rec.Uid, .j v3.Rec.Next, .j v3.Rec.Flags, .str v3.Rec.User, .str v3.Rec.Name, .str v3.Rec.Text], 0⟩] rfl rfl ?_
   refine RW.sreg (rl.run 1 rfl (rl.done ?_))
   cases hb : v4.2
   ·have h7 := iteBF h6 hb
    refine RW.cond_f rfl (RW.skip (RW.reg (rl.run 2 rfl (rl.done ?_))))
    cases h7
    exact hB1 _ rfl _ _ (Gh.ren0 [0] (.same rfl (ekI.fref _ _) .nil) rfl (.cons rfl (RnL.fn .nil) (.cons rfl (.slq rfl rfl) (.cons rfl (.dat (ek_TItem.rlst)) (.cons rfl (.dat .int) (.cons rfl (.dat .int) .nil))))))
   ·have h8 := iteBT h6 hb
    refine RW.cond_t rfl (RW.reg (rl.run 3 rfl ?_))
    obtain ⟨v5, e5, h9⟩ := bindS h8
    refine rl.op (x_app rfl rfl (rapp_sl (l := s1.2) (m := [v4.1]) (o := true) ekI rfl rfl (acont_slq (m := [v4.1]) (o := true) fkI rfl rfl) rfl (fkI.fst _ _) e5)) ?_
    refine rl.run 1 rfl (rl.done (RW.reg (rl.run 2 rfl (rl.done ?_))))
    cases h9
    exact hB1 _ rfl _ _ (Gh.ren0 [3] (.same rfl (ekI.fref _ _) .nil) rfl (.cons rfl (RnL.fn .nil) (.cons rfl (.slq rfl rfl) (.cons rfl (.dat (ek_TItem.rlst)) (.cons rfl (.dat .int) (.cons rfl (.dat .int) .nil))))))
 ·intro y2 hC
  subst hC
  refine RW.sreg (rl.run 1 rfl ?_)
  obtain ⟨v7, e7, h10⟩ := bindS h2
  refine rl.call rfl rfl rfl (CallW.sortI (H' := [some ⟨fl (encI true) v7, 1⟩]) lay_slices_Sort_int e7 rfl rfl rfl rfl ?_)
  refine rl.done (RW.sreg (rl.run 1 rfl ?_))
  obtain ⟨v8, e8, h11⟩ := bindS h10
  refine rl.call rfl rfl rfl (CallW.compI (H' := [some ⟨fl (encI true) v8, 1⟩]) lay_slices_Compact_int e8 rfl ((sort?_length e7)).symm rfl rfl ?_)
  refine rl.run 1 rfl (rl.done (RW.ret ?_))
  cases h11
  exact RRet.mk rfl (OutR.ownq ekI rfl rfl) (by first | decide | simp)
theorem law_impl_about {x0 : TRec} {x1 : Int} {x2 : Int} {r : Bool} (hF : F_impl_about x0 x1 x2 = some r) : PCalls Tryz.prog 164 [.agg (enc_TRec false x0), .j x1, .j x2] (.bool r) := by
 refine PCalls.of_r k_impl_about rfl ?_
 unfold F_impl_about at hF
 refine RW.sreg (rl.run 2 rfl (rl.done (RW.sreg (rl.run 3 rfl ?_))))
 refine rl.gen rfl rfl fun b hb => ?_
 cases b
 ·have h1 := iteBF hF hb
  refine rl.run 7 rfl (rl.done ?_)
  refine RW.kp [6] [(6, .bool false)] [some ⟨[.j x0.Kind, .j x0.Valid, .j x0.Uid, .j x0.Next, .j x0.Flags, .str x0.User, .str x0.Name, .str x0.Text], 0⟩] rfl rfl ?_
  refine RW.ret ?_
  cases h1
  exact RRet.mk rfl .bool (by first | decide | simp)
 ·have h2 := iteBT hF hb
  refine rl.run 7 rfl (rl.done ?_)
  refine RW.kp [6] [(6, .bool (x0.Valid == x2))] [some ⟨[.j x0.Kind, .j x0.Valid, .j x0.Uid, .j x0.Next, .j x0.Flags, .str x0.User, .str x0.Name, .str x0.Text], 0⟩] rfl rfl ?_
  refine RW.ret ?_
  cases h2
  exact RRet.mk rfl .bool (by first | decide | simp)
theorem law_impl_boxThere_1_w {x0 : TRec} {x1 : Int} {r : Bool} (hF : F_impl_boxThere_1_w x0 x1 = some r) : ACalls Tryz.prog 1 163 [.agg (enc_TRec false x0), .ptr 0 0] [some ⟨[.j x1], 0⟩] (.bool r) [some ⟨[.j x1], 0⟩] := by
 refine ACalls.of_s k_impl_boxThere_1 rfl ?_
 unfold F_impl_boxThere_1_w at hF
 refine RW.sreg (rl.run 2 rfl (rl.done (RW.sreg (rl.run 2 rfl ?_))))
 obtain ⟨v1, e1, h1⟩ := bindS hF
 refine rl.call rfl rfl rfl (CallW.val (r' := .bool v1) ok_impl_about (law_impl_about e1) (.cons (DFL.agg (.cons .int (.cons .int (.cons .int (.cons .int (.cons .int (.cons .str (.cons .str (.cons .str .nil))))))))) (.cons .int (.cons .int .nil))) .refl ?_)
 refine rl.run 1 rfl (rl.done (RW.ret ?_))
 cases h1
 exact RRetS.mk rfl .bool (Gh.renN [0] (.cells rfl rfl (.keep .int .nil) .nil) rfl rfl rfl .nil)
theorem law_impl_bySeq {x0 : TItem} {x1 : TItem} {r : Bool} (hF : F_impl_bySeq x0 x1 = some r) : PCalls Tryz.prog 165 [.agg (enc_TItem false x0), .agg (enc_TItem false x1)] (.bool r) := by
 refine PCalls.of_r k_impl_bySeq rfl ?_
 unfold F_impl_bySeq at hF
 refine RW.sreg (rl.run 3 rfl (rl.done (RW.sreg (rl.run 6 rfl (rl.done (RW.ret ?_))))))
 cases hF
 exact RRet.mk rfl .bool (by first | decide | simp)
theorem law_impl_latest_boxThere_1_bySeq {x0 : List TItem} {x1 : Int} {r : TItem × Bool} (hF : F_impl_latest_boxThere_1_bySeq x0 x1 = some r) : ACalls Tryz.prog 1 162 [L_TItem x0, .fn 163 [.ptr 0 0], .fn 165 []] [some ⟨[.j x1], 0⟩] (.tup [.agg (enc_TItem true r.1), .bool r.2]) [some ⟨[.j x1], 0⟩] := by
 refine ACalls.of_s k_impl_latest rfl ?_
 unfold F_impl_latest_boxThere_1_bySeq at hF
 refine RW.sreg (rl.run 2 rfl (rl.done (RW.sreg (rl.run 4 rfl (rl.done (RW.seq (RW.sreg (rl.run 3 rfl (rl.done ?_)))))))))
 obtain ⟨y7, ey7, h2⟩ := bindS hF
 refine RW.cutq (σ := Bool × Int × Int × Int × Int × Int × Int × (List UInt8) × (List UInt8) × (List UInt8)) (fun y2 => [(6, .ptr 1 0), (8, .ptr 2 0), (9, .bool y2.1)]) (fun y2 => [some ⟨[.j x1], 0⟩, some ⟨[.j 0, .j 0, .j 0, .j 0, .j 0, .j 0, .str [], .str [], .str []], 0⟩, some ⟨[.j y2.2.1, .j y2.2.2.1, .j y2.2.2.2.1, .j y2.2.2.2.2.1, .j y2.2.2.2.2.2.1, .j y2.2.2.2.2.2.2.1, .str y2.2.2.2.2.2.2.2.1, .str y2.2.2.2.2.2.2.2.2.1, .str y2.2.2.2.2.2.2.2.2.2], 0⟩]) (fun y => y7 = y) (fun _ _ _ _ g h => RW.gh g h) ?_ ?_
 ·refine RW.blk ?_
  refine RW.iter (σ := Bool × Int × Int × Int × Int × Int × Int × Int × (List UInt8) × (List UInt8) × (List UInt8)) ey7 (fun s1 => [(1, .fn 163 [.ptr 0 0]), (2, .fn 165 []), (6, .ptr 1 0), (8, .ptr 2 0), (9, .bool s1.1), (13, L_TItem x0), (14, .j (x0.length : Int)), (15, .j s1.2.1)]) (fun s1 => [some ⟨[.j x1], 0⟩, some ⟨[.j 0, .j 0, .j 0, .j 0, .j 0, .j 0, .str [], .str [], .str []], 0⟩, some ⟨[.j s1.2.2.1, .j s1.2.2.2.1, .j s1.2.2.2.2.1, .j s1.2.2.2.2.2.1, .j s1.2.2.2.2.2.2.1, .j s1.2.2.2.2.2.2.2.1, .str s1.2.2.2.2.2.2.2.2.1, .str s1.2.2.2.2.2.2.2.2.2.1, .str s1.2.2.2.2.2.2.2.2.2.2], 0⟩]) (Gh.renN [0, 1, 2] (.cells rfl rfl (.keep .int .nil) (.cells rfl rfl (.keep .int (.keep .int (.keep .int (.keep .int (.keep .int (.keep .int (.keep .str (.keep .str (.keep .str .nil))))))))) (.cells rfl rfl (.keep .int (.keep .int (.keep .int (.keep .int (.keep .int (.keep .int (.keep .str (.keep .str (.keep .str .nil))))))))) .nil))) rfl rfl rfl (.cons rfl (RnL.fn (.cons (.ptr rfl) .nil)) (.cons rfl (RnL.fn .nil) (.cons rfl (.ptr rfl) (.cons rfl (.ptr rfl) (.cons rfl (.dat .bool) (.cons rfl (.dat (ek_TItem.rlst)) (.cons rfl (.dat .int) (.cons rfl (.dat .int) .nil))))))))) (fun s1 B o hS1 hB1 hE1 => ?_)
  unfold S_impl_latest_boxThere_1_bySeq_1 at hS1
  refine RW.sreg ?_
  refine rl.gen rfl rfl fun b hb => ?_
  cases b
  ·have h3 := iteBF hS1 hb
   refine rl.done (RW.seq (RW.cond_f rfl (RW.exit (blkA_eq ?_))))
   cases h3
   exact ⟨_, (hE1 _ rfl).symm, (Gh.renN [0, 1, 2] (.cells rfl rfl (.keep .int .nil) (.cells rfl rfl (.keep .int (.keep .int (.keep .int (.keep .int (.keep .int (.keep .int (.keep .str (.keep .str (.keep .str .nil))))))))) (.cells rfl rfl (.keep .int (.keep .int (.keep .int (.keep .int (.keep .int (.keep .int (.keep .str (.keep .str (.keep .str .nil))))))))) .nil))) rfl rfl rfl (.cons rfl (.ptr rfl) (.cons rfl (.ptr rfl) (.cons rfl (.dat .bool) .nil))))⟩
  ·have h4 := iteBT hS1 hb
   refine rl.done (RW.seq (RW.cond_t rfl (RW.skip (RW.seq (RW.blk (RW.sreg ?_))))))
   obtain ⟨v3, e3, h5⟩ := bindS h4
   refine rl.op (x_ia_lst (enc := enc_TItem) (o := false) rfl rfl rfl e3) ?_
   refine rl.op (x_ld_ela (off' := 0) (vs := (enc_TItem false v3)) ek_TItem rfl e3 rfl rfl rfl) ?_
   refine rl.run 2 rfl (rl.done (RW.seq ?_))
   obtain ⟨y4, ey4, h6⟩ := bindS h5
   refine RW.cutq (σ := Bool) (fun y4 => [(1, .fn 163 [.ptr 0 0]), (2, .fn 165 []), (6, .ptr 1 0), (8, .ptr 2 0), (9, .bool s1.1), (11, .ptr 3 0), (13, L_TItem x0), (14, .j (x0.length : Int)), (15, .j s1.2.1), (32, .bool y4)]) (fun y4 => [some ⟨[.j x1], 0⟩, some ⟨[.j 0, .j 0, .j 0, .j 0, .j 0, .j 0, .str [], .str [], .str []], 0⟩, some ⟨[.j s1.2.2.1, .j s1.2.2.2.1, .j s1.2.2.2.2.1, .j s1.2.2.2.2.2.1, .j s1.2.2.2.2.2.2.1, .j s1.2.2.2.2.2.2.2.1, .str s1.2.2.2.2.2.2.2.2.1, .str s1.2.2.2.2.2.2.2.2.2.1, .str s1.2.2.2.2.2.2.2.2.2.2], 0⟩, some ⟨[.j v3.Seq, .j v3.Rec.Kind, .j v3.Rec.Valid, .j v3.Rec.Uid, .j v3.Rec.Next, .j v3.Rec.Flags, .str v3.Rec.User, .str v3.Rec.Name, .str v3.Rec.Text], 0⟩]) (fun y => y4 = y) (fun _ _ _ _ g h => RW.gh g h) ?_ ?_
   ·refine RW.reg ?_
    refine rl.run 3 rfl ?_
    obtain ⟨v5, e5, h7⟩ := bindS ey4
    refine rl.call rfl rfl rfl (CallW.embR [0] ok_impl_boxThere_1 (law_impl_boxThere_1_w e5) (.cells rfl rfl (.keep .int .nil) .nil) rfl rfl (.cons (RnL.agg (.cons (.dat .int) (.cons (.dat .int) (.cons (.dat .int) (.cons (.dat .int) (.cons (.dat .int) (.cons (.dat .str) (.cons (.dat .str) (.cons (.dat .str) .nil))))))))) (.cons (.ptr rfl) .nil)) .bool ?_)
    cases hb : v5
    ·have h8 := iteBF h7 hb
     refine rl.run 10 rfl (rl.done ?_)
     cases h8
     exact ⟨_, rfl, (Gh.renN [0, 1, 2, 3] (.cells rfl rfl (.keep .int .nil) (.cells rfl rfl (.keep .int (.keep .int (.keep .int (.keep .int (.keep .int (.keep .int (.keep .str (.keep .str (.keep .str .nil))))))))) (.cells rfl rfl (.keep .int (.keep .int (.keep .int (.keep .int (.keep .int (.keep .int (.keep .str (.keep .str (.keep .str .nil))))))))) (.cells rfl rfl (.keep .int (.keep .int (.keep .int (.keep .int (.keep .int (.keep .int (.keep .str (.keep .str (.keep .str .nil))))))))) .nil)))) rfl rfl rfl (.cons rfl (RnL.fn (.cons (.ptr rfl) .nil)) (.cons rfl (RnL.fn .nil) (.cons rfl (.ptr rfl) (.cons rfl (.ptr rfl) (.cons rfl (.dat .bool) (.cons rfl (.ptr rfl) (.cons rfl (.dat (ek_TItem.rlst)) (.cons rfl (.dat .int) (.cons rfl (.dat .int) (.cons rfl (.dat .bool) .nil)))))))))))⟩
    ·have h9 := iteBT h7 hb
     refine rl.run 4 rfl ?_
     cases hb : (!s1.1)
     ·have h10 := iteBF h9 hb
      refine rl.run 3 rfl ?_
      obtain ⟨v6, e6, h11⟩ := bindS h10
      refine rl.call rfl rfl rfl (CallW.val (r' := .bool v6) ok_impl_bySeq (law_impl_bySeq e6) (.cons (DFL.agg (.cons .int (.cons .int (.cons .int (.cons .int (.cons .int (.cons .int (.cons .str (.cons .str (.cons .str .nil)))))))))) (.cons (DFL.agg (.cons .int (.cons .int (.cons .int (.cons .int (.cons .int (.cons .int (.cons .str (.cons .str (.cons .str .nil)))))))))) .nil)) .refl ?_)
      cases hb : v6
      ·have h12 := iteBF h11 hb
       refine rl.run 2 rfl (rl.done ?_)
       cases h12
       exact ⟨_, rfl, (Gh.renN [0, 1, 2, 3] (.cells rfl rfl (.keep .int .nil) (.cells rfl rfl (.keep .int (.keep .int (.keep .int (.keep .int (.keep .int (.keep .int (.keep .str (.keep .str (.keep .str .nil))))))))) (.cells rfl rfl (.keep .int (.keep .int (.keep .int (.keep .int (.keep .int (.keep .int (.keep .str (.keep .str (.keep .str .nil))))))))) (.cells rfl rfl (.keep .int (.keep .int (.keep .int (.keep .int (.keep .int (.keep .int (.keep .str (.keep .str (.keep .str .nil))))))))) .nil)))) rfl rfl rfl (.cons rfl (RnL.fn (.cons (.ptr rfl) .nil)) (.cons rfl (RnL.fn .nil) (.cons rfl (.ptr rfl) (.cons rfl (.ptr rfl) (.cons rfl (.dat .bool) (.cons rfl (.ptr rfl) (.cons rfl (.dat (ek_TItem.rlst)) (.cons rfl (.dat .int) (.cons rfl (.dat .int) (.cons rfl (.dat .bool) .nil)))))))))))⟩
      ·have h13 := iteBT h11 hb
       refine rl.run 2 rfl (rl.done ?_)
       cases h13
       exact ⟨_, rfl, (Gh.renN [0, 1, 2, 3] (.cells rfl rfl (.keep .int .nil) (.cells rfl rfl (.keep .int (.keep .int (.keep .int (.keep .int (.keep .int (.keep .int (.keep .str (.keep .str (.keep .str .nil))))))))) (.cells rfl rfl (.keep .int (.keep .int (.keep .int (.keep .int (.keep .int (.keep .int (.keep .str (.keep .str (.keep .str .nil))))))))) (.cells rfl rfl (.keep .int (.keep .int (.keep .int (.keep .int (.keep .int (.keep .int (.keep .str (.keep .str (.keep .str .nil))))))))) .nil)))) rfl rfl rfl (.cons rfl (RnL.fn (.cons (.ptr rfl) .nil)) (.cons rfl (RnL.fn .nil) (.cons rfl (.ptr rfl) (.cons rfl (.ptr rfl) (.cons rfl (.dat .bool) (.cons rfl (.ptr rfl) (.cons rfl (.dat (ek_TItem.rlst)) (.cons rfl (.dat .int) (.cons rfl (.dat .int) (.cons rfl (.dat .bool) .nil)))))))))))⟩
     ·have h14 := iteBT h9 hb
      refine rl.run 6 rfl (rl.done ?_)
      cases h14
      exact ⟨_, rfl, (Gh.renN [0, 1, 2, 3] (.cells rfl rfl (.keep .int .nil) (.cells rfl rfl (.keep .int (.keep .int (.keep .int (.keep .int (.keep .int (.keep .int (.keep .str (.keep .str (.keep .str .nil))))))))) (.cells rfl rfl (.keep .int (.keep .int (.keep .int (.keep .int (.keep .int (.keep .int (.keep .str (.keep .str (.keep .str .nil))))))))) (.cells rfl rfl (.keep .int (.keep .int (.keep .int (.keep .int (.keep .int (.keep .int (.keep .str (.keep .str (.keep .str .nil))))))))) .nil)))) rfl rfl rfl (.cons rfl (RnL.fn (.cons (.ptr rfl) .nil)) (.cons rfl (RnL.fn .nil) (.cons rfl (.ptr rfl) (.cons rfl (.ptr rfl) (.cons rfl (.dat .bool) (.cons rfl (.ptr rfl) (.cons rfl (.dat (ek_TItem.rlst)) (.cons rfl (.dat .int) (.cons rfl (.dat .int) (.cons rfl (.dat .bool) .nil)))))))))))⟩
   ·intro y hC
    subst hC
    cases hb : y4
    ·have h15 := iteBF h6 hb
     refine RW.cond_f rfl (RW.skip (RW.reg (rl.run 2 rfl (rl.done ?_))))
     cases h15
     exact hB1 _ rfl _ _ (Gh.renN [0, 1, 2] (.cells rfl rfl (.keep .int .nil) (.cells rfl rfl (.keep .int (.keep .int (.keep .int (.keep .int (.keep .int (.keep .int (.keep .str (.keep .str (.keep .str .nil))))))))) (.cells rfl rfl (.keep .int (.keep .int (.keep .int (.keep .int (.keep .int (.keep .int (.keep .str (.keep .str (.keep .str .nil))))))))) .nil))) rfl rfl rfl (.cons rfl (RnL.fn (.cons (.ptr rfl) .nil)) (.cons rfl (RnL.fn .nil) (.cons rfl (.ptr rfl) (.cons rfl (.ptr rfl) (.cons rfl (.dat .bool) (.cons rfl (.dat (ek_TItem.rlst)) (.cons rfl (.dat .int) (.cons rfl (.dat .int) .nil)))))))))
    ·have h16 := iteBT h6 hb
     refine RW.cond_t rfl (RW.reg (rl.run 3 rfl (rl.done (RW.reg (rl.run 2 rfl (rl.done ?_))))))
     cases h16
     exact hB1 _ rfl _ _ (Gh.renN [0, 1, 2] (.cells rfl rfl (.keep .int .nil) (.cells rfl rfl (.keep .int (.keep .int (.keep .int (.keep .int (.keep .int (.keep .int (.keep .str (.keep .str (.keep .str .nil))))))))) (.cells rfl rfl (.keep .int (.keep .int (.keep .int (.keep .int (.keep .int (.keep .int (.keep .str (.keep .str (.keep .str .nil))))))))) .nil))) rfl rfl rfl (.cons rfl (RnL.fn (.cons (.ptr rfl) .nil)) (.cons rfl (RnL.fn .nil) (.cons rfl (.ptr rfl) (.cons rfl (.ptr rfl) (.cons rfl (.dat .bool) (.cons rfl (.dat (ek_TItem.rlst)) (.cons rfl (.dat .int) (.cons rfl (.dat .int) .nil)))))))))
 ·intro y2 hC
  subst hC
  refine RW.sreg (rl.run 4 rfl (rl.done (RW.ret ?_)))
  cases h2
  exact RRetS.mk rfl (.tup (fac (.agg (sc_TItem _ _)) (fac .bool fan))) (Gh.renN [0] (.cells rfl rfl (.keep .int .nil) .nil) rfl rfl rfl .nil)
theorem law_impl_boxThere_2_w {x0 : TRec} {x1 : Int} {r : Bool} (hF : F_impl_boxThere_2_w x0 x1 = some r) : ACalls Tryz.prog 1 166 [.agg (enc_TRec false x0), .ptr 0 0] [some ⟨[.j x1], 0⟩] (.bool r) [some ⟨[.j x1], 0⟩] := by
 refine ACalls.of_s k_impl_boxThere_2 rfl ?_
 unfold F_impl_boxThere_2_w at hF
 refine RW.sreg (rl.run 2 rfl (rl.done (RW.sreg (rl.run 2 rfl ?_))))
 obtain ⟨v1, e1, h1⟩ := bindS hF
 refine rl.call rfl rfl rfl (CallW.val (r' := .bool v1) ok_impl_about (law_impl_about e1) (.cons (DFL.agg (.cons .int (.cons .int (.cons .int (.cons .int (.cons .int (.cons .str (.cons .str (.cons .str .nil))))))))) (.cons .int (.cons .int .nil))) .refl ?_)
 refine rl.run 1 rfl (rl.done (RW.ret ?_))
 cases h1
 exact RRetS.mk rfl .bool (Gh.renN [0] (.cells rfl rfl (.keep .int .nil) .nil) rfl rfl rfl .nil)
theorem law_impl_byNext {x0 : TItem} {x1 : TItem} {r : Bool} (hF : F_impl_byNext x0 x1 = some r) : PCalls Tryz.prog 167 [.agg (enc_TItem false x0), .agg (enc_TItem false x1)] (.bool r) := by
 refine PCalls.of_r k_impl_byNext rfl ?_
 unfold F_impl_byNext at hF
 refine RW.sreg (rl.run 3 rfl (rl.done (RW.seq (RW.sreg (rl.run 6 rfl ?_)))))
 refine rl.gen rfl rfl fun b hb => ?_
 cases b
 ·have h1 := iteBF hF hb
  refine rl.done (RW.cond_f rfl (RW.skip (RW.sreg (rl.run 6 rfl (rl.done ?_)))))
  refine RW.kp [4] [(4, .bool (decide (x0.Seq < x1.Seq)))] [some ⟨[.j x0.Seq, .j x0.Rec.Kind, .j x0.Rec.Valid, .j x0.Rec.Uid, .j x0.Rec.Next, .j x0.Rec.Flags, .str x0.Rec.User, .str x0.Rec.Name, .str x0.Rec.Text], 0⟩, some ⟨[.j x1.Seq, .j x1.Rec.Kind, .j x1.Rec.Valid, .j x1.Rec.Uid, .j x1.Rec.Next, .j x1.Rec.Flags, .str x1.Rec.User, .str x1.Rec.Name, .str x1.Rec.Text], 0⟩] rfl rfl ?_
  refine RW.ret ?_
  cases h1
  exact RRet.mk rfl .bool (by first | decide | simp)
 ·have h2 := iteBT hF hb
  refine rl.done (RW.cond_t rfl (RW.sreg (rl.run 8 rfl (rl.done ?_))))
  refine RW.kp [4] [(4, .bool (decide (x0.Rec.Next < x1.Rec.Next)))] [some ⟨[.j x0.Seq, .j x0.Rec.Kind, .j x0.Rec.Valid, .j x0.Rec.Uid, .j x0.Rec.Next, .j x0.Rec.Flags, .str x0.Rec.User, .str x0.Rec.Name, .str x0.Rec.Text], 0⟩, some ⟨[.j x1.Seq, .j x1.Rec.Kind, .j x1.Rec.Valid, .j x1.Rec.Uid, .j x1.Rec.Next, .j x1.Rec.Flags, .str x1.Rec.User, .str x1.Rec.Name, .str x1.Rec.Text], 0⟩] rfl rfl ?_
  refine RW.ret ?_
  cases h2
  exact RRet.mk rfl .bool (by first | decide | simp)
theorem law_impl_latest_boxThere_2_byNext {x0 : List TItem} {x1 : Int} {r : TItem × Bool} (hF : F_impl_latest_boxThere_2_byNext x0 x1 = some r) : ACalls Tryz.prog 1 162 [L_TItem x0, .fn 166 [.ptr 0 0], .fn 167 []] [some ⟨[.j x1], 0⟩] (.tup [.agg (enc_TItem true r.1), .bool r.2]) [some ⟨[.j x1], 0⟩] := by
 refine ACalls.of_s k_impl_latest rfl ?_
 unfold F_impl_latest_boxThere_2_byNext at hF
 refine RW.sreg (rl.run 2 rfl (rl.done (RW.sreg (rl.run 4 rfl (rl.done (RW.seq (RW.sreg (rl.run 3 rfl (rl.done ?_)))))))))
 obtain ⟨y7, ey7, h2⟩ := bindS hF
 refine RW.cutq (σ := Bool × Int × Int × Int × Int × Int × Int × (List UInt8) × (List UInt8) × (List UInt8)) (fun y2 => [(6, .ptr 1 0), (8, .ptr 2 0), (9, .bool y2.1)]) (fun y2 => [some ⟨[.j x1], 0⟩, some ⟨[.j 0, .j 0, .j 0, .j 0, .j 0, .j 0, .str [], .str [], .str []], 0⟩, some ⟨[.j y2.2.1, .j y2.2.2.1, .j y2.2.2.2.1, .j y2.2.2.2.2.1, .j y2.2.2.2.2.2.1, .j y2.2.2.2.2.2.2.1, .str y2.2.2.2.2.2.2.2.1, .str y2.2.2.2.2.2.2.2.2.1, .str y2.2.2.2.2.2.2.2.2.2], 0⟩]) (fun y => y7 = y) (fun _ _ _ _ g h => RW.gh g h) ?_ ?_
 ·refine RW.blk ?_
  refine RW.iter (σ := Bool × Int × Int × Int × Int × Int × Int × Int × (List UInt8) × (List UInt8) × (List UInt8)) ey7 (fun s1 => [(1, .fn 166 [.ptr 0 0]), (2, .fn 167 []), (6, .ptr 1 0), (8, .ptr 2 0), (9, .bool s1.1), (13, L_TItem x0), (14, .j (x0.length : Int)), (15, .j s1.2.1)]) (fun s1 => [some ⟨[.j x1], 0⟩, some ⟨[.j 0, .j 0, .j 0, .j 0, .j 0, .j 0, .str [], .str [], .str []], 0⟩, some ⟨[.j s1.2.2.1, .j s1.2.2.2.1, .j s1.2.2.2.2.1, .j s1.2.2.2.2.2.1, .j s1.2.2.2.2.2.2.1, .j s1.2.2.2.2.2.2.2.1, .str s1.2.2.2.2.2.2.2.2.1, .str s1.2.2.2.2.2.2.2.2.2.1, .str s1.2.2.2.2.2.2.2.2.2.2], 0⟩]) (Gh.renN [0, 1, 2] (.cells rfl rfl (.keep .int .nil) (.cells rfl rfl (.keep .int (.keep .int (.keep .int (.keep .int (.keep .int (.keep .int (.keep .str (.keep .str (.keep .str .nil))))))))) (.cells rfl rfl (.keep .int (.keep .int (.keep .int (.keep .int (.keep .int (.keep .int (.keep .str (.keep .str (.keep .str .nil))))))))) .nil))) rfl rfl rfl (.cons rfl (RnL.fn (.cons (.ptr rfl) .nil)) (.cons rfl (RnL.fn .nil) (.cons rfl (.ptr rfl) (.cons rfl (.ptr rfl) (.cons rfl (.dat .bool) (.cons rfl (.dat (ek_TItem.rlst)) (.cons rfl (.dat .int) (.cons rfl (.dat .int) .nil))))))))) (fun s1 B o hS1 hB1 hE1 => ?_)
  unfold S_impl_latest_boxThere_2_byNext_1 at hS1
  refine RW.sreg ?_
  refine rl.gen rfl rfl fun b hb => ?_
  cases b
  ·have h3 := iteBF hS1 hb
   refine rl.done (RW.seq (RW.cond_f rfl (RW.exit (blkA_eq ?_))))
   cases h3
   exact ⟨_, (hE1 _ rfl).symm, (Gh.renN [0, 1, 2] (.cells rfl rfl (.keep .int .nil) (.cells rfl rfl (.keep .int (.keep .int (.keep .int (.keep .int (.keep .int (.keep .int (.keep .str (.keep .str (.keep .str .nil))))))))) (.cells rfl rfl (.keep .int (.keep .int (.keep .int (.keep .int (.keep .int (.keep .int (.keep .str (.keep .str (.keep .str .nil))))))))) .nil))) rfl rfl rfl (.cons rfl (.ptr rfl) (.cons rfl (.ptr rfl) (.cons rfl (.dat .bool) .nil))))⟩
  ·have h4 := iteBT hS1 hb
   refine rl.done (RW.seq (RW.cond_t rfl (RW.skip (RW.seq (RW.blk (RW.sreg ?_))))))
   obtain ⟨v3, e3, h5⟩ := bindS h4
   refine rl.op (x_ia_lst (enc := enc_TItem) (o := false) rfl rfl rfl e3) ?_
   refine rl.op (x_ld_ela (off' := 0) (vs := (enc_TItem false v3)) ek_TItem rfl e3 rfl rfl rfl) ?_
   refine rl.run 2 rfl (rl.done (RW.seq ?_))
   obtain ⟨y4, ey4, h6⟩ := bindS h5
   refine RW.cutq (σ := Bool) (fun y4 => [(1, .fn 166 [.ptr 0 0]), (2, .fn 167 []), (6, .ptr 1 0), (8, .ptr 2 0), (9, .bool s1.1), (11, .ptr 3 0), (13, L_TItem x0), (14, .j (x0.length : Int)), (15, .j s1.2.1), (32, .bool y4)]) (fun y4 => [some ⟨[.j x1], 0⟩, some ⟨[.j 0, .j 0, .j 0, .j 0, .j 0, .j 0, .str [], .str [], .str []], 0⟩, some ⟨[.j s1.2.2.1, .j s1.2.2.2.1, .j s1.2.2.2.2.1, .j s1.2.2.2.2.2.1, .j s1.2.2.2.2.2.2.1, .j s1.2.2.2.2.2.2.2.1, .str s1.2.2.2.2.2.2.2.2.1, .str s1.2.2.2.2.2.2.2.2.2.1, .str s1.2.2.2.2.2.2.2.2.2.2], 0⟩, some ⟨[.j v3.Seq, .j v3.Rec.Kind, .j v3.Rec.Valid, .j v3.Rec.Uid, .j v3.Rec.Next, .j v3.Rec.Flags, .str v3.Rec.User, .str v3.Rec.Name, .str v3.Rec.Text], 0⟩]) (fun y => y4 = y) (fun _ _ _ _ g h => RW.gh g h) ?_ ?_
   ·refine RW.reg ?_
    refine rl.run 3 rfl ?_
    obtain ⟨v5, e5, h7⟩ := bindS ey4
    refine rl.call rfl rfl rfl (CallW.embR [0] ok_impl_boxThere_2 (law_impl_boxThere_2_w e5) (.cells rfl rfl (.keep .int .nil) .nil) rfl rfl (.cons (RnL.agg (.cons (.dat .int) (.cons (.dat .int) (.cons (.dat .int) (.cons (.dat .int) (.cons (.dat .int) (.cons (.dat .str) (.cons (.dat .str) (.cons (.dat .str) .nil))))))))) (.cons (.ptr rfl) .nil)) .bool ?_)
    cases hb : v5
    ·have h8 := iteBF h7 hb
     refine rl.run 10 rfl (rl.done ?_)
     cases h8
     exact ⟨_, rfl, (Gh.renN [0, 1, 2, 3] (.cells rfl rfl (.keep .int .nil) (.cells rfl rfl (.keep .int (.keep .int (.keep .int (.keep .int (.keep .int (.keep .int (.keep .str (.keep .str (.keep .str .nil))))))))) (.cells rfl rfl (.keep .int (.keep .int (.keep .int (.keep .int (.keep .int (.keep .int (.keep .str (.keep .str (.keep .str .nil))))))))) (.cells rfl rfl (.keep .int (.keep .int (.keep .int (.keep .int (.keep .int (.keep .int (.keep .str (.keep .str (.keep .str .nil))))))))) .nil)))) rfl rfl rfl (.cons rfl (RnL.fn (.cons (.ptr rfl) .nil)) (.cons rfl (RnL.fn .nil) (.cons rfl (.ptr rfl) (.cons rfl (.ptr rfl) (.cons rfl (.dat .bool) (.cons rfl (.ptr rfl) (.cons rfl (.dat (ek_TItem.rlst)) (.cons rfl (.dat .int) (.cons rfl (.dat .int) (.cons rfl (.dat .bool) .nil)))))))))))⟩
    ·have h9 := iteBT h7 hb
     refine rl.run 4 rfl ?_
     cases hb : (!s1.1)
     ·have h10 := iteBF h9 hb
      refine rl.run 3 rfl ?_
      obtain ⟨v6, e6, h11⟩ := bindS h10
      refine rl.call rfl rfl rfl (CallW.val (r' := .bool v6) ok_impl_byNext (law_impl_byNext e6) (.cons (DFL.agg (.cons .int (.cons .int (.cons .int (.cons .int (.cons .int (.cons .int (.cons .str (.cons .str (.cons .str .nil)))))))))) (.cons (DFL.agg (.cons .int (.cons .int (.cons .int (.cons .int (.cons .int (.cons .int (.cons .str (.cons .str (.cons .str .nil)))))))))) .nil)) .refl ?_)
      cases hb : v6
      ·have h12 := iteBF h11 hb
       refine rl.run 2 rfl (rl.done ?_)
       cases h12
       exact ⟨_, rfl, (Gh.renN [0, 1, 2, 3] (.cells rfl rfl (.keep .int .nil) (.cells rfl rfl (.keep .int (.keep .int (.keep .int (.keep .int (.keep .int (.keep .int (.keep .str (.keep .str (.keep .str .nil))))))))) (.cells rfl rfl (.keep .int (.keep .int (.keep .int (.keep .int (.keep .int (.keep .int (.keep .str (.keep .str (.keep .str .nil))))))))) (.cells rfl rfl (.keep .int (.keep .int (.keep .int (.keep .int (.keep .int (.keep .int (.keep .str (.keep .str (.keep .str .nil))))))))) .nil)))) rfl rfl rfl (.cons rfl (RnL.fn (.cons (.ptr rfl) .nil)) (.cons rfl (RnL.fn .nil) (.cons rfl (.ptr rfl) (.cons rfl (.ptr rfl) (.cons rfl (.dat .bool) (.cons rfl (.ptr rfl) (.cons rfl (.dat (ek_TItem.rlst)) (.cons rfl (.dat .int) (.cons rfl (.dat .int) (.cons rfl (.dat .bool) .nil)))))))))))⟩
      ·have h13 := iteBT h11 hb
       refine rl.run 2 rfl (rl.done ?_)
       cases h13
       exact ⟨_, rfl, (Gh.renN [0, 1, 2, 3] (.cells rfl rfl (.keep .int .nil) (.cells rfl rfl (.keep .int (.keep .int (.keep .int (.keep .int (.keep .int (.keep .int (.keep .str (.keep .str (.keep .str .nil))))))))) (.cells rfl rfl (.keep .int (.keep .int (.keep .int (.keep .int (.keep .int (.keep .int (.keep .str (.keep .str (.keep .str .nil))))))))) (.cells rfl rfl (.keep .int (.keep .int (.keep .int (.keep .int (.keep .int (.keep .int (.keep .str (.keep .str (.keep .str .nil))))))))) .nil)))) rfl rfl rfl (.cons rfl (RnL.fn (.cons (.ptr rfl) .nil)) (.cons rfl (RnL.fn .nil) (.cons rfl (.ptr rfl) (.cons rfl (.ptr rfl) (.cons rfl (.dat .bool) (.cons rfl (.ptr rfl) (.cons rfl (.dat (ek_TItem.rlst)) (.cons rfl (.dat .int) (.cons rfl (.dat .int) (.cons rfl (.dat .bool) .nil)))))))))))⟩
     ·have h14 := iteBT h9 hb
      refine rl.run 6 rfl (rl.done ?_)
      cases h14
      exact ⟨_, rfl, (Gh.renN [0, 1, 2, 3] (.cells rfl rfl (.keep .int .nil) (.cells rfl rfl (.keep .int (.keep .int (.keep .int (.keep .int (.keep .int (.keep .int (.keep .str (.keep .str (.keep .str .nil))))))))) (.cells rfl rfl (.keep .int (.keep .int (.keep .int (.keep .int (.keep .int (.keep .int (.keep .str (.keep .str (.keep .str .nil))))))))) (.cells rfl rfl (.keep .int (.keep .int (.keep .int (.keep .int (.keep .int (.keep .int (.keep .str (.keep .str (.keep .str .nil))))))))) .nil)))) rfl rfl rfl (.cons rfl (RnL.fn (.cons (.ptr rfl) .nil)) (.cons rfl (RnL.fn .nil) (.cons rfl (.ptr rfl) (.cons rfl (.ptr rfl) (.cons rfl (.dat .bool) (.cons rfl (.ptr rfl) (.cons rfl (.dat (ek_TItem.rlst)) (.cons rfl (.dat .int) (.cons rfl (.dat .int) (.cons rfl (.dat .bool) .nil)))))))))))⟩
   ·intro y hC
    subst hC
    cases hb : y4
    ·have h15 := iteBF h6 hb
     refine RW.cond_f rfl (RW.skip (RW.reg (rl.run 2 rfl (rl.done ?_))))
     cases h15
     exact hB1 _ rfl _ _ (Gh.renN [0, 1, 2] (.cells rfl rfl (.keep .int .nil) (.cells rfl rfl (.keep .int (.keep .int (.keep .int (.keep .int (.keep .int (.keep .int (.keep .str (.keep .str (.keep .str .nil))))))))) (.cells rfl rfl (.keep .int (.keep .int (.keep .int (.keep .int (.keep .int (.keep .int (.keep .str (.keep .str (.keep .str .nil))))))))) .nil))) rfl rfl rfl (.cons rfl (RnL.fn (.cons (.ptr rfl) .nil)) (.cons rfl (RnL.fn .nil) (.cons rfl (.ptr rfl) (.cons rfl (.ptr rfl) (.cons rfl (.dat .bool) (.cons rfl (.dat (ek_TItem.rlst)) (.cons rfl (.dat .int) (.cons rfl (.dat .int) .nil)))))))))
    ·have h16 := iteBT h6 hb
     refine RW.cond_t rfl (RW.reg (rl.run 3 rfl (rl.done (RW.reg (rl.run 2 rfl (rl.done ?_))))))
     cases h16
     exact hB1 _ rfl _ _ (Gh.renN [0, 1, 2] (.cells rfl rfl (.keep .int .nil) (.cells rfl rfl (.keep .int (.keep .int (.keep .int (.keep .int (.keep .int (.keep .int (.keep .str (.keep .str (.keep .str .nil))))))))) (.cells rfl rfl (.keep .int (.keep .int (.keep .int (.keep .int (.keep .int (.keep .int (.keep .str (.keep .str (.keep .str .nil))))))))) .nil))) rfl rfl rfl (.cons rfl (RnL.fn (.cons (.ptr rfl) .nil)) (.cons rfl (RnL.fn .nil) (.cons rfl (.ptr rfl) (.cons rfl (.ptr rfl) (.cons rfl (.dat .bool) (.cons rfl (.dat (ek_TItem.rlst)) (.cons rfl (.dat .int) (.cons rfl (.dat .int) .nil)))))))))
 ·intro y2 hC
  subst hC
  refine RW.sreg (rl.run 4 rfl (rl.done (RW.ret ?_)))
  cases h2
  exact RRetS.mk rfl (.tup (fac (.agg (sc_TItem _ _)) (fac .bool fan))) (Gh.renN [0] (.cells rfl rfl (.keep .int .nil) .nil) rfl rfl rfl .nil)
theorem law_impl_boxThere {x0 : List TItem} {x1 : Int} {r : TItem × Bool} (hF : F_impl_boxThere x0 x1 = some r) : PCalls Tryz.prog 104 [L_TItem x0, .j x1] (.tup [.agg (enc_TItem true r.1), .bool r.2]) := by
 refine PCalls.of_r k_impl_boxThere rfl ?_
 unfold F_impl_boxThere at hF
 refine RW.sreg (rl.run 3 rfl (rl.done (RW.seq (RW.sreg (rl.run 2 rfl ?_)))))
 obtain ⟨v1, e1, h1⟩ := bindS hF
 refine rl.call rfl rfl rfl (CallW.embR [0] ok_impl_latest (law_impl_latest_boxThere_1_bySeq e1) (.cells rfl rfl (.keep .int .nil) .nil) rfl rfl (.cons (.dat (ek_TItem.rlst)) (.cons (RnL.fn (.cons (.ptr rfl) .nil)) (.cons (RnL.fn .nil) .nil))) (.tup (fac (.agg (sc_TItem _ _)) (fac .bool fan))) ?_)
 refine rl.run 6 rfl (rl.done (RW.sreg (rl.run 1 rfl (rl.done ?_))))
 cases hb : v1.2
 ·have h2 := iteBF h1 hb
  refine RW.cond_f rfl (RW.skip (RW.sreg (rl.run 2 rfl ?_)))
  obtain ⟨v2, e2, h3⟩ := bindS h2
  refine rl.call rfl rfl rfl (CallW.embR [0] ok_impl_latest (law_impl_latest_boxThere_2_byNext e2) (.cells rfl rfl (.keep .int .nil) .nil) rfl rfl (.cons (.dat (ek_TItem.rlst)) (.cons (RnL.fn (.cons (.ptr rfl) .nil)) (.cons (RnL.fn .nil) .nil))) (.tup (fac (.agg (sc_TItem _ _)) (fac .bool fan))) ?_)
  refine rl.run 4 rfl (rl.done ?_)
  refine RW.kp [4, 5] [(4, .ptr 1 0), (5, .bool v2.2)] [some ⟨[.j x1], 0⟩, some ⟨[.j v2.1.Seq, .j v2.1.Rec.Kind, .j v2.1.Rec.Valid, .j v2.1.Rec.Uid, .j v2.1.Rec.Next, .j v2.1.Rec.Flags, .str v2.1.Rec.User, .str v2.1.Rec.Name, .str v2.1.Rec.Text], 0⟩, some ⟨[.j v1.1.Seq, .j v1.1.Rec.Kind, .j v1.1.Rec.Valid, .j v1.1.Rec.Uid, .j v1.1.Rec.Next, .j v1.1.Rec.Flags, .str v1.1.Rec.User, .str v1.1.Rec.Name, .str v1.1.Rec.Text], 0⟩] rfl rfl ?_
  refine RW.ret ?_
  cases h3
  exact RRet.mk rfl (OutT.tup (.cons (OutL.agg (.cons .int rfl (.cons .int rfl (.cons .int rfl (.cons .int rfl (.cons .int rfl (.cons .int rfl (.cons .str rfl (.cons .str rfl (.cons .str rfl .nil)))))))))) (.cons .bool .nil))) (by first | decide | simp)
 ·have h4 := iteBT h1 hb
  refine RW.cond_t rfl (RW.sreg (rl.run 3 rfl (rl.done ?_)))
  refine RW.kp [4, 5] [(4, .ptr 1 0), (5, .bool false)] [some ⟨[.j x1], 0⟩, some ⟨[.j 0, .j 0, .j 0, .j 0, .j 0, .j 0, .str [], .str [], .str []], 0⟩, some ⟨[.j v1.1.Seq, .j v1.1.Rec.Kind, .j v1.1.Rec.Valid, .j v1.1.Rec.Uid, .j v1.1.Rec.Next, .j v1.1.Rec.Flags, .str v1.1.Rec.User, .str v1.1.Rec.Name, .str v1.1.Rec.Text], 0⟩] rfl rfl ?_
  refine RW.ret ?_
  cases h4
  exact RRet.mk rfl (OutT.tup (.cons (OutL.agg (.cons .int rfl (.cons .int rfl (.cons .int rfl (.cons .int rfl (.cons .int rfl (.cons .int rfl (.cons .str rfl (.cons .str rfl (.cons .str rfl .nil)))))))))) (.cons .bool .nil))) (by first | decide | simp)
theorem law_impl_boxState_1_w {x0 : TRec} {x1c0 : Int} {r : Int × Bool} (hF : F_impl_boxState_1_w x0 x1c0 = some r) : PCalls Tryz.prog 168 [.agg (enc_TRec false x0), .el [.j x1c0] 0] (.tup [.j r.1, .bool r.2]) := by
 refine PCalls.of_r k_impl_boxState_1 rfl ?_
 unfold F_impl_boxState_1_w at hF
 refine RW.sreg (rl.run 3 rfl (rl.done (RW.sdrw (rdraw.op rfl rfl (rdraw.op rfl rfl (rdraw.op rfl rfl (rdraw.op rfl rfl ?_)))))))
 obtain ⟨v1, e1, h1⟩ := bindS hF
 refine rdraw.call rfl rfl rfl (CallW.val (r' := .bool v1) ok_impl_about (law_impl_about e1) (.cons (DFL.agg (.cons .int (.cons .int (.cons .int (.cons .int (.cons .int (.cons .str (.cons .str (.cons .str .nil))))))))) (.cons .int (.cons .int .nil))) .refl ⟨rfl, ?_⟩)
 cases hb : v1
 ·have h2 := iteBF h1 hb
  refine rdraw.op rfl rfl (rdraw.op rfl rfl (rdraw.op rfl rfl ?_))
  obtain ⟨v2, e2, h3⟩ := bindS h2
  refine rdraw.call rfl rfl rfl (CallW.val (r' := .bool v2) ok_impl_about (law_impl_about e2) (.cons (DFL.agg (.cons .int (.cons .int (.cons .int (.cons .int (.cons .int (.cons .str (.cons .str (.cons .str .nil))))))))) (.cons .int (.cons .int .nil))) .refl ⟨rfl, ?_⟩)
  refine rdraw.op rfl rfl (rdraw.op rfl rfl (rdraw.op rfl rfl (rdraw.done ?_)))
  refine RW.kp [3, 4] [(3, .j x0.Uid), (4, .bool v2)] [some ⟨[.j x0.Kind, .j x0.Valid, .j x0.Uid, .j x0.Next, .j x0.Flags, .str x0.User, .str x0.Name, .str x0.Text], 0⟩] rfl rfl ?_
  refine RW.ret ?_
  cases h3
  exact RRet.mk rfl (OutT.tup (.cons .int (.cons .bool .nil))) (by first | decide | simp)
 ·have h4 := iteBT h1 hb
  refine rdraw.op rfl rfl (rdraw.off rfl (rdraw.off rfl (rdraw.off rfl (rdraw.op rfl rfl (rdraw.op rfl rfl (rdraw.op rfl rfl (rdraw.done ?_)))))))
  refine RW.kp [3, 4] [(3, .j x0.Uid), (4, .bool true)] [some ⟨[.j x0.Kind, .j x0.Valid, .j x0.Uid, .j x0.Next, .j x0.Flags, .str x0.User, .str x0.Name, .str x0.Text], 0⟩] rfl rfl ?_
  refine RW.ret ?_
  cases h4
  exact RRet.mk rfl (OutT.tup (.cons .int (.cons .bool .nil))) (by first | decide | simp)
theorem law_impl_numbers_boxState_1 {x0 : List TItem} {x1ac0 : Int} {r : List Int} (hF : F_impl_numbers_boxState_1 x0 x1ac0 = some r) : PCalls Tryz.prog 102 [L_TItem x0, .fn 168 [.el [.j x1ac0] 0]] (.lst true 1 (fl (encI true) r) r.length) := by
 refine PCalls.of_r k_impl_numbers rfl ?_
 unfold F_impl_numbers_boxState_1 at hF
 refine RW.sreg (rl.run 1 rfl (rl.done (RW.sreg (rl.run 2 rfl (rl.done (RW.seq (RW.sreg (rl.run 3 rfl (rl.done ?_)))))))))
 refine RW.gh (Gh.nil_t 5 1 rfl) ?_
 obtain ⟨y6, ey6, h2⟩ := bindS hF
 refine RW.cutq (σ := (List Int)) (fun y2 => [(5, .sl 0 0 y2.length)]) (fun y2 => [some ⟨fl (encI true) y2, 1⟩]) (fun y => y6 = y) (fun _ _ _ _ g h => RW.gh g h) ?_ ?_
 ·refine RW.blk ?_
  refine RW.iter (σ := Int × (List Int)) ey6 (fun s1 => [(1, .fn 168 [.el [.j x1ac0] 0]), (5, .sl 0 0 s1.2.length), (11, L_TItem x0), (12, .j (x0.length : Int)), (13, .j s1.1)]) (fun s1 => [some ⟨fl (encI true) s1.2, 1⟩]) (Gh.ren0 [0] (.same rfl (ekI.fref _ _) .nil) rfl (.cons rfl (RnL.fn (.cons (.dat (.el (fac .int fan))) .nil)) (.cons rfl (.slq rfl rfl) (.cons rfl (.dat (ek_TItem.rlst)) (.cons rfl (.dat .int) (.cons rfl (.dat .int) .nil)))))) (fun s1 B o hS1 hB1 hE1 => ?_)
  unfold S_impl_numbers_boxState_1_1 at hS1
  refine RW.sreg ?_
  refine rl.gen rfl rfl fun b hb => ?_
  cases b
  ·have h3 := iteBF hS1 hb
   refine rl.done (RW.seq (RW.cond_f rfl (RW.exit (blkA_eq ?_))))
   cases h3
   exact ⟨_, (hE1 _ rfl).symm, (Gh.ren0 [0] (.same rfl (ekI.fref _ _) .nil) rfl (.cons rfl (.slq rfl rfl) .nil))⟩
  ·have h4 := iteBT hS1 hb
   refine rl.done (RW.seq (RW.cond_t rfl (RW.skip (RW.seq (RW.blk (RW.sreg ?_))))))
   obtain ⟨v3, e3, h5⟩ := bindS h4
   refine rl.op (x_ia_lst (enc := enc_TItem) (o := false) rfl rfl rfl e3) ?_
   refine rl.op (x_ld_ela (off' := 0) (vs := (enc_TItem false v3)) ek_TItem rfl e3 rfl rfl rfl) ?_
   refine rl.run 2 rfl (rl.done (RW.sreg (rl.run 3 rfl ?_)))
   obtain ⟨v4, e4, h6⟩ := bindS h5
   refine rl.call rfl rfl rfl (CallW.valS (r' := .tup [.j v4.1, .bool v4.2]) ok_impl_boxState_1 (law_impl_boxState_1_w e4) (.cons (.of (DFL.agg (.cons .int (.cons .int (.cons .int (.cons .int (.cons .int (.cons .str (.cons .str (.cons .str .nil)))))))))) (.cons (DS.el (fac .int fan)) .nil)) (FlL.tup (.cons .refl (.cons .refl .nil))) ?_)
   refine rl.run 5 rfl (rl.done ?_)
   refine RW.kp [1, 5, 8, 9, 11, 12, 13] [(1, .fn 168 [.el [.j x1ac0] 0]), (5, .sl 0 0 s1.2.length), (8, .j v4.1), (9, .bool v4.2), (11, L_TItem x0), (12, .j (x0.length : Int)), (13, .j s1.1)] [some ⟨fl (encI true) s1.2, 1⟩, some ⟨[.j v3.Seq, .j v3.Rec.Kind, .j v3.Rec.Valid, .j v3.Rec.Uid, .j v3.Rec.Next, .j v3.Rec.Flags, .str v3.Rec.User, .str v3.Rec.Name, .str v3.Rec.Text], 0⟩] rfl rfl ?_
   refine RW.sreg (rl.run 1 rfl (rl.done ?_))
   cases hb : v4.2
   ·have h7 := iteBF h6 hb
    refine RW.cond_f rfl (RW.skip (RW.reg (rl.run 2 rfl (rl.done ?_))))
    cases h7
    exact hB1 _ rfl _ _ (Gh.ren0 [0] (.same rfl (ekI.fref _ _) .nil) rfl (.cons rfl (RnL.fn (.cons (.dat (.el (fac .int fan))) .nil)) (.cons rfl (.slq rfl rfl) (.cons rfl (.dat (ek_TItem.rlst)) (.cons rfl (.dat .int) (.cons rfl (.dat .int) .nil))))))
   ·have h8 := iteBT h6 hb
    refine RW.cond_t rfl (RW.reg (rl.run 3 rfl ?_))
    obtain ⟨v5, e5, h9⟩ := bindS h8
    refine rl.op (x_app rfl rfl (rapp_sl (l := s1.2) (m := [v4.1]) (o := true) ekI rfl rfl (acont_slq (m := [v4.1]) (o := true) fkI rfl rfl) rfl (fkI.fst _ _) e5)) ?_
    refine rl.run 1 rfl (rl.done (RW.reg (rl.run 2 rfl (rl.done ?_))))
    cases h9
    exact hB1 _ rfl _ _ (Gh.ren0 [3] (.same rfl (ekI.fref _ _) .nil) rfl (.cons rfl (RnL.fn (.cons (.dat (.el (fac .int fan))) .nil)) (.cons rfl (.slq rfl rfl) (.cons rfl (.dat (ek_TItem.rlst)) (.cons rfl (.dat .int) (.cons rfl (.dat .int) .nil))))))
 ·intro y2 hC
  subst hC
  refine RW.sreg (rl.run 1 rfl ?_)
  obtain ⟨v7, e7, h10⟩ := bindS h2
  refine rl.call rfl rfl rfl (CallW.sortI (H' := [some ⟨fl (encI true) v7, 1⟩]) lay_slices_Sort_int e7 rfl rfl rfl rfl ?_)
  refine rl.done (RW.sreg (rl.run 1 rfl ?_))
  obtain ⟨v8, e8, h11⟩ := bindS h10
  refine rl.call rfl rfl rfl (CallW.compI (H' := [some ⟨fl (encI true) v8, 1⟩]) lay_slices_Compact_int e8 rfl ((sort?_length e7)).symm rfl rfl ?_)
  refine rl.run 1 rfl (rl.done (RW.ret ?_))
  cases h11
  exact RRet.mk rfl (OutR.ownq ekI rfl rfl) (by first | decide | simp)
theorem law_impl_mailItem_1_w {x0 : TRec} {x1 : Int} {x2 : Int} {x3 : Int} {r : Bool} (hF : F_impl_mailItem_1_w x0 x1 x2 x3 = some r) : ACalls Tryz.prog 3 202 [.agg (enc_TRec false x0), .ptr 0 0, .ptr 1 0, .ptr 2 0] [some ⟨[.j x1], 0⟩, some ⟨[.j x2], 0⟩, some ⟨[.j x3], 0⟩] (.bool r) [some ⟨[.j x1], 0⟩, some ⟨[.j x2], 0⟩, some ⟨[.j x3], 0⟩] := by
 refine ACalls.of_s k_impl_mailItem_1 rfl ?_
 unfold F_impl_mailItem_1_w at hF
 refine RW.sreg (rl.run 2 rfl (rl.done (RW.sreg (rl.run 3 rfl ?_))))
 obtain ⟨v1, e1, h1⟩ := bindS hF
 refine rl.call rfl rfl rfl (CallW.val (r' := .bool v1) ok_impl_about (law_impl_about e1) (.cons (DFL.agg (.cons .int (.cons .int (.cons .int (.cons .int (.cons .int (.cons .str (.cons .str (.cons .str .nil))))))))) (.cons .int (.cons .int .nil))) .refl ?_)
 cases hb : v1
 ·have h2 := iteBF h1 hb
  refine rl.run 7 rfl (rl.done ?_)
  refine RW.kp [5] [(5, .bool false)] [some ⟨[.j x1], 0⟩, some ⟨[.j x2], 0⟩, some ⟨[.j x3], 0⟩, some ⟨[.j x0.Kind, .j x0.Valid, .j x0.Uid, .j x0.Next, .j x0.Flags, .str x0.User, .str x0.Name, .str x0.Text], 0⟩] rfl rfl ?_
  refine RW.ret ?_
  cases h2
  exact RRetS.mk rfl .bool (Gh.renN [0, 1, 2] (.cells rfl rfl (.keep .int .nil) (.cells rfl rfl (.keep .int .nil) (.cells rfl rfl (.keep .int .nil) .nil))) rfl rfl rfl .nil)
 ·have h3 := iteBT h1 hb
  refine rl.run 7 rfl (rl.done ?_)
  refine RW.kp [5] [(5, .bool (x0.Uid == x3))] [some ⟨[.j x1], 0⟩, some ⟨[.j x2], 0⟩, some ⟨[.j x3], 0⟩, some ⟨[.j x0.Kind, .j x0.Valid, .j x0.Uid, .j x0.Next, .j x0.Flags, .str x0.User, .str x0.Name, .str x0.Text], 0⟩] rfl rfl ?_
  refine RW.ret ?_
  cases h3
  exact RRetS.mk rfl .bool (Gh.renN [0, 1, 2] (.cells rfl rfl (.keep .int .nil) (.cells rfl rfl (.keep .int .nil) (.cells rfl rfl (.keep .int .nil) .nil))) rfl rfl rfl .nil)
theorem law_impl_latest_mailItem_1_bySeq {x0 : List TItem} {x1 : Int} {x2 : Int} {x3 : Int} {r : TItem × Bool} (hF : F_impl_latest_mailItem_1_bySeq x0 x1 x2 x3 = some r) : ACalls Tryz.prog 3 162 [L_TItem x0, .fn 202 [.ptr 0 0, .ptr 1 0, .ptr 2 0], .fn 165 []] [some ⟨[.j x1], 0⟩, some ⟨[.j x2], 0⟩, some ⟨[.j x3], 0⟩] (.tup [.agg (enc_TItem true r.1), .bool r.2]) [some ⟨[.j x1], 0⟩, some ⟨[.j x2], 0⟩, some ⟨[.j x3], 0⟩] := by
 refine ACalls.of_s k_impl_latest rfl ?_
 unfold F_impl_latest_mailItem_1_bySeq at hF
 refine RW.sreg (rl.run 2 rfl (rl.done (RW.sreg (rl.run 4 rfl (rl.done (RW.seq (RW.sreg (rl.run 3 rfl (rl.done ?_)))))))))
 obtain ⟨y7, ey7, h2⟩ := bindS hF
 refine RW.cutq (σ := Bool × Int × Int × Int × Int × Int × Int × (List UInt8) × (List UInt8) × (List UInt8)) (fun y2 => [(6, .ptr 3 0), (8, .ptr 4 0), (9, .bool y2.1)]) (fun y2 => [some ⟨[.j x1], 0⟩, some ⟨[.j x2], 0⟩, some ⟨[.j x3], 0⟩, some ⟨[.j 0, .j 0, .j 0, .j 0, .j 0, .j 0, .str [], .str [], .str []], 0⟩, some ⟨[.j y2.2.1, .j y2.2.2.1, .j y2.2.2.2.1, .j y2.2.2.2.2.1, .j y2.2.2.2.2.2.1, .j y2.2.2.2.2.2.2.1, .str y2.2.2.2.2.2.2.2.1, .str y2.2.2.2.2.2.2.2.2.1, .str y2.2.2.2.2.2.2.2.2.2], 0⟩]) (fun y => y7 = y) (fun _ _ _ _ g h => RW.gh g h) ?_ ?_
 ·refine RW.blk ?_
  refine RW.iter (σ := Bool × Int × Int × Int × Int × Int × Int × Int × (List UInt8) × (List UInt8) × (List UInt8)) ey7 (fun s1 => [(1, .fn 202 [.ptr 0 0, .ptr 1 0, .ptr 2 0]), (2, .fn 165 []), (6, .ptr 3 0), (8, .ptr 4 0), (9, .bool s1.1), (13, L_TItem x0), (14, .j (x0.length : Int)), (15, .j s1.2.1)]) (fun s1 => [some ⟨[.j x1], 0⟩, some ⟨[.j x2], 0⟩, some ⟨[.j x3], 0⟩, some ⟨[.j 0, .j 0, .j 0, .j 0, .j 0, .j 0, .str [], .str [], .str []], 0⟩, some ⟨[.j s1.2.2.1, .j s1.2.2.2.1, .j s1.2.2.2.2.1, .j s1.2.2.2.2.2.1, .j s1.2.2.2.2.2.2.1, .j s1.2.2.2.2.2.2.2.1, .str s1.2.2.2.2.2.2.2.2.1, .str s1.2.2.2.2.2.2.2.2.2.1, .str s1.2.2.2.2.2.2.2.2.2.2], 0⟩]) (Gh.renN [0, 1, 2, 3, 4] (.cells rfl rfl (.keep .int .nil) (.cells rfl rfl (.keep .int .nil) (.cells rfl rfl (.keep .int .nil) (.cells rfl rfl (.keep .int (.keep .int (.keep .int (.keep .int (.keep .int (.keep .int (.keep .str (.keep .str (.keep .str .nil))))))))) (.cells rfl rfl (.keep .int (.keep .int (.keep .int (.keep .int (.keep .int (.keep .int (.keep .str (.keep .str (.keep .str .nil))))))))) .nil))))) rfl rfl rfl (.cons rfl (RnL.fn (.cons (.ptr rfl) (.cons (.ptr rfl) (.cons (.ptr rfl) .nil)))) (.cons rfl (RnL.fn .nil) (.cons rfl (.ptr rfl) (.cons rfl (.ptr rfl) (.cons rfl (.dat .bool) (.cons rfl (.dat (ek_TItem.rlst)) (.cons rfl (.dat .int) (.cons rfl (.dat .int) .nil))))))))) (fun s1 B o hS1 hB1 hE1 => ?_)
  unfold S_impl_latest_mailItem_1_bySeq_1 at hS1
  refine RW.sreg ?_
  refine rl.gen rfl rfl fun b hb => ?_
  cases b
  ·have h3 := iteBF hS1 hb
   refine rl.done (RW.seq (RW.cond_f rfl (RW.exit (blkA_eq ?_))))
   cases h3
   exact ⟨_, (hE1 _ rfl).symm, (Gh.renN [0, 1, 2, 3, 4] (.cells rfl rfl (.keep .int .nil) (.cells rfl rfl (.keep .int .nil) (.cells rfl rfl (.keep .int .nil) (.cells rfl rfl (.keep .int (.keep .int (.keep .int (.keep .int (.keep .int (.keep .int (.keep .str (.keep .str (.keep .str .nil))))))))) (.cells rfl rfl (.keep .int (.keep .int (.keep .int (.keep .int (.keep .int (.keep .int (.keep .str (.keep .str (.keep .str .nil))))))))) .nil))))) rfl rfl rfl (.cons rfl (.ptr rfl) (.cons rfl (.ptr rfl) (.cons rfl (.dat .bool) .nil))))⟩
  ·have h4 := iteBT hS1 hb
   refine rl.done (RW.seq (RW.cond_t rfl (RW.skip (RW.seq (RW.blk (RW.sreg ?_))))))
   obtain ⟨v3, e3, h5⟩ := bindS h4
   refine rl.op (x_ia_lst (enc := enc_TItem) (o := false) rfl rfl rfl e3) ?_
   refine rl.op (x_ld_ela (off' := 0) (vs := (enc_TItem false v3)) ek_TItem rfl e3 rfl rfl rfl) ?_
   refine rl.run 2 rfl (rl.done (RW.seq ?_))
   obtain ⟨y4, ey4, h6⟩ := bindS h5
   refine RW.cutq (σ := Bool) (fun y4 => [(1, .fn 202 [.ptr 0 0, .ptr 1 0, .ptr 2 0]), (2, .fn 165 []), (6, .ptr 3 0), (8, .ptr 4 0), (9, .bool s1.1), (11, .ptr 5 0), (13, L_TItem x0), (14, .j (x0.length : Int)), (15, .j s1.2.1), (32, .bool y4)]) (fun y4 => [some ⟨[.j x1], 0⟩, some ⟨[.j x2], 0⟩, some ⟨[.j x3], 0⟩, some ⟨[.j 0, .j 0, .j 0, .j 0, .j 0, .j 0, .str [], .str [], .str []], 0⟩, some ⟨[.j s1.2.2.1, .j s1.2.2.2.1, .j s1.2.2.2.2.1, .j s1.2.2.2.2.2.1, .j s1.2.2.2.2.2.2.1, .j s1.2.2.2.2.2.2.2.1, .str s1.2.2.2.2.2.2.2.2.1, .str s1.2.2.2.2.2.2.2.2.2.1, .str s1.2.2.2.2.2.2.2.2.2.2], 0⟩, some ⟨[.j v3.Seq, .j v3.Rec.Kind, .j v3.Rec.Valid, .j v3.Rec.Uid, .j v3.Rec.Next, .j v3.Rec.Flags, .str v3.Rec.User, .str v3.Rec.Name, .str v3.Rec.Text], 0⟩]) (fun y => y4 = y) (fun _ _ _ _ g h => RW.gh g h) ?_ ?_
   ·refine RW.reg ?_
    refine rl.run 3 rfl ?_
    obtain ⟨v5, e5, h7⟩ := bindS ey4
    refine rl.call rfl rfl rfl (CallW.embR [0, 1, 2] ok_impl_mailItem_1 (law_impl_mailItem_1_w e5) (.cells rfl rfl (.keep .int .nil) (.cells rfl rfl (.keep .int .nil) (.cells rfl rfl (.keep .int .nil) .nil))) rfl rfl (.cons (RnL.agg (.cons (.dat .int) (.cons (.dat .int) (.cons (.dat .int) (.cons (.dat .int) (.cons (.dat .int) (.cons (.dat .str) (.cons (.dat .str) (.cons (.dat .str) .nil))))))))) (.cons (.ptr rfl) (.cons (.ptr rfl) (.cons (.ptr rfl) .nil)))) .bool ?_)
    cases hb : v5
    ·have h8 := iteBF h7 hb
     refine rl.run 10 rfl (rl.done ?_)
     cases h8
     exact ⟨_, rfl, (Gh.renN [0, 1, 2, 3, 4, 5] (.cells rfl rfl (.keep .int .nil) (.cells rfl rfl (.keep .int .nil) (.cells rfl rfl (.keep .int .nil) (.cells rfl rfl (.keep .int (.keep .int (.keep .int (.keep .int (.keep .int (.keep .int (.keep .str (.keep .str (.keep .str .nil))))))))) (.cells rfl rfl (.keep .int (.keep .int (.keep .int (.keep .int (.keep .int (.keep .int (.keep .str (.keep .str (.keep .str .nil))))))))) (.cells rfl rfl (.keep .int (.keep .int (.keep .int (.keep .int (.keep .int (.keep .int (.keep .str (.keep .str (.keep .str .nil))))))))) .nil)))))) rfl rfl rfl (.cons rfl (RnL.fn (.cons (.ptr rfl) (.cons (.ptr rfl) (.cons (.ptr rfl) .nil)))) (.cons rfl (RnL.fn .nil) (.cons rfl (.ptr rfl) (.cons rfl (.ptr rfl) (.cons rfl (.dat .bool) (.cons rfl (.ptr rfl) (.cons rfl (.dat (ek_TItem.rlst)) (.cons rfl (.dat .int) (.cons rfl (.dat .int) (.cons rfl (.dat .bool) .nil)))))))))))⟩
    ·have h9 := iteBT h7 hb
     refine rl.run 4 rfl ?_
     cases hb : (!s1.1)
     ·have h10 := iteBF h9 hb
      refine rl.run 3 rfl ?_
      obtain ⟨v6, e6, h11⟩ := bindS h10
      refine rl.call rfl rfl rfl (CallW.val (r' := .bool v6) ok_impl_bySeq (law_impl_bySeq e6) (.cons (DFL.agg (.cons .int (.cons .int (.cons .int (.cons .int (.cons .int (.cons .int (.cons .str (.cons .str (.cons .str .nil)))))))))) (.cons (DFL.agg (.cons .int (.cons .int (.cons .int (.cons .int (.cons .int (.cons .int (.cons .str (.cons .str (.cons .str .nil)))))))))) .nil)) .refl ?_)
      cases hb : v6
      ·have h12 := iteBF h11 hb
       refine rl.run 2 rfl (rl.done ?_)
       cases h12
       exact ⟨_, rfl, (Gh.renN [0, 1, 2, 3, 4, 5] (.cells rfl rfl (.keep .int .nil) (.cells rfl rfl (.keep .int .nil) (.cells rfl rfl (.keep .int .nil) (.cells rfl rfl (.keep .int (.keep .int (.keep .int (.keep .int (.keep .int (.keep .int (.keep .str (.keep .str (.keep .str .nil))))))))) (.cells rfl rfl (.keep .int (.keep .int (.keep .int (.keep .int (.keep .int (.keep .int (.keep .str (.keep .str (.keep .str .nil))))))))) (.cells rfl rfl (.keep .int (.keep .int (.keep .int (.keep .int (.keep .int (.keep .int (.keep .str (.keep .str (.keep .str .nil))))))))) .nil)))))) rfl rfl rfl (.cons rfl (RnL.fn (.cons (.ptr rfl) (.cons (.ptr rfl) (.cons (.ptr rfl) .nil)))) (.cons rfl (RnL.fn .nil) (.cons rfl (.ptr rfl) (.cons rfl (.ptr rfl) (.cons rfl (.dat .bool) (.cons rfl (.ptr rfl) (.cons rfl (.dat (ek_TItem.rlst)) (.cons rfl (.dat .int) (.cons rfl (.dat .int) (.cons rfl (.dat .bool) .nil)))))))))))⟩
      ·have h13 := iteBT h11 hb
       refine rl.run 2 rfl (rl.done ?_)
       cases h13
       exact ⟨_, rfl, (Gh.renN [0, 1, 2, 3, 4, 5] (.cells rfl rfl (.keep .int .nil) (.cells rfl rfl (.keep .int .nil) (.cells rfl rfl (.keep .int .nil) (.cells rfl rfl (.keep .int (.keep .int (.keep .int (.keep .int (.keep .int (.keep .int (.keep .str (.keep .str (.keep .str .nil))))))))) (.cells rfl rfl (.keep .int (.keep .int (.keep .int (.keep .int (.keep .int (.keep .int (.keep .str (.keep .str (.keep .str .nil))))))))) (.cells rfl rfl (.keep .int (.keep .int (.keep .int (.keep .int (.keep .int (.keep .int (.keep .str (.keep .str (.keep .str .nil))))))))) .nil)))))) rfl rfl rfl (.cons rfl (RnL.fn (.cons (.ptr rfl) (.cons (.ptr rfl) (.cons (.ptr rfl) .nil)))) (.cons rfl (RnL.fn .nil) (.cons rfl (.ptr rfl) (.cons rfl (.ptr rfl) (.cons rfl (.dat .bool) (.cons rfl (.ptr rfl) (.cons rfl (.dat (ek_TItem.rlst)) (.cons rfl (.dat .int) (.cons rfl (.dat .int) (.cons rfl (.dat .bool) .nil)))))))))))⟩
     ·have h14 := iteBT h9 hb
      refine rl.run 6 rfl (rl.done ?_)
      cases h14
      exact ⟨_, rfl, (Gh.renN [0, 1, 2, 3, 4, 5] (.cells rfl rfl (.keep .int .nil) (.cells rfl rfl (.keep .int .nil) (.cells rfl rfl (.keep .int .nil) (.cells rfl rfl (.keep .int (.keep .int (.keep .int (.keep .int (.keep .int (.keep .int (.keep .str (.keep .str (.keep .str .nil))))))))) (.cells rfl rfl (.keep .int (.keep .int (.keep .int (.keep .int (.keep .int (.keep .int (.keep .str (.keep .str (.keep .str .nil))))))))) (.cells rfl rfl (.keep .int (.keep .int (.keep .int (.keep .int (.keep .int (.keep .int (.keep .str (.keep .str (.keep .str .nil))))))))) .nil)))))) rfl rfl rfl (.cons rfl (RnL.fn (.cons (.ptr rfl) (.cons (.ptr rfl) (.cons (.ptr rfl) .nil)))) (.cons rfl (RnL.fn .nil) (.cons rfl (.ptr rfl) (.cons rfl (.ptr rfl) (.cons rfl (.dat .bool) (.cons rfl (.ptr rfl) (.cons rfl (.dat (ek_TItem.rlst)) (.cons rfl (.dat .int) (.cons rfl (.dat .int) (.cons rfl (.dat .bool) .nil)))))))))))⟩
   ·intro y hC
    subst hC
    cases hb : y4
    ·have h15 := iteBF h6 hb
     refine RW.cond_f rfl (RW.skip (RW.reg (rl.run 2 rfl (rl.done ?_))))
     cases h15
     exact hB1 _ rfl _ _ (Gh.renN [0, 1, 2, 3, 4] (.cells rfl rfl (.keep .int .nil) (.cells rfl rfl (.keep .int .nil) (.cells rfl rfl (.keep .int .nil) (.cells rfl rfl (.keep .int (.keep .int (.keep .int (.keep .int (.keep .int (.keep .int (.keep .str (.keep .str (.keep .str .nil))))))))) (.cells rfl rfl (.keep .int (.keep .int (.keep .int (.keep .int (.keep .int (.keep .int (.keep .str (.keep .str (.keep .str .nil))))))))) .nil))))) rfl rfl rfl (.cons rfl (RnL.fn (.cons (.ptr rfl) (.cons (.ptr rfl) (.cons (.ptr rfl) .nil)))) (.cons rfl (RnL.fn .nil) (.cons rfl (.ptr rfl) (.cons rfl (.ptr rfl) (.cons rfl (.dat .bool) (.cons rfl (.dat (ek_TItem.rlst)) (.cons rfl (.dat .int) (.cons rfl (.dat .int) .nil)))))))))
    ·have h16 := iteBT h6 hb
     refine RW.cond_t rfl (RW.reg (rl.run 3 rfl (rl.done (RW.reg (rl.run 2 rfl (rl.done ?_))))))
     cases h16
     exact hB1 _ rfl _ _ (Gh.renN [0, 1, 2, 3, 4] (.cells rfl rfl (.keep .int .nil) (.cells rfl rfl (.keep .int .nil) (.cells rfl rfl (.keep .int .nil) (.cells rfl rfl (.keep .int (.keep .int (.keep .int (.keep .int (.keep .int (.keep .int (.keep .str (.keep .str (.keep .str .nil))))))))) (.cells rfl rfl (.keep .int (.keep .int (.keep .int (.keep .int (.keep .int (.keep .int (.keep .str (.keep .str (.keep .str .nil))))))))) .nil))))) rfl rfl rfl (.cons rfl (RnL.fn (.cons (.ptr rfl) (.cons (.ptr rfl) (.cons (.ptr rfl) .nil)))) (.cons rfl (RnL.fn .nil) (.cons rfl (.ptr rfl) (.cons rfl (.ptr rfl) (.cons rfl (.dat .bool) (.cons rfl (.dat (ek_TItem.rlst)) (.cons rfl (.dat .int) (.cons rfl (.dat .int) .nil)))))))))
 ·intro y2 hC
  subst hC
  refine RW.sreg (rl.run 4 rfl (rl.done (RW.ret ?_)))
  cases h2
  exact RRetS.mk rfl (.tup (fac (.agg (sc_TItem _ _)) (fac .bool fan))) (Gh.renN [0, 1, 2] (.cells rfl rfl (.keep .int .nil) (.cells rfl rfl (.keep .int .nil) (.cells rfl rfl (.keep .int .nil) .nil))) rfl rfl rfl .nil)
theorem law_impl_mailItem {x0 : List TItem} {x1 : Int} {x2 : Int} {x3 : Int} {r : TItem × Bool} (hF : F_impl_mailItem x0 x1 x2 x3 = some r) : PCalls Tryz.prog 170 [L_TItem x0, .j x1, .j x2, .j x3] (.tup [.agg (enc_TItem true r.1), .bool r.2]) := by
 refine PCalls.of_r k_impl_mailItem rfl ?_
 unfold F_impl_mailItem at hF
 refine RW.sreg (rl.run 5 rfl (rl.done (RW.sreg (rl.run 2 rfl ?_))))
 obtain ⟨v1, e1, h1⟩ := bindS hF
 refine rl.call rfl rfl rfl (CallW.embR [0, 1, 2] ok_impl_latest (law_impl_latest_mailItem_1_bySeq e1) (.cells rfl rfl (.keep .int .nil) (.cells rfl rfl (.keep .int .nil) (.cells rfl rfl (.keep .int .nil) .nil))) rfl rfl (.cons (.dat (ek_TItem.rlst)) (.cons (RnL.fn (.cons (.ptr rfl) (.cons (.ptr rfl) (.cons (.ptr rfl) .nil)))) (.cons (RnL.fn .nil) .nil))) (.tup (fac (.agg (sc_TItem _ _)) (fac .bool fan))) ?_)
 refine rl.run 4 rfl (rl.done ?_)
 refine RW.kp [8, 9] [(8, .ptr 3 0), (9, .bool v1.2)] [some ⟨[.j x1], 0⟩, some ⟨[.j x2], 0⟩, some ⟨[.j x3], 0⟩, some ⟨[.j v1.1.Seq, .j v1.1.Rec.Kind, .j v1.1.Rec.Valid, .j v1.1.Rec.Uid, .j v1.1.Rec.Next, .j v1.1.Rec.Flags, .str v1.1.Rec.User, .str v1.1.Rec.Name, .str v1.1.Rec.Text], 0⟩] rfl rfl ?_
 refine RW.ret ?_
 cases h1
 exact RRet.mk rfl (OutT.tup (.cons (OutL.agg (.cons .int rfl (.cons .int rfl (.cons .int rfl (.cons .int rfl (.cons .int rfl (.cons .int rfl (.cons .str rfl (.cons .str rfl (.cons .str rfl .nil)))))))))) (.cons .bool .nil))) (by first | decide | simp)
theorem law_impl_mailThere {x0 : List TItem} {x1 : Int} {x2 : Int} {r : TItem × Bool} (hF : F_impl_mailThere x0 x1 x2 = some r) : PCalls Tryz.prog 169 [L_TItem x0, .j x1, .j x2] (.tup [.agg (enc_TItem true r.1), .bool r.2]) := by
 refine PCalls.of_r k_impl_mailThere rfl ?_
 unfold F_impl_mailThere at hF
 refine RW.sreg (rl.run 2 rfl (rl.done (RW.seq (RW.sreg (rl.run 2 rfl ?_)))))
 obtain ⟨v1, e1, h1⟩ := bindS hF
 refine rl.call rfl rfl rfl (CallW.val (r' := .tup [.agg (enc_TItem false v1.1), .bool v1.2]) ok_impl_boxThere (law_impl_boxThere e1) (.cons (.lst ek_TItem) (.cons .int .nil)) (FlL.tup (.cons .refl (.cons .refl .nil))) ?_)
 refine rl.run 6 rfl (rl.done (RW.sreg (rl.run 2 rfl (rl.done ?_))))
 cases hb : (!v1.2)
 ·have h2 := iteBF h1 hb
  refine RW.cond_f rfl (RW.skip (RW.seq (RW.sreg (rl.run 3 rfl ?_))))
  obtain ⟨v2, e2, h3⟩ := bindS h2
  refine rl.call rfl rfl rfl (CallW.val (r' := .tup [.agg (enc_TItem false v2.1), .bool v2.2]) ok_impl_mailItem (law_impl_mailItem e2) (.cons (.lst ek_TItem) (.cons .int (.cons .int (.cons .int .nil)))) (FlL.tup (.cons .refl (.cons .refl .nil))) ?_)
  refine rl.run 6 rfl (rl.done ?_)
  refine RW.kp [0, 1, 2, 6, 11] [(0, L_TItem x0), (1, .j x1), (2, .j x2), (6, .ptr 0 0), (11, .bool v2.2)] [some ⟨[.j 0, .j 0, .j 0, .j 0, .j 0, .j 0, .str [], .str [], .str []], 0⟩, some ⟨[.j v1.1.Seq, .j v1.1.Rec.Kind, .j v1.1.Rec.Valid, .j v1.1.Rec.Uid, .j v1.1.Rec.Next, .j v1.1.Rec.Flags, .str v1.1.Rec.User, .str v1.1.Rec.Name, .str v1.1.Rec.Text], 0⟩, some ⟨[.j v2.1.Seq, .j v2.1.Rec.Kind, .j v2.1.Rec.Valid, .j v2.1.Rec.Uid, .j v2.1.Rec.Next, .j v2.1.Rec.Flags, .str v2.1.Rec.User, .str v2.1.Rec.Name, .str v2.1.Rec.Text], 0⟩] rfl rfl ?_
  refine RW.sreg (rl.run 1 rfl (rl.done ?_))
  cases hb : v2.2
  ·have h4 := iteBF h3 hb
   refine RW.cond_f rfl (RW.skip (RW.sreg (rl.run 3 rfl ?_)))
   obtain ⟨v3, e3, h5⟩ := bindS h4
   refine rl.call rfl rfl rfl (CallW.val (r' := .tup [.agg (enc_TItem false v3.1), .bool v3.2]) ok_impl_mailItem (law_impl_mailItem e3) (.cons (.lst ek_TItem) (.cons .int (.cons .int (.cons .int .nil)))) (FlL.tup (.cons .refl (.cons .refl .nil))) ?_)
   refine rl.run 4 rfl (rl.done ?_)
   refine RW.kp [6, 7] [(6, .ptr 0 0), (7, .bool v3.2)] [some ⟨[.j v3.1.Seq, .j v3.1.Rec.Kind, .j v3.1.Rec.Valid, .j v3.1.Rec.Uid, .j v3.1.Rec.Next, .j v3.1.Rec.Flags, .str v3.1.Rec.User, .str v3.1.Rec.Name, .str v3.1.Rec.Text], 0⟩, some ⟨[.j v1.1.Seq, .j v1.1.Rec.Kind, .j v1.1.Rec.Valid, .j v1.1.Rec.Uid, .j v1.1.Rec.Next, .j v1.1.Rec.Flags, .str v1.1.Rec.User, .str v1.1.Rec.Name, .str v1.1.Rec.Text], 0⟩, some ⟨[.j v2.1.Seq, .j v2.1.Rec.Kind, .j v2.1.Rec.Valid, .j v2.1.Rec.Uid, .j v2.1.Rec.Next, .j v2.1.Rec.Flags, .str v2.1.Rec.User, .str v2.1.Rec.Name, .str v2.1.Rec.Text], 0⟩] rfl rfl ?_
   refine RW.ret ?_
   cases h5
   exact RRet.mk rfl (OutT.tup (.cons (OutL.agg (.cons .int rfl (.cons .int rfl (.cons .int rfl (.cons .int rfl (.cons .int rfl (.cons .int rfl (.cons .str rfl (.cons .str rfl (.cons .str rfl .nil)))))))))) (.cons .bool .nil))) (by first | decide | simp)
  ·have h6 := iteBT h3 hb
   refine RW.cond_t rfl (RW.sreg (rl.run 3 rfl (rl.done (RW.ret ?_))))
   cases h6
   exact RRet.mk rfl (OutT.tup (.cons (OutL.agg (.cons .int rfl (.cons .int rfl (.cons .int rfl (.cons .int rfl (.cons .int rfl (.cons .int rfl (.cons .str rfl (.cons .str rfl (.cons .str rfl .nil)))))))))) (.cons .bool .nil))) (by first | decide | simp)
 ·have h7 := iteBT h1 hb
  refine RW.cond_t rfl (RW.sreg (rl.run 3 rfl (rl.done ?_)))
  refine RW.kp [6, 7] [(6, .ptr 0 0), (7, .bool false)] [some ⟨[.j 0, .j 0, .j 0, .j 0, .j 0, .j 0, .str [], .str [], .str []], 0⟩, some ⟨[.j v1.1.Seq, .j v1.1.Rec.Kind, .j v1.1.Rec.Valid, .j v1.1.Rec.Uid, .j v1.1.Rec.Next, .j v1.1.Rec.Flags, .str v1.1.Rec.User, .str v1.1.Rec.Name, .str v1.1.Rec.Text], 0⟩] rfl rfl ?_
  refine RW.ret ?_
  cases h7
  exact RRet.mk rfl (OutT.tup (.cons (OutL.agg (.cons .int rfl (.cons .int rfl (.cons .int rfl (.cons .int rfl (.cons .int rfl (.cons .int rfl (.cons .str rfl (.cons .str rfl (.cons .str rfl .nil)))))))))) (.cons .bool .nil))) (by first | decide | simp)
set_option maxHeartbeats 2000000 in
theorem law_impl_boxState {x0 : List TItem} {x1 : TItem} {r : TBox} (hF : F_impl_boxState x0 x1 = some r) : PCalls Tryz.prog 105 [L_TItem x0, .agg (enc_TItem false x1)] (.agg (enc_TBox true r)) := by
 refine PCalls.of_r k_impl_boxState rfl ?_
 unfold F_impl_boxState at hF
 refine RW.sreg (rl.run 2 rfl (rl.done (RW.sreg (rl.run 5 rfl (rl.done (RW.sreg (rl.run 13 rfl (rl.done ?_))))))))
 refine RW.kp [0, 4, 5, 6] [(0, L_TItem x0), (4, .ptr 1 0), (5, .ptr 2 0), (6, .ptr 3 0)] [some ⟨[.j x1.Seq, .j x1.Rec.Kind, .j x1.Rec.Valid, .j x1.Rec.Uid, .j x1.Rec.Next, .j x1.Rec.Flags, .str x1.Rec.User, .str x1.Rec.Name, .str x1.Rec.Text], 0⟩, some ⟨[.j 0, .str [], .str [], .j 0, .nils], 0⟩, some ⟨[.j x1.Rec.Valid], 0⟩, some ⟨[.j x1.Rec.Valid, .str x1.Rec.User, .str x1.Rec.Name, .j x1.Rec.Next, .nils], 0⟩] rfl rfl ?_
 refine RW.sreg (rl.run 2 rfl ?_)
 obtain ⟨v1, e1, h1⟩ := bindS hF
 refine rl.call rfl rfl rfl (CallW.valS (r' := L_I v1) ok_impl_numbers (law_impl_numbers_boxState_1 e1) (.cons (.of (.lst ek_TItem)) (.cons (DS.fn (.cons (DS.ptr rfl (fac .int fan)) .nil)) .nil)) (ekI.fflag _).lst ?_)
 refine rl.run 1 rfl (rl.done (RW.seq (RW.sreg (rl.run 3 rfl (rl.done ?_)))))
 refine RW.gh (Gh.nil_c 3 4 3 rfl rfl) ?_
 obtain ⟨y9, ey9, h3⟩ := bindS h1
 refine RW.cutq (σ := Int × (List TMail)) (fun y3 => [(4, .ptr 0 0), (6, .ptr 1 0)]) (fun y3 => [some ⟨[.j 0, .str [], .str [], .j 0, .nils], 0⟩, some ⟨[.j x1.Rec.Valid, .str x1.Rec.User, .str x1.Rec.Name, .j y3.1, .sl 2 0 y3.2.length], 0⟩, some ⟨fl (enc_TMail true) y3.2, 3⟩]) (fun y => y9 = y) (fun _ _ _ _ g h => RW.gh g h) ?_ ?_
 ·refine RW.blk ?_
  refine RW.iter (σ := Int × Int × (List TMail)) ey9 (fun s2 => [(0, L_TItem x0), (4, .ptr 0 0), (5, .ptr 1 0), (6, .ptr 2 0), (32, L_I v1), (33, .j (v1.length : Int)), (34, .j s2.1)]) (fun s2 => [some ⟨[.j 0, .str [], .str [], .j 0, .nils], 0⟩, some ⟨[.j x1.Rec.Valid], 0⟩, some ⟨[.j x1.Rec.Valid, .str x1.Rec.User, .str x1.Rec.Name, .j s2.2.1, .sl 3 0 s2.2.2.length], 0⟩, some ⟨fl (enc_TMail true) s2.2.2, 3⟩]) (Gh.ren0 [1, 2, 3, 4] (.cells rfl rfl (.keep .int (.keep .str (.keep .str (.keep .int (.keep .nils .nil))))) (.cells rfl rfl (.keep .int .nil) (.cells rfl rfl (.keep .int (.keep .str (.keep .str (.keep .int (.slq rfl rfl .nil))))) (.same rfl (ek_TMail.fref _ _) .nil)))) rfl (.cons rfl (.dat (ek_TItem.rlst)) (.cons rfl (.ptr rfl) (.cons rfl (.ptr rfl) (.cons rfl (.ptr rfl) (.cons rfl (.dat (ekI.rlst)) (.cons rfl (.dat .int) (.cons rfl (.dat .int) .nil)))))))) (fun s2 B o hS2 hB2 hE2 => ?_)
  unfold S_impl_boxState_1 at hS2
  refine RW.sreg ?_
  refine rl.gen rfl rfl fun b hb => ?_
  cases b
  ·have h4 := iteBF hS2 hb
   refine rl.done (RW.seq (RW.cond_f rfl (RW.exit (blkA_eq ?_))))
   cases h4
   exact ⟨_, (hE2 _ rfl).symm, (Gh.ren0 [0, 2, 3] (.cells rfl rfl (.keep .int (.keep .str (.keep .str (.keep .int (.keep .nils .nil))))) (.cells rfl rfl (.keep .int (.keep .str (.keep .str (.keep .int (.slq rfl rfl .nil))))) (.same rfl (ek_TMail.fref _ _) .nil))) rfl (.cons rfl (.ptr rfl) (.cons rfl (.ptr rfl) .nil)))⟩
  ·have h5 := iteBT hS2 hb
   refine rl.done (RW.seq (RW.cond_t rfl (RW.skip (RW.seq (RW.blk (RW.sreg ?_))))))
   obtain ⟨v4, e4, h6⟩ := bindS h5
   refine rl.op (x_ia_lst (enc := encI) (o := false) rfl rfl rfl e4) ?_
   refine rl.op (x_ld_el (off' := 0) ekI rfl e4 rfl rfl rfl) ?_
   refine rl.run 1 rfl (rl.done (RW.sreg (rl.run 7 rfl (rl.done (RW.sreg (rl.run 3 rfl ?_))))))
   obtain ⟨v5, e5, h7⟩ := bindS h6
   refine rl.call rfl rfl rfl (CallW.val (r' := .tup [.agg (enc_TItem false v5.1), .bool v5.2]) ok_impl_mailThere (law_impl_mailThere e5) (.cons (.lst ek_TItem) (.cons .int (.cons .int .nil))) (FlL.tup (.cons .refl (.cons .refl .nil))) ?_)
   refine rl.run 6 rfl (rl.done ?_)
   refine RW.kp [0, 4, 5, 6, 9, 10, 11, 32, 33, 34] [(0, L_TItem x0), (4, .ptr 0 0), (5, .ptr 1 0), (6, .ptr 2 0), (9, .j v4), (10, .ptr 4 0), (11, .bool v5.2), (32, L_I v1), (33, .j (v1.length : Int)), (34, .j s2.1)] [some ⟨[.j 0, .str [], .str [], .j 0, .nils], 0⟩, some ⟨[.j x1.Rec.Valid], 0⟩, some ⟨[.j x1.Rec.Valid, .str x1.Rec.User, .str x1.Rec.Name, .j (if w64 (v4 + 1) > s2.2.1 then w64 (v4 + 1) else s2.2.1), .sl 3 0 s2.2.2.length], 0⟩, some ⟨fl (enc_TMail true) s2.2.2, 3⟩, some ⟨[.j v5.1.Seq, .j v5.1.Rec.Kind, .j v5.1.Rec.Valid, .j v5.1.Rec.Uid, .j v5.1.Rec.Next, .j v5.1.Rec.Flags, .str v5.1.Rec.User, .str v5.1.Rec.Name, .str v5.1.Rec.Text], 0⟩] rfl rfl ?_
   refine RW.seq (RW.sreg (rl.run 2 rfl (rl.done ?_)))
   cases hb : (!v5.2)
   ·have h8 := iteBF h7 hb
    refine RW.cond_f rfl (RW.skip (RW.sreg (rl.run 10 rfl (rl.done ?_))))
    refine RW.kp [0, 4, 5, 6, 9, 12, 32, 33, 34] [(0, L_TItem x0), (4, .ptr 0 0), (5, .ptr 1 0), (6, .ptr 2 0), (9, .j v4), (12, .ptr 5 0), (32, L_I v1), (33, .j (v1.length : Int)), (34, .j s2.1)] [some ⟨[.j 0, .str [], .str [], .j 0, .nils], 0⟩, some ⟨[.j x1.Rec.Valid], 0⟩, some ⟨[.j x1.Rec.Valid, .str x1.Rec.User, .str x1.Rec.Name, .j (if w64 (v4 + 1) > s2.2.1 then w64 (v4 + 1) else s2.2.1), .sl 3 0 s2.2.2.length], 0⟩, some ⟨fl (enc_TMail true) s2.2.2, 3⟩, some ⟨[.j v5.1.Seq, .j v5.1.Rec.Kind, .j v5.1.Rec.Valid, .j v5.1.Rec.Uid, .j v5.1.Rec.Next, .j v5.1.Rec.Flags, .str v5.1.Rec.User, .str v5.1.Rec.Name, .str v5.1.Rec.Text], 0⟩, some ⟨[.j v4, .j v5.1.Rec.Flags, .str v5.1.Rec.Text], 0⟩] rfl rfl ?_
    refine RW.seq (RW.sreg (rl.run 3 rfl ?_))
    obtain ⟨v6, e6, h9⟩ := bindS h8
    refine rl.call rfl rfl rfl (CallW.val (r' := .tup [.agg (enc_TItem false v6.1), .bool v6.2]) ok_impl_mailItem (law_impl_mailItem e6) (.cons (.lst ek_TItem) (.cons .int (.cons .int (.cons .int .nil)))) (FlL.tup (.cons .refl (.cons .refl .nil))) ?_)
    refine rl.run 6 rfl (rl.done (RW.sreg (rl.run 1 rfl (rl.done ?_))))
    obtain ⟨y7, ey7, h10⟩ := bindS h9
    refine RW.cutq (σ := Int) (fun y7 => [(0, L_TItem x0), (4, .ptr 0 0), (5, .ptr 1 0), (6, .ptr 2 0), (12, .ptr 3 0), (32, L_I v1), (33, .j (v1.length : Int)), (34, .j s2.1)]) (fun y7 => [some ⟨[.j 0, .str [], .str [], .j 0, .nils], 0⟩, some ⟨[.j x1.Rec.Valid], 0⟩, some ⟨[.j x1.Rec.Valid, .str x1.Rec.User, .str x1.Rec.Name, .j (if w64 (v4 + 1) > s2.2.1 then w64 (v4 + 1) else s2.2.1), .sl 4 0 s2.2.2.length], 0⟩, some ⟨[.j v4, .j y7, .str v5.1.Rec.Text], 0⟩, some ⟨fl (enc_TMail true) s2.2.2, 3⟩]) (fun y => y7 = y) (fun _ _ _ _ g h => RW.gh g h) ?_ ?_
    ·cases hb : v6.2
     ·have h11 := iteBF ey7 hb
      refine RW.cond_f rfl (RW.skip ?_)
      cases h11
      exact ⟨_, rfl, (Gh.ren0 [0, 1, 2, 5, 3] (.cells rfl rfl (.keep .int (.keep .str (.keep .str (.keep .int (.keep .nils .nil))))) (.cells rfl rfl (.keep .int .nil) (.cells rfl rfl (.keep .int (.keep .str (.keep .str (.keep .int (.slq rfl rfl .nil))))) (.cells rfl rfl (.keep .int (.keep .int (.keep .str .nil))) (.same rfl (ek_TMail.fref _ _) .nil))))) rfl (.cons rfl (.dat (ek_TItem.rlst)) (.cons rfl (.ptr rfl) (.cons rfl (.ptr rfl) (.cons rfl (.ptr rfl) (.cons rfl (.ptr rfl) (.cons rfl (.dat (ekI.rlst)) (.cons rfl (.dat .int) (.cons rfl (.dat .int) .nil)))))))))⟩
     ·have h12 := iteBT ey7 hb
      refine RW.cond_t rfl (RW.reg (rl.run 5 rfl (rl.done ?_)))
      cases h12
      exact ⟨_, rfl, (Gh.ren0 [0, 1, 2, 5, 3] (.cells rfl rfl (.keep .int (.keep .str (.keep .str (.keep .int (.keep .nils .nil))))) (.cells rfl rfl (.keep .int .nil) (.cells rfl rfl (.keep .int (.keep .str (.keep .str (.keep .int (.slq rfl rfl .nil))))) (.cells rfl rfl (.keep .int (.keep .int (.keep .str .nil))) (.same rfl (ek_TMail.fref _ _) .nil))))) rfl (.cons rfl (.dat (ek_TItem.rlst)) (.cons rfl (.ptr rfl) (.cons rfl (.ptr rfl) (.cons rfl (.ptr rfl) (.cons rfl (.ptr rfl) (.cons rfl (.dat (ekI.rlst)) (.cons rfl (.dat .int) (.cons rfl (.dat .int) .nil)))))))))⟩
    ·intro y hC
     subst hC
     refine RW.reg (rl.run 4 rfl ?_)
     obtain ⟨v8, e8, h13⟩ := bindS h10
     refine rl.op (x_app rfl rfl (rapp_sl (l := s2.2.2) (m := [({ Uid := v4, Flags := y7, Text := v5.1.Rec.Text } : TMail)]) (o := true) ek_TMail rfl rfl (acont_slq (m := [({ Uid := v4, Flags := y7, Text := v5.1.Rec.Text } : TMail)]) (o := true) fk_TMail rfl rfl) rfl (fk_TMail.fst _ _) e8)) ?_
     refine rl.run 2 rfl (rl.done (RW.reg (rl.run 2 rfl (rl.done ?_))))
     cases h13
     exact hB2 _ rfl _ _ (Gh.ren0 [0, 1, 2, 6] (.cells rfl rfl (.keep .int (.keep .str (.keep .str (.keep .int (.keep .nils .nil))))) (.cells rfl rfl (.keep .int .nil) (.cells rfl rfl (.keep .int (.keep .str (.keep .str (.keep .int (.slq rfl rfl .nil))))) (.same rfl (ek_TMail.fref _ _) .nil)))) rfl (.cons rfl (.dat (ek_TItem.rlst)) (.cons rfl (.ptr rfl) (.cons rfl (.ptr rfl) (.cons rfl (.ptr rfl) (.cons rfl (.dat (ekI.rlst)) (.cons rfl (.dat .int) (.cons rfl (.dat .int) .nil))))))))
   ·have h14 := iteBT h7 hb
    refine RW.cond_t rfl (RW.exit (blkA_eq (RW.reg (rl.run 2 rfl (rl.done ?_)))))
    cases h14
    exact hB2 _ rfl _ _ (Gh.ren0 [0, 1, 2, 3] (.cells rfl rfl (.keep .int (.keep .str (.keep .str (.keep .int (.keep .nils .nil))))) (.cells rfl rfl (.keep .int .nil) (.cells rfl rfl (.keep .int (.keep .str (.keep .str (.keep .int (.slq rfl rfl .nil))))) (.same rfl (ek_TMail.fref _ _) .nil)))) rfl (.cons rfl (.dat (ek_TItem.rlst)) (.cons rfl (.ptr rfl) (.cons rfl (.ptr rfl) (.cons rfl (.ptr rfl) (.cons rfl (.dat (ekI.rlst)) (.cons rfl (.dat .int) (.cons rfl (.dat .int) .nil))))))))
 ·intro y3 hC
  subst hC
  refine RW.sreg (rl.run 2 rfl (rl.done (RW.ret ?_)))
  cases h3
  exact RRet.mk rfl (OutL.agg (.cons .int rfl (.cons .str rfl (.cons .str rfl (.cons .int rfl (.cons (OutR.ownq ek_TMail rfl rfl) rfl .nil)))))) (by first | decide | simp)
theorem law_impl_StateOf {x0 : List TItem} {r : TState} (hF : F_impl_StateOf x0 = some r) : PCalls Tryz.prog 53 [L_TItem x0] (.agg (enc_TState true r)) := by
 refine PCalls.of_r k_impl_StateOf rfl ?_
 unfold F_impl_StateOf at hF
 refine RW.sreg (rl.run 1 rfl (rl.done (RW.seq (RW.sreg (rl.run 1 rfl ?_)))))
 obtain ⟨v1, e1, h1⟩ := bindS hF
 refine rl.call rfl rfl rfl (CallW.val (r' := .bool v1) ok_impl_ItemsOk (law_impl_ItemsOk e1) (.cons (.lst ek_TItem) .nil) .refl ?_)
 cases hb : v1
 ·have h2 := iteBF h1 hb
  refine rl.run 1 rfl (rl.done (RW.cond_t rfl (RW.sreg (rl.run 2 rfl (rl.done (RW.ret ?_))))))
  cases h2
  exact RRet.mk rfl (OutL.agg (.cons (OutR.nil (enc := enc_TBox)) rfl .nil)) (by first | decide | simp)
 ·have h3 := iteBT h1 hb
  refine rl.run 1 rfl (rl.done (RW.cond_f rfl (RW.skip (RW.sreg (rl.run 3 rfl (rl.done (RW.seq (RW.sreg (rl.run 1 rfl ?_)))))))))
  obtain ⟨v2, e2, h4⟩ := bindS h3
  refine rl.call rfl rfl rfl (CallW.val (r' := L_I v2) ok_impl_numbers (law_impl_numbers_StateOf_1 e2) (.cons (.lst ek_TItem) (.cons .fn .nil)) (ekI.fflag _).lst ?_)
  refine rl.run 2 rfl (rl.done ?_)
  refine RW.gh (Gh.nil_c 1 0 5 rfl rfl) ?_
  obtain ⟨y9, ey9, h6⟩ := bindS h4
  refine RW.cutq (σ := (List TBox)) (fun y4 => [(2, .ptr 0 0), (3, .ptr 1 0)]) (fun y4 => [some ⟨[.nils], 0⟩, some ⟨[.sl 2 0 y4.length], 0⟩, some ⟨fl (enc_TBox true) y4, 5⟩]) (fun y => y9 = y) (fun _ _ _ _ g h => RW.gh g h) ?_ ?_
  ·refine RW.blk ?_
   refine RW.iter (σ := Int × (List TBox)) ey9 (fun s3 => [(0, L_TItem x0), (2, .ptr 0 0), (3, .ptr 1 0), (14, L_I v2), (15, .j (v2.length : Int)), (16, .j s3.1)]) (fun s3 => [some ⟨[.nils], 0⟩, some ⟨[.sl 2 0 s3.2.length], 0⟩, some ⟨fl (enc_TBox true) s3.2, 5⟩]) (Gh.ren0 [0, 1, 2] (.cells rfl rfl (.keep .nils .nil) (.cells rfl rfl (.slq rfl rfl .nil) (.same rfl (ek_TBox.fref _ _) .nil))) rfl (.cons rfl (.dat (ek_TItem.rlst)) (.cons rfl (.ptr rfl) (.cons rfl (.ptr rfl) (.cons rfl (.dat (ekI.rlst)) (.cons rfl (.dat .int) (.cons rfl (.dat .int) .nil))))))) (fun s3 B o hS5 hB5 hE5 => ?_)
   unfold S_impl_StateOf_1 at hS5
   refine RW.sreg ?_
   refine rl.gen rfl rfl fun b hb => ?_
   cases b
   ·have h7 := iteBF hS5 hb
    refine rl.done (RW.seq (RW.cond_f rfl (RW.exit (blkA_eq ?_))))
    cases h7
    exact ⟨_, (hE5 _ rfl).symm, (Gh.ren0 [0, 1, 2] (.cells rfl rfl (.keep .nils .nil) (.cells rfl rfl (.slq rfl rfl .nil) (.same rfl (ek_TBox.fref _ _) .nil))) rfl (.cons rfl (.ptr rfl) (.cons rfl (.ptr rfl) .nil)))⟩
   ·have h8 := iteBT hS5 hb
    refine rl.done (RW.seq (RW.cond_t rfl (RW.skip (RW.seq (RW.blk (RW.sreg ?_))))))
    obtain ⟨v5, e5, h9⟩ := bindS h8
    refine rl.op (x_ia_lst (enc := encI) (o := false) rfl rfl rfl e5) ?_
    refine rl.op (x_ld_el (off' := 0) ekI rfl e5 rfl rfl rfl) ?_
    refine rl.run 1 rfl (rl.done (RW.sreg (rl.run 2 rfl ?_)))
    obtain ⟨v6, e6, h10⟩ := bindS h9
    refine rl.call rfl rfl rfl (CallW.val (r' := .tup [.agg (enc_TItem false v6.1), .bool v6.2]) ok_impl_boxThere (law_impl_boxThere e6) (.cons (.lst ek_TItem) (.cons .int .nil)) (FlL.tup (.cons .refl (.cons .refl .nil))) ?_)
    refine rl.run 6 rfl (rl.done (RW.sreg (rl.run 1 rfl (rl.done ?_))))
    refine RW.kp [0, 2, 3, 6, 14, 15, 16, 26] [(0, L_TItem x0), (2, .ptr 0 0), (3, .ptr 1 0), (6, .ptr 3 0), (14, L_I v2), (15, .j (v2.length : Int)), (16, .j s3.1), (26, .bool v6.2)] [some ⟨[.nils], 0⟩, some ⟨[.sl 2 0 s3.2.length], 0⟩, some ⟨fl (enc_TBox true) s3.2, 5⟩, some ⟨[.j v6.1.Seq, .j v6.1.Rec.Kind, .j v6.1.Rec.Valid, .j v6.1.Rec.Uid, .j v6.1.Rec.Next, .j v6.1.Rec.Flags, .str v6.1.Rec.User, .str v6.1.Rec.Name, .str v6.1.Rec.Text], 0⟩] rfl rfl ?_
    cases hb : v6.2
    ·have h11 := iteBF h10 hb
     refine RW.cond_f rfl (RW.skip (RW.reg (rl.run 2 rfl (rl.done ?_))))
     cases h11
     exact hB5 _ rfl _ _ (Gh.ren0 [0, 1, 2] (.cells rfl rfl (.keep .nils .nil) (.cells rfl rfl (.slq rfl rfl .nil) (.same rfl (ek_TBox.fref _ _) .nil))) rfl (.cons rfl (.dat (ek_TItem.rlst)) (.cons rfl (.ptr rfl) (.cons rfl (.ptr rfl) (.cons rfl (.dat (ekI.rlst)) (.cons rfl (.dat .int) (.cons rfl (.dat .int) .nil)))))))
    ·have h12 := iteBT h10 hb
     refine RW.cond_t rfl (RW.drw (rdraw.op rfl rfl (rdraw.op rfl rfl (rdraw.op rfl rfl (rdraw.op rfl rfl ?_)))))
     obtain ⟨v7, e7, h13⟩ := bindS h12
     refine rdraw.ccallB rfl rfl rfl (CallW.own (r' := .agg [.j v7.Valid, .str v7.User, .str v7.Name, .j v7.Next, .sl 4 0 v7.Mails.length]) (H' := [some ⟨[.nils], 0⟩, some ⟨[.sl 2 0 s3.2.length], 0⟩, some ⟨fl (enc_TBox true) s3.2, 5⟩, some ⟨[.j v6.1.Seq, .j v6.1.Rec.Kind, .j v6.1.Rec.Valid, .j v6.1.Rec.Uid, .j v6.1.Rec.Next, .j v6.1.Rec.Flags, .str v6.1.Rec.User, .str v6.1.Rec.Name, .str v6.1.Rec.Text], 0⟩, some ⟨fl (enc_TMail true) v7.Mails, 3⟩]) ok_impl_boxState (law_impl_boxState e7) (.cons (.lst ek_TItem) (.cons (DFL.agg (.cons .int (.cons .int (.cons .int (.cons .int (.cons .int (.cons .int (.cons .str (.cons .str (.cons .str .nil)))))))))) .nil)) (ek_TBox.own _) rfl ⟨(.skip rfl (.skip rfl (.here (.rx rfl) (.here (.rx rfl) .nil)))), ?_⟩)
     refine rdraw.chnB rfl rfl (.skip rfl (.skip rfl (.here (.rx rfl) (.here (.rx rfl) .nil)))) ?_
     obtain ⟨v8, e8, h14⟩ := bindS h13
     refine rdraw.chn rfl (x_app rfl rfl (rapp_raw ek_TBox rfl rfl (acont_one rfl rfl rfl) e8)) ?_
     refine rdraw.op rfl rfl ?_
     refine rdraw.chn rfl rfl ?_
     refine rdraw.done ?_
     refine RW.gh (Gh.absorb_rawq (b := 6) (j := 4) (m := 4) rfl rfl rfl (by decide) (by decide) rfl (ek_TMail.flen true _) (ek_TMail.fown _)) ?_
     refine RW.gh (Gh.blk (b := 6) rfl (raw_app (enc := enc_TBox) e8 rfl)) ?_
     refine RW.reg (rl.run 2 rfl (rl.done ?_))
     cases h14
     exact hB5 _ rfl _ _ (Gh.ren0 [0, 1, 6] (.cells rfl rfl (.keep .nils .nil) (.cells rfl rfl (.slq rfl rfl .nil) (.same rfl (ek_TBox.fref _ _) .nil))) rfl (.cons rfl (.dat (ek_TItem.rlst)) (.cons rfl (.ptr rfl) (.cons rfl (.ptr rfl) (.cons rfl (.dat (ekI.rlst)) (.cons rfl (.dat .int) (.cons rfl (.dat .int) .nil)))))))
  ·intro y4 hC
   subst hC
   refine RW.sreg (rl.run 2 rfl (rl.done (RW.ret ?_)))
   cases h6
   exact RRet.mk rfl (OutL.agg (.cons (OutR.ownq ek_TBox rfl rfl) rfl .nil)) (by first | decide | simp)
theorem law_impl_ItemsOf {x0 : TLog} {r : List TItem} (hF : F_impl_ItemsOf x0 = some r) : PCalls Tryz.prog 54 [.agg (enc_TLog false x0)] (.lst true 9 (fl (enc_TItem true) r) r.length) := by
 refine PCalls.of_r k_impl_ItemsOf rfl ?_
 unfold F_impl_ItemsOf at hF
 refine RW.sreg (rl.run 2 rfl (rl.done (RW.sreg (rl.run 2 rfl (rl.done (RW.seq (RW.sreg (rl.run 4 rfl (rl.done ?_)))))))))
 refine RW.gh (Gh.nil_t 3 9 rfl) ?_
 obtain ⟨y5, ey5, h2⟩ := bindS hF
 refine RW.cutq (σ := (List TItem)) (fun y2 => [(3, .sl 0 0 y2.length)]) (fun y2 => [some ⟨fl (enc_TItem true) y2, 9⟩]) (fun y => y5 = y) (fun _ _ _ _ g h => RW.gh g h) ?_ ?_
 ·refine RW.blk ?_
  refine RW.iter (σ := Int × (List TItem)) ey5 (fun s1 => [(3, .sl 0 0 s1.2.length), (8, L_TSeg x0.Used), (9, .j (x0.Used.length : Int)), (10, .j s1.1)]) (fun s1 => [some ⟨fl (enc_TItem true) s1.2, 9⟩]) (Gh.ren0 [1] (.same rfl (ek_TItem.fref _ _) .nil) rfl (.cons rfl (.slq rfl rfl) (.cons rfl (.dat (ek_TSeg.rlst)) (.cons rfl (.dat .int) (.cons rfl (.dat .int) .nil))))) (fun s1 B o hS1 hB1 hE1 => ?_)
  unfold S_impl_ItemsOf_1 at hS1
  refine RW.sreg ?_
  refine rl.gen rfl rfl fun b hb => ?_
  cases b
  ·have h3 := iteBF hS1 hb
   refine rl.done (RW.seq (RW.cond_f rfl (RW.exit (blkA_eq ?_))))
   cases h3
   exact ⟨_, (hE1 _ rfl).symm, (Gh.ren0 [0] (.same rfl (ek_TItem.fref _ _) .nil) rfl (.cons rfl (.slq rfl rfl) .nil))⟩
  ·have h4 := iteBT hS1 hb
   refine rl.done (RW.seq (RW.cond_t rfl (RW.skip (RW.seq (RW.blk (RW.sreg ?_))))))
   obtain ⟨v3, e3, h5⟩ := bindS h4
   refine rl.op (x_ia_lst (enc := enc_TSeg) (o := false) rfl rfl rfl e3) ?_
   refine rl.op (x_ld_ela (off' := 0) (vs := (enc_TSeg false v3)) ek_TSeg rfl e3 rfl rfl rfl) ?_
   refine rl.run 2 rfl (rl.done (RW.reg (rl.run 3 rfl ?_)))
   obtain ⟨v4, e4, h6⟩ := bindS h5
   refine rl.op (x_app rfl rfl (rapp_sl (l := s1.2) (m := v3.Items) (o := true) ek_TItem rfl rfl acont_lst rfl (fk_TItem.fst _ _) e4)) ?_
   refine rl.run 1 rfl (rl.done (RW.reg (rl.run 2 rfl (rl.done ?_))))
   cases h6
   exact hB1 _ rfl _ _ (Gh.ren0 [2] (.same rfl (ek_TItem.fref _ _) .nil) rfl (.cons rfl (.slq rfl rfl) (.cons rfl (.dat (ek_TSeg.rlst)) (.cons rfl (.dat .int) (.cons rfl (.dat .int) .nil)))))
 ·intro y2 hC
  subst hC
  refine RW.sreg (rl.run 2 rfl (rl.done (RW.ret ?_)))
  cases h2
  exact RRet.mk rfl (OutR.ownq ek_TItem rfl rfl) (by first | decide | simp)
theorem law_impl_StateNow {x0 : TStore} {r : TState} (hF : F_impl_StateNow x0 = some r) : PCalls Tryz.prog 20 [.agg (enc_TStore false x0)] (.agg (enc_TState true r)) := by
 refine PCalls.of_r k_impl_StateNow rfl ?_
 unfold F_impl_StateNow at hF
 refine RW.sreg (rl.run 2 rfl (rl.done (RW.sreg (rl.run 2 rfl ?_))))
 obtain ⟨v1, e1, h1⟩ := bindS hF
 refine rl.call rfl rfl rfl (CallW.val (r' := L_TItem v1) ok_impl_ItemsOf (law_impl_ItemsOf e1) (.cons (DFL.agg (.cons (.lst ekS) (.cons (.lst ek_TWrite) (.cons .int (.cons (.lst ek_TSeg) (.cons .int (.cons .int (.cons .int (.cons .int .nil))))))))) .nil) (ek_TItem.fflag _).lst ?_)
 obtain ⟨v2, e2, h2⟩ := bindS h1
 refine rl.call rfl rfl rfl (CallW.own (r' := .agg [.sl 2 0 v2.Boxes.length]) (H' := [some ⟨[L_S x0.Log.Disk.Sectors, L_TWrite x0.Log.Disk.Cache, .j x0.Log.Segs, L_TSeg x0.Log.Used, .j x0.Log.NextGen, .j x0.Log.NextSeq, .j x0.Log.Stamp, .j x0.Log.NextValid, L_I x0.Freed], 0⟩, some ⟨[.nils], 0⟩, some ⟨fl (enc_TBox true) v2.Boxes, 5⟩]) ok_impl_StateOf (law_impl_StateOf e2) (.cons (.lst ek_TItem) .nil) (ek_TState.own _) rfl ?_)
 refine rl.run 1 rfl (rl.done (RW.ret ?_))
 cases h2
 exact RRet.mk rfl (OutL.agg (.cons (OutR.ownq ek_TBox rfl rfl) rfl .nil)) (by first | decide | simp)
end Go.Proofs.YtcehlicmghnghaaGreat.V
