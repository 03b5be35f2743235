/- What a call comes to. -/
import Derived.Test.YtldndhdohlfpgaaXT
import Derived.Test.YtldndhdohlfpgaaXU
namespace Go.Proofs.Ytldndhdohlfpgaa.V
open Go Go.Proofs Go.RowKit
set_option maxRecDepth 100000
theorem law_impl_in {x0 : Int} {x1 : Int} {x2 : Int} {r : Bool} (hF : F_impl_in x0 x1 x2 = some r) : PCalls Try.prog 59 [.j x0,.j x1,.j x2] (.bool r):=by
 refine PCalls.of_r k_impl_in rfl ?_
 unfold F_impl_in at hF
 refine RW.sreg (rl.run 1 rfl (rl.done (RW.sreg (rl.run 2 rfl ?_))))
 refine rl.gen rfl rfl fun b hb=>?_
 cases b
 ·have h1:=iteBF hF hb
  refine rl.run 6 rfl (rl.done ?_)
  refine RW.kp [6] [(6,.bool false)] [] rfl rfl ?_
  refine RW.ret ?_
  cases h1
  exact RRet.mk rfl .bool (by first | decide | simp)
 ·have h2:=iteBT hF hb
  refine rl.run 6 rfl (rl.done ?_)
  refine RW.kp [6] [(6,.bool (decide (x0 ≤ x2)))] [] rfl rfl ?_
  refine RW.ret ?_
  cases h2
  exact RRet.mk rfl .bool (by first | decide | simp)
theorem law_impl_CheckOk_1_w {x0 : TRef} {x1 : TRef} {r : Bool} (hF : F_impl_CheckOk_1_w x0 x1 = some r) : ACalls Try.prog 1 61 [.agg (enc_TRef false x0),.ptr 0 0] [some ⟨[.j x1.No,.j x1.Gen],0⟩] (.bool r) [some ⟨[.j x1.No,.j x1.Gen],0⟩]:=by
 refine ACalls.of_s k_impl_CheckOk_1 rfl ?_
 unfold F_impl_CheckOk_1_w at hF
 refine RW.sreg (rl.run 2 rfl (rl.done (RW.sreg (rl.run 6 rfl (rl.done (RW.ret ?_))))))
 cases hF
 exact RRetS.mk rfl .bool (Gh.renN [0] (.cells rfl rfl (.keep .int (.keep .int .nil)) .nil) rfl rfl rfl .nil)
theorem law_slices_IndexFunc_Ref_CheckOk_1 {x0 : List TRef} {x1 : TRef} {r : Int} (hF : F_slices_IndexFunc_Ref_CheckOk_1 x0 x1 = some r) : ACalls Try.prog 1 107 [L_TRef x0,.fn 61 [.ptr 0 0]] [some ⟨[.j x1.No,.j x1.Gen],0⟩] (.j r) [some ⟨[.j x1.No,.j x1.Gen],0⟩]:=by
 refine ACalls.of_s k_slices_IndexFunc_Ref rfl ?_
 unfold F_slices_IndexFunc_Ref_CheckOk_1 at hF
 refine RW.sreg (rl.run 1 rfl (rl.done (RW.seq (RW.sreg (rl.run 3 rfl (rl.done ?_))))))
 obtain ⟨y5,ey5,h2⟩:=bindS hF
 refine RW.cutq (σ:=Unit) (fun y2=>[]) (fun y2=>[some ⟨[.j x1.No,.j x1.Gen],0⟩]) (fun y=>y5 = .inr y) (fun _ _ _ _ g h=>RW.gh g h) ?_ ?_
 ·refine RW.blk ?_
  refine RW.iter (σ:=Int) ey5 (fun s1=>[(0,L_TRef x0),(1,.fn 61 [.ptr 0 0]),(7,.j (x0.length : Int)),(8,.j s1)]) (fun s1=>[some ⟨[.j x1.No,.j x1.Gen],0⟩]) (Gh.renN [0] (.cells rfl rfl (.keep .int (.keep .int .nil)) .nil) rfl rfl rfl (.cons rfl (.dat (ek_TRef.rlst)) (.cons rfl (RnL.fn (.cons (.ptr rfl) .nil)) (.cons rfl (.dat .int) (.cons rfl (.dat .int) .nil))))) (fun s1 B o hS1 hB1 hE1=>?_)
  unfold S_slices_IndexFunc_Ref_CheckOk_1_1 at hS1
  refine RW.sreg ?_
  refine rl.gen rfl rfl fun b hb=>?_
  cases b
  ·have h3:=iteBF hS1 hb
   refine rl.done (RW.seq (RW.cond_f rfl (RW.exit (blkA_eq ?_))))
   cases h3
   exact ⟨_,(hE1 _ rfl).symm,(Gh.renN [0] (.cells rfl rfl (.keep .int (.keep .int .nil)) .nil) rfl rfl rfl .nil)⟩
  ·have h4:=iteBT hS1 hb
   refine rl.done (RW.seq (RW.cond_t rfl (RW.skip (RW.seq (RW.blk (RW.sreg (rl.run 2 rfl (rl.done (RW.sreg (rl.run 3 rfl ?_))))))))))
   obtain ⟨v3,e3,h5⟩:=bindS h4
   refine rl.op (x_ia_lst (enc:=enc_TRef) (o:=false) rfl rfl rfl e3) ?_
   refine rl.op (x_ld_ela (off':=0) (vs:=(enc_TRef false v3)) ek_TRef rfl e3 rfl rfl rfl) ?_
   obtain ⟨v4,e4,h6⟩:=bindS h5
   refine rl.call rfl rfl rfl (CallW.embR [0] ok_impl_CheckOk_1 (law_impl_CheckOk_1_w e4) (.cells rfl rfl (.keep .int (.keep .int .nil)) .nil) rfl rfl (.cons (.dat (ek_TRef.rrec)) (.cons (.ptr rfl) .nil)) .bool ?_)
   cases hb : v4
   ·have h7:=iteBF h6 hb
    refine rl.done (RW.cond_f rfl (RW.skip (RW.reg (rl.run 2 rfl (rl.done ?_)))))
    cases h7
    exact hB1 _ rfl _ _ (Gh.renN [0] (.cells rfl rfl (.keep .int (.keep .int .nil)) .nil) rfl rfl rfl (.cons rfl (.dat (ek_TRef.rlst)) (.cons rfl (RnL.fn (.cons (.ptr rfl) .nil)) (.cons rfl (.dat .int) (.cons rfl (.dat .int) .nil)))))
   ·have h8:=iteBT h6 hb
    refine rl.done (RW.cond_t rfl (RW.sreg (rl.run 2 rfl (rl.done ?_))))
    refine RW.kp [4] [(4,.j s1)] [some ⟨[.j x1.No,.j x1.Gen],0⟩] rfl rfl ?_
    refine RW.ret ?_
    cases h8
    have h9:=elimL h2 (hE1 _ rfl)
    cases h9
    exact RRetS.mk rfl .int (Gh.renN [0] (.cells rfl rfl (.keep .int (.keep .int .nil)) .nil) rfl rfl rfl .nil)
 ·intro y2 hC
  have h2:=elimR h2 hC
  refine RW.sreg (rl.run 1 rfl (rl.done (RW.ret ?_)))
  cases h2
  exact RRetS.mk rfl .int (Gh.renN [0] (.cells rfl rfl (.keep .int (.keep .int .nil)) .nil) rfl rfl rfl .nil)
theorem law_slices_ContainsFunc_Ref_CheckOk_1 {x0 : List TRef} {x1 : TRef} {r : Bool} (hF : F_slices_ContainsFunc_Ref_CheckOk_1 x0 x1 = some r) : ACalls Try.prog 1 60 [L_TRef x0,.fn 61 [.ptr 0 0]] [some ⟨[.j x1.No,.j x1.Gen],0⟩] (.bool r) [some ⟨[.j x1.No,.j x1.Gen],0⟩]:=by
 refine ACalls.of_s k_slices_ContainsFunc_Ref rfl ?_
 unfold F_slices_ContainsFunc_Ref_CheckOk_1 at hF
 refine RW.sreg (rl.run 1 rfl (rl.done (RW.sreg (rl.run 2 rfl ?_))))
 obtain ⟨v1,e1,h1⟩:=bindS hF
 refine rl.call rfl rfl rfl (CallW.embR [0] ok_slices_IndexFunc_Ref (law_slices_IndexFunc_Ref_CheckOk_1 e1) (.cells rfl rfl (.keep .int (.keep .int .nil)) .nil) rfl rfl (.cons (.dat (ek_TRef.rlst)) (.cons (RnL.fn (.cons (.ptr rfl) .nil)) .nil)) .int ?_)
 refine rl.run 2 rfl (rl.done (RW.ret ?_))
 cases h1
 exact RRetS.mk rfl .bool (Gh.renN [0] (.cells rfl rfl (.keep .int (.keep .int .nil)) .nil) rfl rfl rfl .nil)
set_option maxHeartbeats 2000000 in
theorem law_impl_CheckOk {x0 : TCheck} {r : Bool} (hF : F_impl_CheckOk x0 = some r) : PCalls Try.prog 15 [.agg (enc_TCheck false x0)] (.bool r):=by
 refine PCalls.of_r k_impl_CheckOk rfl ?_
 unfold F_impl_CheckOk at hF
 refine RW.sreg (rl.run 2 rfl (rl.done (RW.seq (RW.sreg (rl.run 11 rfl (rl.done ?_))))))
 obtain ⟨y5,ey5,h2⟩:=bindS hF
 refine RW.cutq (σ:=Unit) (fun y2=>[(1,.ptr 0 0)]) (fun y2=>[some ⟨[.j x0.Stamp,.j x0.NextGen,.j x0.NextSeq,.j x0.NextValid,L_TRef x0.Refs],0⟩]) (fun y=>y5 = .inr y) (fun _ _ _ _ g h=>RW.gh g h) ?_ ?_
 ·refine RW.blk ?_
  refine RW.iter (σ:=Int) ey5 (fun s1=>[(1,.ptr 0 0),(16,.sl 1 0 [x0.Stamp,x0.NextGen,x0.NextSeq,x0.NextValid].length),(17,.j ([x0.Stamp,x0.NextGen,x0.NextSeq,x0.NextValid].length : Int)),(18,.j s1)]) (fun s1=>[some ⟨[.j x0.Stamp,.j x0.NextGen,.j x0.NextSeq,.j x0.NextValid,L_TRef x0.Refs],0⟩,some ⟨fl (encI true) [x0.Stamp,x0.NextGen,x0.NextSeq,x0.NextValid],1⟩]) (Gh.ren0 [0,1] (.cells rfl rfl (.keep .int (.keep .int (.keep .int (.keep .int (.keep (ek_TRef.rlst) .nil))))) (.same rfl (ekI.fref _ _) .nil)) rfl (.cons rfl (.ptr rfl) (.cons rfl (.slq rfl rfl) (.cons rfl (.dat .int) (.cons rfl (.dat .int) .nil))))) (fun s1 B o hS1 hB1 hE1=>?_)
  unfold S_impl_CheckOk_1 at hS1
  refine RW.sreg ?_
  refine rl.gen rfl rfl fun b hb=>?_
  cases b
  ·have h3:=iteBF hS1 hb
   refine rl.done (RW.seq (RW.cond_f rfl (RW.exit (blkA_eq ?_))))
   cases h3
   exact ⟨_,(hE1 _ rfl).symm,(Gh.ren0 [0] (.cells rfl rfl (.keep .int (.keep .int (.keep .int (.keep .int (.keep (ek_TRef.rlst) .nil))))) .nil) rfl (.cons rfl (.ptr rfl) .nil))⟩
  ·have h4:=iteBT hS1 hb
   refine rl.done (RW.seq (RW.cond_t rfl (RW.skip (RW.seq (RW.blk (RW.sreg ?_))))))
   obtain ⟨v3,e3,h5⟩:=bindS h4
   refine rl.op (x_ia_sl rfl rfl rfl rfl e3) ?_
   refine rl.op (x_ld_sl (o:=true) (off':=0) ekI rfl rfl e3 rfl rfl rfl) ?_
   refine rl.run 1 rfl (rl.done (RW.sreg (rl.run 1 rfl ?_)))
   obtain ⟨v4,e4,h6⟩:=bindS h5
   refine rl.call rfl rfl rfl (CallW.val (r':=.bool v4) ok_impl_in (law_impl_in e4) (.cons .int (.cons .int (.cons .int .nil))) .refl ?_)
   cases hb : v4
   ·have h7:=iteBF h6 hb
    refine rl.run 1 rfl (rl.done (RW.cond_t rfl (RW.sreg (rl.run 1 rfl (rl.done ?_)))))
    refine RW.kp [2] [(2,.bool false)] [some ⟨[.j x0.Stamp,.j x0.NextGen,.j x0.NextSeq,.j x0.NextValid,L_TRef x0.Refs],0⟩,some ⟨fl (encI true) [x0.Stamp,x0.NextGen,x0.NextSeq,x0.NextValid],1⟩] rfl rfl ?_
    refine RW.ret ?_
    cases h7
    have h8:=elimL h2 (hE1 _ rfl)
    cases h8
    exact RRet.mk rfl .bool (by first | decide | simp)
   ·have h9:=iteBT h6 hb
    refine rl.run 1 rfl (rl.done (RW.cond_f rfl (RW.skip (RW.reg (rl.run 2 rfl (rl.done ?_))))))
    cases h9
    exact hB1 _ rfl _ _ (Gh.ren0 [0,1] (.cells rfl rfl (.keep .int (.keep .int (.keep .int (.keep .int (.keep (ek_TRef.rlst) .nil))))) (.same rfl (ekI.fref _ _) .nil)) rfl (.cons rfl (.ptr rfl) (.cons rfl (.slq rfl rfl) (.cons rfl (.dat .int) (.cons rfl (.dat .int) .nil)))))
 ·intro y2 hC
  have h2:=elimR h2 hC
  refine RW.seq (RW.sreg (rl.run 3 rfl ?_))
  obtain ⟨v6,e6,h10⟩:=bindS h2
  refine rl.call rfl rfl rfl (CallW.val (r':=.bool v6) ok_impl_in (law_impl_in e6) (.cons .int (.cons .int (.cons .int .nil))) .refl ?_)
  cases hb : v6
  ·have h11:=iteBF h10 hb
   refine rl.run 1 rfl (rl.done (RW.cond_t rfl (RW.sreg (rl.run 1 rfl (rl.done (RW.ret ?_))))))
   cases h11
   exact RRet.mk rfl .bool (by first | decide | simp)
  ·have h12:=iteBT h10 hb
   refine rl.run 1 rfl (rl.done (RW.cond_f rfl (RW.skip (RW.sreg (rl.run 1 rfl (rl.done (RW.seq (RW.sreg (rl.run 4 rfl (rl.done ?_))))))))))
   obtain ⟨y15,ey15,h14⟩:=bindS h12
   refine RW.cutq (σ:=Unit) (fun y8=>[]) (fun y8=>[]) (fun y=>y15 = .inr y) (fun _ _ _ _ g h=>RW.gh g h) ?_ ?_
   ·refine RW.blk ?_
    refine RW.iter (σ:=Int × Int) ey15 (fun s7=>[(1,.ptr 0 0),(5,.j s7.1),(32,L_TRef x0.Refs),(33,.j (x0.Refs.length : Int)),(34,.j s7.2)]) (fun s7=>[some ⟨[.j x0.Stamp,.j x0.NextGen,.j x0.NextSeq,.j x0.NextValid,L_TRef x0.Refs],0⟩]) (Gh.ren0 [0] (.cells rfl rfl (.keep .int (.keep .int (.keep .int (.keep .int (.keep (ek_TRef.rlst) .nil))))) .nil) rfl (.cons rfl (.ptr rfl) (.cons rfl (.dat .int) (.cons rfl (.dat (ek_TRef.rlst)) (.cons rfl (.dat .int) (.cons rfl (.dat .int) .nil)))))) (fun s7 B o hS13 hB13 hE13=>?_)
    unfold S_impl_CheckOk_2 at hS13
    refine RW.sreg ?_
    refine rl.gen rfl rfl fun b hb=>?_
    cases b
    ·have h15:=iteBF hS13 hb
     refine rl.done (RW.seq (RW.cond_f rfl (RW.exit (blkA_eq ?_))))
     cases h15
     exact ⟨_,(hE13 _ rfl).symm,(Gh.ren0 [] .nil rfl .nil)⟩
    ·have h16:=iteBT hS13 hb
     refine rl.done (RW.seq (RW.cond_t rfl (RW.skip (RW.seq (RW.blk (RW.sreg (rl.run 1 rfl ?_)))))))
     obtain ⟨v9,e9,h17⟩:=bindS h16
     refine rl.op (x_ia_lst (enc:=enc_TRef) (o:=false) rfl rfl rfl e9) ?_
     refine rl.op (x_ld_ela (off':=0) (vs:=(enc_TRef false v9)) ek_TRef rfl e9 rfl rfl rfl) ?_
     refine rl.run 3 rfl (rl.done (RW.seq (RW.seq ?_)))
     obtain ⟨y10,ey10,h18⟩:=bindS h17
     refine RW.cutq (σ:=Bool) (fun y10=>[(1,.ptr 0 0),(7,.ptr 1 0),(32,L_TRef x0.Refs),(33,.j (x0.Refs.length : Int)),(34,.j s7.2),(61,.bool y10)]) (fun y10=>[some ⟨[.j x0.Stamp,.j x0.NextGen,.j x0.NextSeq,.j x0.NextValid,L_TRef x0.Refs],0⟩,some ⟨[.j v9.No,.j v9.Gen],0⟩]) (fun y=>y10 = y) (fun _ _ _ _ g h=>RW.gh g h) ?_ ?_
     ·refine RW.reg ?_
      refine rl.run 7 rfl ?_
      obtain ⟨v11,e11,h19⟩:=bindS ey10
      refine rl.call rfl rfl rfl (CallW.val (r':=.bool v11) ok_impl_in (law_impl_in e11) (.cons .int (.cons .int (.cons .int .nil))) .refl ?_)
      cases hb : v11
      ·have h20:=iteBF h19 hb
       refine rl.run 15 rfl (rl.done ?_)
       cases h20
       exact ⟨_,rfl,(Gh.ren0 [0,1] (.cells rfl rfl (.keep .int (.keep .int (.keep .int (.keep .int (.keep (ek_TRef.rlst) .nil))))) (.cells rfl rfl (.keep .int (.keep .int .nil)) .nil)) rfl (.cons rfl (.ptr rfl) (.cons rfl (.ptr rfl) (.cons rfl (.dat (ek_TRef.rlst)) (.cons rfl (.dat .int) (.cons rfl (.dat .int) (.cons rfl (.dat .bool) .nil)))))))⟩
      ·have h21:=iteBT h19 hb
       refine rl.run 4 rfl ?_
       obtain ⟨v12,e12,h22⟩:=bindS h21
       refine rl.call rfl rfl rfl (CallW.val (r':=.bool v12) ok_impl_in (law_impl_in e12) (.cons .int (.cons .int (.cons .int .nil))) .refl ?_)
       cases hb : v12
       ·have h23:=iteBF h22 hb
        refine rl.run 10 rfl (rl.done ?_)
        cases h23
        exact ⟨_,rfl,(Gh.ren0 [0,1] (.cells rfl rfl (.keep .int (.keep .int (.keep .int (.keep .int (.keep (ek_TRef.rlst) .nil))))) (.cells rfl rfl (.keep .int (.keep .int .nil)) .nil)) rfl (.cons rfl (.ptr rfl) (.cons rfl (.ptr rfl) (.cons rfl (.dat (ek_TRef.rlst)) (.cons rfl (.dat .int) (.cons rfl (.dat .int) (.cons rfl (.dat .bool) .nil)))))))⟩
       ·have h24:=iteBT h22 hb
        refine rl.run 6 rfl ?_
        obtain ⟨v13,e13,h25⟩:=bindS h24
        refine rl.gop rfl (x_sle ek_TRef rfl rfl rfl abnd_hi e13) ?_
        refine rl.run 1 rfl ?_
        obtain ⟨v14,e14,h26⟩:=bindS h25
        refine rl.call rfl rfl rfl (CallW.embR [1] ok_slices_ContainsFunc_Ref (law_slices_ContainsFunc_Ref_CheckOk_1 e14) (.cells rfl rfl (.keep .int (.keep .int .nil)) .nil) rfl rfl (.cons (.dat (ek_TRef.rlst)) (.cons (RnL.fn (.cons (.ptr rfl) .nil)) .nil)) .bool ?_)
        cases hb : v14
        ·have h27:=iteBF h26 hb
         refine rl.run 1 rfl (rl.done ?_)
         cases h27
         exact ⟨_,rfl,(Gh.ren0 [0,1] (.cells rfl rfl (.keep .int (.keep .int (.keep .int (.keep .int (.keep (ek_TRef.rlst) .nil))))) (.cells rfl rfl (.keep .int (.keep .int .nil)) .nil)) rfl (.cons rfl (.ptr rfl) (.cons rfl (.ptr rfl) (.cons rfl (.dat (ek_TRef.rlst)) (.cons rfl (.dat .int) (.cons rfl (.dat .int) (.cons rfl (.dat .bool) .nil)))))))⟩
        ·have h28:=iteBT h26 hb
         refine rl.run 1 rfl (rl.done ?_)
         cases h28
         exact ⟨_,rfl,(Gh.ren0 [0,1] (.cells rfl rfl (.keep .int (.keep .int (.keep .int (.keep .int (.keep (ek_TRef.rlst) .nil))))) (.cells rfl rfl (.keep .int (.keep .int .nil)) .nil)) rfl (.cons rfl (.ptr rfl) (.cons rfl (.ptr rfl) (.cons rfl (.dat (ek_TRef.rlst)) (.cons rfl (.dat .int) (.cons rfl (.dat .int) (.cons rfl (.dat .bool) .nil)))))))⟩
     ·intro y hC
      subst hC
      cases hb : y10
      ·have h29:=iteBF h18 hb
       refine RW.cond_f rfl (RW.skip (RW.reg (rl.run 3 rfl (rl.done (RW.reg (rl.run 2 rfl (rl.done ?_)))))))
       cases h29
       exact hB13 _ rfl _ _ (Gh.ren0 [0] (.cells rfl rfl (.keep .int (.keep .int (.keep .int (.keep .int (.keep (ek_TRef.rlst) .nil))))) .nil) rfl (.cons rfl (.ptr rfl) (.cons rfl (.dat .int) (.cons rfl (.dat (ek_TRef.rlst)) (.cons rfl (.dat .int) (.cons rfl (.dat .int) .nil))))))
      ·have h30:=iteBT h18 hb
       refine RW.cond_t rfl (RW.sreg (rl.run 1 rfl (rl.done (RW.ret ?_))))
       cases h30
       have h31:=elimL h14 (hE13 _ rfl)
       cases h31
       exact RRet.mk rfl .bool (by first | decide | simp)
   ·intro y8 hC
    have h14:=elimR h14 hC
    refine RW.sreg (rl.run 1 rfl (rl.done (RW.ret ?_)))
    cases h14
    exact RRet.mk rfl .bool (by first | decide | simp)
theorem law_impl_varText {x0 : Int} {r : List UInt8} (hF : F_impl_varText x0 = some r) : PCalls Try.prog 48 [.j x0] (.str r):=by
 refine PCalls.of_r k_impl_varText rfl ?_
 unfold F_impl_varText at hF
 refine RW.sreg (rl.run 1 rfl (rl.done (RW.sreg (rl.run 2 rfl (rl.done (RW.seq ?_))))))
 refine RW.gh (Gh.nil_t 3 1 rfl) ?_
 obtain ⟨y4,ey4,h2⟩:=bindS hF
 refine RW.cutq (σ:=Int × (List Int)) (fun y2=>[(0,.j y2.1),(3,.sl 0 0 y2.2.length)]) (fun y2=>[some ⟨fl (encB true) y2.2,1⟩]) (fun y=>y4 = y) (fun _ _ _ _ g h=>RW.gh g h) ?_ ?_
 ·refine RW.blk ?_
  refine RW.iter (σ:=Int × (List Int)) ey4 (fun s1=>[(0,.j s1.1),(3,.sl 0 0 s1.2.length)]) (fun s1=>[some ⟨fl (encB true) s1.2,1⟩]) (Gh.ren0 [0] (.same rfl (ekB.fref _ _) .nil) rfl (.cons rfl (.dat .int) (.cons rfl (.slq rfl rfl) .nil))) (fun s1 B o hS1 hB1 hE1=>?_)
  unfold S_impl_varText_1 at hS1
  refine RW.seq (RW.sreg (rl.run 1 rfl ?_))
  refine rl.gen rfl rfl fun b hb=>?_
  cases b
  ·have h3:=iteBF hS1 hb
   refine rl.done (RW.cond_f rfl (RW.exit (blkA_eq ?_)))
   cases h3
   exact ⟨_,(hE1 _ rfl).symm,(Gh.ren0 [0] (.same rfl (ekB.fref _ _) .nil) rfl (.cons rfl (.dat .int) (.cons rfl (.slq rfl rfl) .nil)))⟩
  ·have h4:=iteBT hS1 hb
   refine rl.done (RW.cond_t rfl (RW.skip (RW.blk (RW.sreg (rl.run 6 rfl ?_)))))
   obtain ⟨v3,e3,h5⟩:=bindS h4
   refine rl.op (x_app rfl rfl (rapp_sl (l:=s1.2) (m:=[IntKind.u8.wrap (orv .i64 (andv .i64 s1.1 127) 128)]) (o:=true) ekB rfl rfl (acont_slq (m:=[IntKind.u8.wrap (orv .i64 (andv .i64 s1.1 127) 128)]) (o:=true) fkB rfl rfl) rfl (fkB.fst _ _) e3)) ?_
   refine rl.run 1 rfl (rl.done (RW.reg (rl.run 3 rfl (rl.done ?_))))
   cases h5
   exact hB1 _ rfl _ _ (Gh.ren0 [2] (.same rfl (ekB.fref _ _) .nil) rfl (.cons rfl (.dat .int) (.cons rfl (.slq rfl rfl) .nil)))
 ·intro y2 hC
  subst hC
  refine RW.sreg (rl.run 4 rfl ?_)
  obtain ⟨v5,e5,h6⟩:=bindS h2
  refine rl.op (x_app rfl rfl (rapp_sl (l:=y4.2) (m:=[IntKind.u8.wrap y4.1]) (o:=true) ekB rfl rfl (acont_slq (m:=[IntKind.u8.wrap y4.1]) (o:=true) fkB rfl rfl) rfl (fkB.fst _ _) e5)) ?_
  refine rl.op (x_cvb_sl (o:=true) (l:=v5) rfl rfl) ?_
  refine rl.run 1 rfl (rl.done (RW.ret ?_))
  cases h6
  exact RRet.mk rfl .str (by first | decide | simp)
theorem law_impl_SumMore {x0 : Int} {x1 : List UInt8} {r : Int} (hF : F_impl_SumMore x0 x1 = some r) : PCalls Try.prog 144 [.int .u32 x0,.str x1] (.int .u32 r):=by
 refine PCalls.of_r k_impl_SumMore rfl ?_
 unfold F_impl_SumMore at hF
 refine RW.sreg (rl.run 1 rfl (rl.done (RW.seq (RW.sreg (rl.run 3 rfl (rl.done ?_))))))
 obtain ⟨y7,ey7,h2⟩:=bindS hF
 refine RW.cutq (σ:=Int) (fun y2=>[(0,.int .u32 y2)]) (fun y2=>[]) (fun y=>y7 = y) (fun _ _ _ _ g h=>RW.gh g h) ?_ ?_
 ·refine RW.blk ?_
  refine RW.iter (σ:=Int × Int) ey7 (fun s1=>[(0,.int .u32 s1.1),(1,.str x1),(8,.j (x1.length : Int)),(9,.j s1.2)]) (fun s1=>[]) (Gh.ren0 [] .nil rfl (.cons rfl (.dat .int) (.cons rfl (.dat .str) (.cons rfl (.dat .int) (.cons rfl (.dat .int) .nil))))) (fun s1 B o hS1 hB1 hE1=>?_)
  unfold S_impl_SumMore_1 at hS1
  refine RW.sreg ?_
  refine rl.gen rfl rfl fun b hb=>?_
  cases b
  ·have h3:=iteBF hS1 hb
   refine rl.done (RW.seq (RW.cond_f rfl (RW.exit (blkA_eq ?_))))
   cases h3
   exact ⟨_,(hE1 _ rfl).symm,(Gh.ren0 [] .nil rfl (.cons rfl (.dat .int) .nil))⟩
  ·have h4:=iteBT hS1 hb
   refine rl.done (RW.seq (RW.cond_t rfl (RW.skip (RW.seq (RW.blk (RW.sreg (rl.run 2 rfl (rl.done (RW.sreg (rl.run 3 rfl ?_))))))))))
   obtain ⟨v3,e3,h5⟩:=bindS h4
   refine rl.op (x_idx rfl rfl e3) ?_
   refine rl.run 3 rfl (rl.done (RW.sreg (rl.run 1 rfl (rl.done ?_))))
   obtain ⟨y6,ey6,h7⟩:=bindS h5
   refine RW.cutq (σ:=Int) (fun y5=>[(0,.int .u32 y5),(1,.str x1),(8,.j (x1.length : Int)),(9,.j s1.2)]) (fun y5=>[]) (fun y=>y6 = y) (fun _ _ _ _ g h=>RW.gh g h) ?_ ?_
   ·refine RW.blk ?_
    refine RW.iter (σ:=Int × Int) ey6 (fun s4=>[(0,.int .u32 s4.1),(1,.str x1),(8,.j (x1.length : Int)),(9,.j s1.2),(18,.j s4.2)]) (fun s4=>[]) (Gh.ren0 [] .nil rfl (.cons rfl (.dat .int) (.cons rfl (.dat .str) (.cons rfl (.dat .int) (.cons rfl (.dat .int) (.cons rfl (.dat .int) .nil)))))) (fun s4 B o hS6 hB6 hE6=>?_)
    unfold S_impl_SumMore_2 at hS6
    refine RW.sreg ?_
    refine rl.gen rfl rfl fun b hb=>?_
    cases b
    ·have h8:=iteBF hS6 hb
     refine rl.done (RW.seq (RW.cond_f rfl (RW.exit (blkA_eq ?_))))
     cases h8
     exact ⟨_,(hE6 _ rfl).symm,(Gh.ren0 [] .nil rfl (.cons rfl (.dat .int) (.cons rfl (.dat .str) (.cons rfl (.dat .int) (.cons rfl (.dat .int) .nil)))))⟩
    ·have h9:=iteBT hS6 hb
     refine rl.done (RW.seq (RW.cond_t rfl (RW.skip (RW.seq (RW.blk (RW.sreg (rl.run 2 rfl ?_)))))))
     refine rl.gen rfl rfl fun b hb=>?_
     cases b
     ·have h10:=iteBF h9 hb
      refine rl.run 1 rfl (rl.done (RW.sreg (rl.run 3 rfl (rl.done (RW.sreg (rl.run 1 rfl (rl.done (RW.cond_f rfl (RW.skip (RW.reg (rl.run 2 rfl ?_)))))))))))
      refine rl.done ?_
      cases h10
      exact hB6 _ rfl _ _ (Gh.ren0 [] .nil rfl (.cons rfl (.dat .int) (.cons rfl (.dat .str) (.cons rfl (.dat .int) (.cons rfl (.dat .int) (.cons rfl (.dat .int) .nil))))))
     ·have h11:=iteBT h9 hb
      refine rl.run 1 rfl (rl.done (RW.sreg (rl.run 3 rfl (rl.done (RW.sreg (rl.run 1 rfl (rl.done (RW.cond_t rfl (RW.reg (rl.run 3 rfl (rl.done ?_)))))))))))
      refine RW.reg (rl.run 2 rfl (rl.done ?_))
      cases h11
      exact hB6 _ rfl _ _ (Gh.ren0 [] .nil rfl (.cons rfl (.dat .int) (.cons rfl (.dat .str) (.cons rfl (.dat .int) (.cons rfl (.dat .int) (.cons rfl (.dat .int) .nil))))))
   ·intro y5 hC
    subst hC
    refine RW.reg (rl.run 2 rfl (rl.done ?_))
    cases h7
    exact hB1 _ rfl _ _ (Gh.ren0 [] .nil rfl (.cons rfl (.dat .int) (.cons rfl (.dat .str) (.cons rfl (.dat .int) (.cons rfl (.dat .int) .nil)))))
 ·intro y2 hC
  subst hC
  refine RW.sreg (rl.run 2 rfl (rl.done (RW.ret ?_)))
  cases h2
  exact RRet.mk rfl .int (by first | decide | simp)
theorem law_impl_SumOf {x0 : List UInt8} {r : Int} (hF : F_impl_SumOf x0 = some r) : PCalls Try.prog 98 [.str x0] (.int .u32 r):=by
 refine PCalls.of_r k_impl_SumOf rfl ?_
 unfold F_impl_SumOf at hF
 refine RW.sreg (rl.run 1 rfl (rl.done (RW.sreg (rl.run 1 rfl ?_))))
 obtain ⟨v1,e1,h1⟩:=bindS hF
 refine rl.call rfl rfl rfl (CallW.val (r':=.int .u32 v1) ok_impl_SumMore (law_impl_SumMore e1) (.cons .int (.cons .str .nil)) .refl ?_)
 refine rl.run 1 rfl (rl.done (RW.ret ?_))
 cases h1
 exact RRet.mk rfl .int (by first | decide | simp)
theorem law_impl_seal {x0 : List UInt8} {r : List UInt8} (hF : F_impl_seal x0 = some r) : PCalls Try.prog 49 [.str x0] (.str r):=by
 refine PCalls.of_r k_impl_seal rfl ?_
 unfold F_impl_seal at hF
 refine RW.sreg (rl.run 1 rfl (rl.done (RW.sreg (rl.run 1 rfl ?_))))
 obtain ⟨v1,e1,h1⟩:=bindS hF
 refine rl.call rfl rfl rfl (CallW.val (r':=.int .u32 v1) ok_impl_SumOf (law_impl_SumOf e1) (.cons .str .nil) .refl ?_)
 refine rl.run 1 rfl (rl.done (RW.sreg (rl.run 12 rfl ?_)))
 refine rl.op (x_cvb_sl (o:=true) (l:=[IntKind.u8.wrap (shrv .u32 v1 24),IntKind.u8.wrap (shrv .u32 v1 16),IntKind.u8.wrap (shrv .u32 v1 8),IntKind.u8.wrap v1]) rfl rfl) ?_
 refine rl.run 1 rfl (rl.done ?_)
 refine RW.kp [2] [(2,.str ([IntKind.u8.wrap (shrv .u32 v1 24),IntKind.u8.wrap (shrv .u32 v1 16),IntKind.u8.wrap (shrv .u32 v1 8),IntKind.u8.wrap v1].map ofI))] [some ⟨fl (encB true) [IntKind.u8.wrap (shrv .u32 v1 24),IntKind.u8.wrap (shrv .u32 v1 16),IntKind.u8.wrap (shrv .u32 v1 8),IntKind.u8.wrap v1],1⟩] rfl rfl ?_
 refine RW.ret ?_
 cases h1
 exact RRet.mk rfl .str (by first | decide | simp)
set_option maxHeartbeats 2000000 in
theorem law_impl_CheckText {x0 : TCheck} {r : (List UInt8) × Bool} (hF : F_impl_CheckText x0 = some r) : PCalls Try.prog 11 [.agg (enc_TCheck false x0)] (.tup [.str r.1,.bool r.2]):=by
 refine PCalls.of_r k_impl_CheckText rfl ?_
 unfold F_impl_CheckText at hF
 refine RW.sreg (rl.run 3 rfl (rl.done (RW.seq (RW.sreg (rl.run 1 rfl ?_)))))
 obtain ⟨v1,e1,h1⟩:=bindS hF
 refine rl.call rfl rfl rfl (CallW.val (r':=.bool v1) ok_impl_CheckOk (law_impl_CheckOk e1) (.cons (DFL.agg (.cons .int (.cons .int (.cons .int (.cons .int (.cons (.lst ek_TRef) .nil)))))) .nil) .refl ?_)
 cases hb : v1
 ·have h2:=iteBF h1 hb
  refine rl.run 1 rfl (rl.done (RW.cond_t rfl (RW.sreg (rl.run 2 rfl (rl.done (RW.ret ?_))))))
  cases h2
  exact RRet.mk rfl (OutT.tup (.cons .str (.cons .bool .nil))) (by first | decide | simp)
 ·have h3:=iteBT h1 hb
  refine rl.run 1 rfl (rl.done (RW.cond_f rfl (RW.skip (RW.sdrw (rdraw.op rfl rfl (rdraw.op rfl rfl ?_))))))
  obtain ⟨v2,e2,h4⟩:=bindS h3
  refine rdraw.call rfl rfl rfl (CallW.val (r':=.str v2) ok_impl_varText (law_impl_varText e2) (.cons .int .nil) .refl ⟨rfl,?_⟩)
  refine rdraw.op rfl rfl (rdraw.op rfl rfl ?_)
  obtain ⟨v3,e3,h5⟩:=bindS h4
  refine rdraw.call rfl rfl rfl (CallW.val (r':=.str v3) ok_impl_varText (law_impl_varText e3) (.cons .int .nil) .refl ⟨rfl,?_⟩)
  obtain ⟨v4,e4,h6⟩:=bindS h5
  refine rdraw.op rfl (x_cat rfl rfl e4) ?_
  refine rdraw.op rfl rfl (rdraw.op rfl rfl ?_)
  obtain ⟨v5,e5,h7⟩:=bindS h6
  refine rdraw.call rfl rfl rfl (CallW.val (r':=.str v5) ok_impl_varText (law_impl_varText e5) (.cons .int .nil) .refl ⟨rfl,?_⟩)
  obtain ⟨v6,e6,h8⟩:=bindS h7
  refine rdraw.op rfl (x_cat rfl rfl e6) ?_
  refine rdraw.op rfl rfl (rdraw.op rfl rfl ?_)
  obtain ⟨v7,e7,h9⟩:=bindS h8
  refine rdraw.call rfl rfl rfl (CallW.val (r':=.str v7) ok_impl_varText (law_impl_varText e7) (.cons .int .nil) .refl ⟨rfl,?_⟩)
  obtain ⟨v8,e8,h10⟩:=bindS h9
  refine rdraw.op rfl (x_cat rfl rfl e8) ?_
  refine rdraw.op rfl rfl (rdraw.op rfl rfl (rdraw.op rfl rfl ?_))
  obtain ⟨v9,e9,h11⟩:=bindS h10
  refine rdraw.call rfl rfl rfl (CallW.val (r':=.str v9) ok_impl_varText (law_impl_varText e9) (.cons .int .nil) .refl ⟨rfl,?_⟩)
  obtain ⟨v10,e10,h12⟩:=bindS h11
  refine rdraw.op rfl (x_cat rfl rfl e10) ?_
  refine rdraw.op rfl rfl (rdraw.done ?_)
  refine RW.kp [1,4] [(1,.ptr 0 0),(4,.str v10)] [some ⟨[.j x0.Stamp,.j x0.NextGen,.j x0.NextSeq,.j x0.NextValid,L_TRef x0.Refs],0⟩] rfl rfl ?_
  refine RW.seq (RW.sreg (rl.run 4 rfl (rl.done ?_)))
  obtain ⟨y18,ey18,h14⟩:=bindS h12
  refine RW.cutq (σ:=(List UInt8)) (fun y12=>[(4,.str y12)]) (fun y12=>[]) (fun y=>y18 = y) (fun _ _ _ _ g h=>RW.gh g h) ?_ ?_
  ·refine RW.blk ?_
   refine RW.iter (σ:=(List UInt8) × Int) ey18 (fun s11=>[(4,.str s11.1),(32,L_TRef x0.Refs),(33,.j (x0.Refs.length : Int)),(34,.j s11.2)]) (fun s11=>[]) (Gh.ren0 [] .nil rfl (.cons rfl (.dat .str) (.cons rfl (.dat (ek_TRef.rlst)) (.cons rfl (.dat .int) (.cons rfl (.dat .int) .nil))))) (fun s11 B o hS13 hB13 hE13=>?_)
   unfold S_impl_CheckText_1 at hS13
   refine RW.sreg ?_
   refine rl.gen rfl rfl fun b hb=>?_
   cases b
   ·have h15:=iteBF hS13 hb
    refine rl.done (RW.seq (RW.cond_f rfl (RW.exit (blkA_eq ?_))))
    cases h15
    exact ⟨_,(hE13 _ rfl).symm,(Gh.ren0 [] .nil rfl (.cons rfl (.dat .str) .nil))⟩
   ·have h16:=iteBT hS13 hb
    refine rl.done (RW.seq (RW.cond_t rfl (RW.skip (RW.seq (RW.blk (RW.sreg ?_))))))
    obtain ⟨v13,e13,h17⟩:=bindS h16
    refine rl.op (x_ia_lst (enc:=enc_TRef) (o:=false) rfl rfl rfl e13) ?_
    refine rl.op (x_ld_ela (off':=0) (vs:=(enc_TRef false v13)) ek_TRef rfl e13 rfl rfl rfl) ?_
    refine rl.run 2 rfl (rl.done (RW.drw (rdraw.op rfl rfl (rdraw.op rfl rfl (rdraw.op rfl rfl ?_)))))
    obtain ⟨v14,e14,h18⟩:=bindS h17
    refine rdraw.call rfl rfl rfl (CallW.val (r':=.str v14) ok_impl_varText (law_impl_varText e14) (.cons .int .nil) .refl ⟨rfl,?_⟩)
    refine rdraw.op rfl rfl (rdraw.op rfl rfl ?_)
    obtain ⟨v15,e15,h19⟩:=bindS h18
    refine rdraw.call rfl rfl rfl (CallW.val (r':=.str v15) ok_impl_varText (law_impl_varText e15) (.cons .int .nil) .refl ⟨rfl,?_⟩)
    obtain ⟨v16,e16,h20⟩:=bindS h19
    refine rdraw.op rfl (x_cat rfl rfl e16) ?_
    obtain ⟨v17,e17,h21⟩:=bindS h20
    refine rdraw.op rfl (x_cat rfl rfl e17) ?_
    refine rdraw.op rfl rfl (rdraw.done (RW.reg (rl.run 2 rfl (rl.done ?_))))
    cases h21
    exact hB13 _ rfl _ _ (Gh.ren0 [] .nil rfl (.cons rfl (.dat .str) (.cons rfl (.dat (ek_TRef.rlst)) (.cons rfl (.dat .int) (.cons rfl (.dat .int) .nil)))))
  ·intro y12 hC
   subst hC
   refine RW.sreg (rl.run 2 rfl ?_)
   obtain ⟨v19,e19,h22⟩:=bindS h14
   refine rl.call rfl rfl rfl (CallW.val (r':=.str v19) ok_impl_seal (law_impl_seal e19) (.cons .str .nil) .refl ?_)
   obtain ⟨v20,e20,h23⟩:=bindS h22
   refine rl.op (x_cat rfl rfl e20) ?_
   refine rl.run 1 rfl (rl.done (RW.sreg (rl.run 2 rfl ?_)))
   obtain ⟨v21,e21,h24⟩:=bindS h23
   refine rl.call rfl rfl rfl (CallW.val (r':=.str v21) ok_impl_varText (law_impl_varText e21) (.cons .int .nil) .refl ?_)
   refine rl.run 1 rfl ?_
   obtain ⟨v22,e22,h25⟩:=bindS h24
   refine rl.op (x_cat rfl rfl e22) ?_
   refine rl.run 1 rfl (rl.done (RW.seq (RW.sreg (rl.run 2 rfl ?_))))
   refine rl.gen rfl rfl fun b hb=>?_
   cases b
   ·have h26:=iteBF h25 hb
    refine rl.done ?_
    refine RW.kp [7,59] [(7,.str v22),(59,.bool false)] [] rfl rfl ?_
    refine RW.cond_f rfl (RW.skip (RW.sreg (rl.run 3 rfl (rl.done (RW.ret ?_)))))
    cases h26
    exact RRet.mk rfl (OutT.tup (.cons .str (.cons .bool .nil))) (by first | decide | simp)
   ·have h27:=iteBT h25 hb
    refine rl.done ?_
    refine RW.kp [7,59] [(7,.str v22),(59,.bool true)] [] rfl rfl ?_
    refine RW.cond_t rfl (RW.sreg (rl.run 2 rfl (rl.done (RW.ret ?_))))
    cases h27
    exact RRet.mk rfl (OutT.tup (.cons .str (.cons .bool .nil))) (by first | decide | simp)
set_option maxHeartbeats 2000000 in
theorem law_impl_ReadVar {x0 : List UInt8} {x1 : Int} {r : Int × Int × Bool} (hF : F_impl_ReadVar x0 x1 = some r) : PCalls Try.prog 52 [.str x0,.j x1] (.tup [.j r.1,.j r.2.1,.bool r.2.2]):=by
 refine PCalls.of_r k_impl_ReadVar rfl ?_
 unfold F_impl_ReadVar at hF
 refine RW.sreg (rl.run 3 rfl (rl.done (RW.seq (RW.sreg (rl.run 3 rfl ?_)))))
 obtain ⟨v1,e1,h1⟩:=bindS hF
 refine rl.call rfl rfl rfl (CallW.val (r':=.bool v1) ok_impl_in (law_impl_in e1) (.cons .int (.cons .int (.cons .int .nil))) .refl ?_)
 cases hb : v1
 ·have h2:=iteBF h1 hb
  refine rl.run 1 rfl (rl.done (RW.cond_t rfl (RW.sreg (rl.run 3 rfl (rl.done (RW.ret ?_))))))
  cases h2
  exact RRet.mk rfl (OutT.tup (.cons .int (.cons .int (.cons .bool .nil)))) (by first | decide | simp)
 ·have h3:=iteBT h1 hb
  refine rl.run 1 rfl (rl.done (RW.cond_f rfl (RW.skip (RW.sreg (rl.run 1 rfl (rl.done (RW.seq (RW.sreg (rl.run 1 rfl (rl.done ?_))))))))))
  obtain ⟨y8,ey8,h5⟩:=bindS h3
  refine RW.cutq (σ:=Unit) (fun y3=>[]) (fun y3=>[]) (fun y=>y8 = .inr y) (fun _ _ _ _ g h=>RW.gh g h) ?_ ?_
  ·refine RW.blk ?_
   refine RW.iter (σ:=Int × Int) ey8 (fun s2=>[(0,.str x0),(1,.j x1),(7,.j s2.1),(8,.j s2.2)]) (fun s2=>[]) (Gh.ren0 [] .nil rfl (.cons rfl (.dat .str) (.cons rfl (.dat .int) (.cons rfl (.dat .int) (.cons rfl (.dat .int) .nil))))) (fun s2 B o hS4 hB4 hE4=>?_)
   unfold S_impl_ReadVar_1 at hS4
   refine RW.seq (RW.seq ?_)
   obtain ⟨y4,ey4,h6⟩:=bindS hS4
   refine RW.cutq (σ:=Bool) (fun y4=>[(0,.str x0),(1,.j x1),(7,.j s2.1),(8,.j s2.2),(24,.bool y4)]) (fun y4=>[]) (fun y=>y4 = y) (fun _ _ _ _ g h=>RW.gh g h) ?_ ?_
   ·refine RW.reg ?_
    refine rl.run 1 rfl ?_
    refine rl.gen rfl rfl fun b hb=>?_
    cases b
    ·have h7:=iteBF ey4 hb
     refine rl.run 8 rfl (rl.done ?_)
     cases h7
     exact ⟨_,rfl,(Gh.ren0 [] .nil rfl (.cons rfl (.dat .str) (.cons rfl (.dat .int) (.cons rfl (.dat .int) (.cons rfl (.dat .int) (.cons rfl (.dat .bool) .nil))))))⟩
    ·have h8:=iteBT ey4 hb
     refine rl.run 6 rfl ?_
     refine rl.gen rfl rfl fun b hb=>?_
     cases b
     ·have h9:=iteBF h8 hb
      refine rl.run 1 rfl (rl.done ?_)
      cases h9
      exact ⟨_,rfl,(Gh.ren0 [] .nil rfl (.cons rfl (.dat .str) (.cons rfl (.dat .int) (.cons rfl (.dat .int) (.cons rfl (.dat .int) (.cons rfl (.dat .bool) .nil))))))⟩
     ·have h10:=iteBT h8 hb
      refine rl.run 1 rfl (rl.done ?_)
      cases h10
      exact ⟨_,rfl,(Gh.ren0 [] .nil rfl (.cons rfl (.dat .str) (.cons rfl (.dat .int) (.cons rfl (.dat .int) (.cons rfl (.dat .int) (.cons rfl (.dat .bool) .nil))))))⟩
   ·intro y hC
    subst hC
    cases hb : y4
    ·have h11:=iteBF h6 hb
     refine RW.cond_f rfl (RW.exit (blkA_eq ?_))
     cases h11
     exact ⟨_,(hE4 _ rfl).symm,(Gh.ren0 [] .nil rfl .nil)⟩
    ·have h12:=iteBT h6 hb
     refine RW.cond_t rfl (RW.skip (RW.seq (RW.blk (RW.sreg (rl.run 4 rfl ?_)))))
     obtain ⟨v5,e5,h13⟩:=bindS h12
     refine rl.op (x_idx rfl rfl e5) ?_
     refine rl.run 2 rfl (rl.done (RW.sreg (rl.run 5 rfl ?_)))
     obtain ⟨v6,e6,h14⟩:=bindS h13
     refine rl.op (x_shl rfl rfl e6) ?_
     refine rl.run 2 rfl (rl.done ?_)
     refine RW.kp [0,1,7,8,9] [(0,.str x0),(1,.j x1),(7,.j (orv .i64 s2.1 v6)),(8,.j s2.2),(9,.j (w64 (v5.toNat : Int)))] [] rfl rfl ?_
     refine RW.seq (RW.sreg (rl.run 1 rfl ?_))
     refine rl.gen rfl rfl fun b hb=>?_
     cases b
     ·have h15:=iteBF h14 hb
      refine rl.done (RW.cond_f rfl (RW.skip (RW.seq (RW.seq ?_))))
      obtain ⟨y7,ey7,h16⟩:=bindS h15
      refine RW.cutq (σ:=Bool) (fun y7=>[(1,.j x1),(7,.j (orv .i64 s2.1 v6)),(8,.j s2.2),(51,.bool y7)]) (fun y7=>[]) (fun y=>y7 = y) (fun _ _ _ _ g h=>RW.gh g h) ?_ ?_
      ·refine RW.reg ?_
       refine rl.run 1 rfl ?_
       refine rl.gen rfl rfl fun b hb=>?_
       cases b
       ·have h17:=iteBF ey7 hb
        refine rl.run 6 rfl ?_
        refine rl.gen rfl rfl fun b hb=>?_
        cases b
        ·have h18:=iteBF h17 hb
         refine rl.run 1 rfl (rl.done ?_)
         cases h18
         exact ⟨_,rfl,(Gh.ren0 [] .nil rfl (.cons rfl (.dat .int) (.cons rfl (.dat .int) (.cons rfl (.dat .int) (.cons rfl (.dat .bool) .nil)))))⟩
        ·have h19:=iteBT h17 hb
         refine rl.run 1 rfl (rl.done ?_)
         cases h19
         exact ⟨_,rfl,(Gh.ren0 [] .nil rfl (.cons rfl (.dat .int) (.cons rfl (.dat .int) (.cons rfl (.dat .int) (.cons rfl (.dat .bool) .nil)))))⟩
       ·have h20:=iteBT ey7 hb
        refine rl.run 2 rfl ?_
        refine rl.gen rfl rfl fun b hb=>?_
        cases b
        ·have h21:=iteBF h20 hb
         refine rl.run 3 rfl ?_
         refine rl.gen rfl rfl fun b hb=>?_
         cases b
         ·have h22:=iteBF h21 hb
          refine rl.run 1 rfl (rl.done ?_)
          cases h22
          exact ⟨_,rfl,(Gh.ren0 [] .nil rfl (.cons rfl (.dat .int) (.cons rfl (.dat .int) (.cons rfl (.dat .int) (.cons rfl (.dat .bool) .nil)))))⟩
         ·have h23:=iteBT h21 hb
          refine rl.run 1 rfl (rl.done ?_)
          cases h23
          exact ⟨_,rfl,(Gh.ren0 [] .nil rfl (.cons rfl (.dat .int) (.cons rfl (.dat .int) (.cons rfl (.dat .int) (.cons rfl (.dat .bool) .nil)))))⟩
        ·have h24:=iteBT h20 hb
         refine rl.run 5 rfl (rl.done ?_)
         cases h24
         exact ⟨_,rfl,(Gh.ren0 [] .nil rfl (.cons rfl (.dat .int) (.cons rfl (.dat .int) (.cons rfl (.dat .int) (.cons rfl (.dat .bool) .nil)))))⟩
      ·intro y hC
       subst hC
       cases hb : y7
       ·have h25:=iteBF h16 hb
        refine RW.cond_f rfl (RW.skip (RW.sreg (rl.run 8 rfl (rl.done (RW.ret ?_)))))
        cases h25
        have h26:=elimL h5 (hE4 _ rfl)
        cases h26
        exact RRet.mk rfl (OutT.tup (.cons .int (.cons .int (.cons .bool .nil)))) (by first | decide | simp)
       ·have h27:=iteBT h16 hb
        refine RW.cond_t rfl (RW.sreg (rl.run 3 rfl (rl.done (RW.ret ?_))))
        cases h27
        have h28:=elimL h5 (hE4 _ rfl)
        cases h28
        exact RRet.mk rfl (OutT.tup (.cons .int (.cons .int (.cons .bool .nil)))) (by first | decide | simp)
     ·have h29:=iteBT h14 hb
      refine rl.done (RW.cond_t rfl (RW.exit (blkA_eq (RW.reg (rl.run 3 rfl (rl.done ?_))))))
      cases h29
      exact hB4 _ rfl _ _ (Gh.ren0 [] .nil rfl (.cons rfl (.dat .str) (.cons rfl (.dat .int) (.cons rfl (.dat .int) (.cons rfl (.dat .int) .nil)))))
  ·intro y3 hC
   have h5:=elimR h5 hC
   refine RW.sreg (rl.run 3 rfl (rl.done (RW.ret ?_)))
   cases h5
   exact RRet.mk rfl (OutT.tup (.cons .int (.cons .int (.cons .bool .nil)))) (by first | decide | simp)
theorem law_impl_ReadShort {x0 : List UInt8} {x1 : Int} {r : (List UInt8) × Int × Bool} (hF : F_impl_ReadShort x0 x1 = some r) : PCalls Try.prog 50 [.str x0,.j x1] (.tup [.str r.1,.j r.2.1,.bool r.2.2]):=by
 refine PCalls.of_r k_impl_ReadShort rfl ?_
 unfold F_impl_ReadShort at hF
 refine RW.sreg (rl.run 3 rfl (rl.done (RW.sreg (rl.run 2 rfl ?_))))
 obtain ⟨v1,e1,h1⟩:=bindS hF
 refine rl.call rfl rfl rfl (CallW.val (r':=.tup [.j v1.1,.j v1.2.1,.bool v1.2.2]) ok_impl_ReadVar (law_impl_ReadVar e1) (.cons .str (.cons .int .nil)) (FlL.tup (.cons .refl (.cons .refl (.cons .refl .nil)))) ?_)
 refine rl.run 7 rfl (rl.done ?_)
 refine RW.kp [0,7,8,9] [(0,.str x0),(7,.j v1.1),(8,.j v1.2.1),(9,.bool v1.2.2)] [] rfl rfl ?_
 refine RW.seq (RW.seq ?_)
 obtain ⟨y2,ey2,h2⟩:=bindS h1
 refine RW.cutq (σ:=Bool) (fun y2=>[(0,.str x0),(7,.j v1.1),(8,.j v1.2.1),(30,.bool y2)]) (fun y2=>[]) (fun y=>y2 = y) (fun _ _ _ _ g h=>RW.gh g h) ?_ ?_
 ·refine RW.reg ?_
  refine rl.run 3 rfl ?_
  cases hb : (!v1.2.2)
  ·have h3:=iteBF ey2 hb
   refine rl.run 1 rfl ?_
   refine rl.gen rfl rfl fun b hb=>?_
   cases b
   ·have h4:=iteBF h3 hb
    refine rl.run 7 rfl ?_
    refine rl.gen rfl rfl fun b hb=>?_
    cases b
    ·have h5:=iteBF h4 hb
     refine rl.run 1 rfl (rl.done ?_)
     cases h5
     exact ⟨_,rfl,(Gh.ren0 [] .nil rfl (.cons rfl (.dat .str) (.cons rfl (.dat .int) (.cons rfl (.dat .int) (.cons rfl (.dat .bool) .nil)))))⟩
    ·have h6:=iteBT h4 hb
     refine rl.run 1 rfl (rl.done ?_)
     cases h6
     exact ⟨_,rfl,(Gh.ren0 [] .nil rfl (.cons rfl (.dat .str) (.cons rfl (.dat .int) (.cons rfl (.dat .int) (.cons rfl (.dat .bool) .nil)))))⟩
   ·have h7:=iteBT h3 hb
    refine rl.run 9 rfl (rl.done ?_)
    cases h7
    exact ⟨_,rfl,(Gh.ren0 [] .nil rfl (.cons rfl (.dat .str) (.cons rfl (.dat .int) (.cons rfl (.dat .int) (.cons rfl (.dat .bool) .nil)))))⟩
  ·have h8:=iteBT ey2 hb
   refine rl.run 11 rfl (rl.done ?_)
   cases h8
   exact ⟨_,rfl,(Gh.ren0 [] .nil rfl (.cons rfl (.dat .str) (.cons rfl (.dat .int) (.cons rfl (.dat .int) (.cons rfl (.dat .bool) .nil)))))⟩
 ·intro y hC
  subst hC
  cases hb : y2
  ·have h9:=iteBF h2 hb
   refine RW.cond_f rfl (RW.skip (RW.sreg (rl.run 5 rfl ?_)))
   obtain ⟨v3,e3,h10⟩:=bindS h9
   refine rl.op (x_sls rfl rfl rfl abnd_both e3) ?_
   refine rl.run 6 rfl (rl.done ?_)
   refine RW.kp [4,5,6] [(4,.str v3),(5,.j (w64 (v1.2.1 + v1.1))),(6,.bool true)] [] rfl rfl ?_
   refine RW.ret ?_
   cases h10
   exact RRet.mk rfl (OutT.tup (.cons .str (.cons .int (.cons .bool .nil)))) (by first | decide | simp)
  ·have h11:=iteBT h2 hb
   refine RW.cond_t rfl (RW.sreg (rl.run 3 rfl (rl.done (RW.ret ?_))))
   cases h11
   exact RRet.mk rfl (OutT.tup (.cons .str (.cons .int (.cons .bool .nil)))) (by first | decide | simp)
theorem law_impl_Unsealed {x0 : List UInt8} {r : (List UInt8) × Bool} (hF : F_impl_Unsealed x0 = some r) : PCalls Try.prog 51 [.str x0] (.tup [.str r.1,.bool r.2]):=by
 refine PCalls.of_r k_impl_Unsealed rfl ?_
 unfold F_impl_Unsealed at hF
 refine RW.sreg (rl.run 2 rfl (rl.done (RW.sreg (rl.run 4 rfl (rl.done (RW.seq (RW.seq ?_)))))))
 obtain ⟨y1,ey1,h1⟩:=bindS hF
 refine RW.cutq (σ:=Bool) (fun y1=>[(0,.str x0),(4,.j (w64 ((x0.length : Int) - 4))),(20,.bool y1)]) (fun y1=>[]) (fun y=>y1 = y) (fun _ _ _ _ g h=>RW.gh g h) ?_ ?_
 ·refine RW.drw ?_
  refine rdraw.op rfl rfl ?_
  obtain ⟨v2,e2,h2⟩:=bindS ey1
  refine rdraw.call rfl rfl rfl (CallW.val (r':=.bool v2) ok_impl_in (law_impl_in e2) (.cons .int (.cons .int (.cons .int .nil))) .refl ⟨rfl,?_⟩)
  cases hb : v2
  ·have h3:=iteBF h2 hb
   refine rdraw.op rfl rfl (rdraw.op rfl rfl (rdraw.off rfl (rdraw.off rfl (rdraw.off rfl (rdraw.off rfl (rdraw.off rfl (rdraw.off rfl (rdraw.off rfl (rdraw.off rfl (rdraw.op rfl rfl (rdraw.done ?_)))))))))))
   cases h3
   exact ⟨_,rfl,(Gh.ren0 [] .nil rfl (.cons rfl (.dat .str) (.cons rfl (.dat .int) (.cons rfl (.dat .bool) .nil))))⟩
  ·have h4:=iteBT h2 hb
   refine rdraw.op rfl rfl (rdraw.op rfl rfl (rdraw.op rfl rfl (rdraw.op rfl rfl ?_)))
   obtain ⟨v3,e3,h5⟩:=bindS h4
   refine rdraw.op rfl (x_sls rfl rfl rfl abnd_lo e3) ?_
   refine rdraw.op rfl rfl (rdraw.op rfl rfl ?_)
   obtain ⟨v4,e4,h6⟩:=bindS h5
   refine rdraw.op rfl (x_sls rfl rfl rfl abnd_hi e4) ?_
   obtain ⟨v5,e5,h7⟩:=bindS h6
   refine rdraw.call rfl rfl rfl (CallW.val (r':=.str v5) ok_impl_seal (law_impl_seal e5) (.cons .str .nil) .refl ⟨rfl,?_⟩)
   refine rdraw.gen rfl rfl fun b hb=>?_
   cases b
   ·have h8:=iteBF h7 hb
    refine rdraw.op rfl rfl (rdraw.done ?_)
    cases h8
    exact ⟨_,rfl,(Gh.ren0 [] .nil rfl (.cons rfl (.dat .str) (.cons rfl (.dat .int) (.cons rfl (.dat .bool) .nil))))⟩
   ·have h9:=iteBT h7 hb
    refine rdraw.op rfl rfl (rdraw.done ?_)
    cases h9
    exact ⟨_,rfl,(Gh.ren0 [] .nil rfl (.cons rfl (.dat .str) (.cons rfl (.dat .int) (.cons rfl (.dat .bool) .nil))))⟩
 ·intro y hC
  subst hC
  cases hb : y1
  ·have h10:=iteBF h1 hb
   refine RW.cond_f rfl (RW.skip (RW.sreg (rl.run 2 rfl ?_)))
   obtain ⟨v6,e6,h11⟩:=bindS h10
   refine rl.op (x_sls rfl rfl rfl abnd_hi e6) ?_
   refine rl.run 2 rfl (rl.done (RW.ret ?_))
   cases h11
   exact RRet.mk rfl (OutT.tup (.cons .str (.cons .bool .nil))) (by first | decide | simp)
  ·have h12:=iteBT h1 hb
   refine RW.cond_t rfl (RW.sreg (rl.run 2 rfl (rl.done (RW.ret ?_))))
   cases h12
   exact RRet.mk rfl (OutT.tup (.cons .str (.cons .bool .nil))) (by first | decide | simp)
set_option maxHeartbeats 2000000 in
theorem law_impl_ReadCheck {x0 : List UInt8} {r : TCheck × Bool} (hF : F_impl_ReadCheck x0 = some r) : PCalls Try.prog 12 [.str x0] (.tup [.agg (enc_TCheck true r.1),.bool r.2]):=by
 refine PCalls.of_r k_impl_ReadCheck rfl ?_
 unfold F_impl_ReadCheck at hF
 refine RW.sreg (rl.run 2 rfl (rl.done (RW.sreg (rl.run 1 rfl ?_))))
 obtain ⟨v1,e1,h1⟩:=bindS hF
 refine rl.call rfl rfl rfl (CallW.val (r':=.tup [.str v1.1,.j v1.2.1,.bool v1.2.2]) ok_impl_ReadShort (law_impl_ReadShort e1) (.cons .str (.cons .int .nil)) (FlL.tup (.cons .refl (.cons .refl (.cons .refl .nil)))) ?_)
 refine rl.run 7 rfl (rl.done (RW.sreg (rl.run 1 rfl ?_)))
 obtain ⟨v2,e2,h2⟩:=bindS h1
 refine rl.call rfl rfl rfl (CallW.val (r':=.tup [.str v2.1,.bool v2.2]) ok_impl_Unsealed (law_impl_Unsealed e2) (.cons .str .nil) (FlL.tup (.cons .refl (.cons .refl .nil))) ?_)
 refine rl.run 5 rfl (rl.done ?_)
 refine RW.kp [0,2,5,6,7,8] [(0,.str x0),(2,.ptr 0 0),(5,.j v1.2.1),(6,.bool v1.2.2),(7,.str v2.1),(8,.bool v2.2)] [some ⟨[.j 0,.j 0,.j 0,.j 0,.nils],0⟩] rfl rfl ?_
 refine RW.seq (RW.sreg (rl.run 3 rfl ?_))
 cases hb : (!v1.2.2)
 ·have h3:=iteBF h2 hb
  refine rl.run 3 rfl (rl.done ?_)
  cases hb : (!v2.2)
  ·have h4:=iteBF h3 hb
   refine RW.cond_f rfl (RW.skip (RW.sreg (rl.run 2 rfl (rl.done (RW.seq (RW.sreg (rl.run 1 rfl (rl.done ?_))))))))
   refine RW.gh (Gh.nil_t 9 1 rfl) ?_
   obtain ⟨y7,ey7,h6⟩:=bindS h4
   refine RW.cutq (σ:=(List Int)) (fun y4=>[(0,.str x0),(2,.ptr 0 0),(5,.j v1.2.1),(9,.sl 1 0 y4.length)]) (fun y4=>[some ⟨[.j 0,.j 0,.j 0,.j 0,.nils],0⟩,some ⟨fl (encI true) y4,1⟩]) (fun y=>y7 = .inr y) (fun _ _ _ _ g h=>RW.gh g h) ?_ ?_
   ·refine RW.blk ?_
    refine RW.iter (σ:=Int × (List Int)) ey7 (fun s3=>[(0,.str x0),(2,.ptr 0 0),(5,.j v1.2.1),(7,.str v2.1),(9,.sl 1 0 s3.2.length),(10,.j s3.1)]) (fun s3=>[some ⟨[.j 0,.j 0,.j 0,.j 0,.nils],0⟩,some ⟨fl (encI true) s3.2,1⟩]) (Gh.ren0 [0,1] (.cells rfl rfl (.keep .int (.keep .int (.keep .int (.keep .int (.keep .nils .nil))))) (.same rfl (ekI.fref _ _) .nil)) rfl (.cons rfl (.dat .str) (.cons rfl (.ptr rfl) (.cons rfl (.dat .int) (.cons rfl (.dat .str) (.cons rfl (.slq rfl rfl) (.cons rfl (.dat .int) .nil))))))) (fun s3 B o hS5 hB5 hE5=>?_)
    unfold S_impl_ReadCheck_1 at hS5
    refine RW.seq (RW.sreg (rl.run 3 rfl ?_))
    refine rl.gen rfl rfl fun b hb=>?_
    cases b
    ·have h7:=iteBF hS5 hb
     refine rl.done (RW.cond_f rfl (RW.exit (blkA_eq ?_)))
     cases h7
     exact ⟨_,(hE5 _ rfl).symm,(Gh.ren0 [0,1] (.cells rfl rfl (.keep .int (.keep .int (.keep .int (.keep .int (.keep .nils .nil))))) (.same rfl (ekI.fref _ _) .nil)) rfl (.cons rfl (.dat .str) (.cons rfl (.ptr rfl) (.cons rfl (.dat .int) (.cons rfl (.slq rfl rfl) .nil)))))⟩
    ·have h8:=iteBT hS5 hb
     refine rl.done (RW.cond_t rfl (RW.skip (RW.blk (RW.sreg (rl.run 2 rfl ?_)))))
     obtain ⟨v5,e5,h9⟩:=bindS h8
     refine rl.call rfl rfl rfl (CallW.val (r':=.tup [.j v5.1,.j v5.2.1,.bool v5.2.2]) ok_impl_ReadVar (law_impl_ReadVar e5) (.cons .str (.cons .int .nil)) (FlL.tup (.cons .refl (.cons .refl (.cons .refl .nil)))) ?_)
     refine rl.run 7 rfl (rl.done ?_)
     refine RW.kp [0,2,5,7,9,11,12,13] [(0,.str x0),(2,.ptr 0 0),(5,.j v1.2.1),(7,.str v2.1),(9,.sl 1 0 s3.2.length),(11,.j v5.1),(12,.j v5.2.1),(13,.bool v5.2.2)] [some ⟨[.j 0,.j 0,.j 0,.j 0,.nils],0⟩,some ⟨fl (encI true) s3.2,1⟩] rfl rfl ?_
     refine RW.seq (RW.sreg (rl.run 2 rfl (rl.done ?_)))
     cases hb : (!v5.2.2)
     ·have h10:=iteBF h9 hb
      refine RW.cond_f rfl (RW.skip (RW.sreg (rl.run 3 rfl ?_)))
      obtain ⟨v6,e6,h11⟩:=bindS h10
      refine rl.op (x_app rfl rfl (rapp_sl (l:=s3.2) (m:=[v5.1]) (o:=true) ekI rfl rfl (acont_slq (m:=[v5.1]) (o:=true) fkI rfl rfl) rfl (fkI.fst _ _) e6)) ?_
      refine rl.run 1 rfl (rl.done (RW.reg (rl.run 2 rfl (rl.done ?_))))
      cases h11
      exact hB5 _ rfl _ _ (Gh.ren0 [0,3] (.cells rfl rfl (.keep .int (.keep .int (.keep .int (.keep .int (.keep .nils .nil))))) (.same rfl (ekI.fref _ _) .nil)) rfl (.cons rfl (.dat .str) (.cons rfl (.ptr rfl) (.cons rfl (.dat .int) (.cons rfl (.dat .str) (.cons rfl (.slq rfl rfl) (.cons rfl (.dat .int) .nil)))))))
     ·have h12:=iteBT h9 hb
      refine RW.cond_t rfl (RW.sreg (rl.run 3 rfl (rl.done (RW.ret ?_))))
      cases h12
      have h13:=elimL h6 (hE5 _ rfl)
      cases h13
      exact RRet.mk rfl (OutT.tup (.cons (OutL.agg (.cons .int rfl (.cons .int rfl (.cons .int rfl (.cons .int rfl (.cons (OutR.nil (enc:=enc_TRef)) rfl .nil)))))) (.cons .bool .nil))) (by first | decide | simp)
   ·intro y4 hC
    have h6:=elimR h6 hC
    refine RW.seq (RW.sreg (rl.run 2 rfl ?_))
    refine rl.gen rfl rfl fun b hb=>?_
    cases b
    ·have h14:=iteBF h6 hb
     refine rl.done (RW.cond_f rfl (RW.skip (RW.sdrw (rdraw.op rfl rfl ?_))))
     obtain ⟨v8,e8,h15⟩:=bindS h14
     refine rdraw.op rfl (x_ia_sl rfl rfl rfl rfl e8) ?_
     refine rdraw.op rfl (x_ld_sl (o:=true) (off':=0) ekI rfl rfl e8 rfl rfl rfl) ?_
     refine rdraw.op rfl rfl ?_
     obtain ⟨v9,e9,h16⟩:=bindS h15
     refine rdraw.op rfl (x_ia_sl rfl rfl rfl rfl e9) ?_
     refine rdraw.op rfl (x_ld_sl (o:=true) (off':=0) ekI rfl rfl e9 rfl rfl rfl) ?_
     refine rdraw.op rfl rfl ?_
     obtain ⟨v10,e10,h17⟩:=bindS h16
     refine rdraw.op rfl (x_ia_sl rfl rfl rfl rfl e10) ?_
     refine rdraw.op rfl (x_ld_sl (o:=true) (off':=0) ekI rfl rfl e10 rfl rfl rfl) ?_
     refine rdraw.op rfl rfl ?_
     obtain ⟨v11,e11,h18⟩:=bindS h17
     refine rdraw.op rfl (x_ia_sl rfl rfl rfl rfl e11) ?_
     refine rdraw.op rfl (x_ld_sl (o:=true) (off':=0) ekI rfl rfl e11 rfl rfl rfl) ?_
     refine rdraw.op rfl rfl ?_
     refine rdraw.chnB rfl rfl (.here (.rx rfl) (.here (.rx (x_ld_sl (o:=true) (off':=0) ekI rfl rfl e11 rfl rfl rfl)) (.here (.rx (x_ia_sl rfl rfl rfl rfl e11)) (.here (.rx rfl) (.here (.rx (x_ld_sl (o:=true) (off':=0) ekI rfl rfl e10 rfl rfl rfl)) (.here (.rx (x_ia_sl rfl rfl rfl rfl e10)) (.here (.rx rfl) (.here (.rx (x_ld_sl (o:=true) (off':=0) ekI rfl rfl e9 rfl rfl rfl)) (.here (.rx (x_ia_sl rfl rfl rfl rfl e9)) (.here (.rx rfl) (.here (.rx (x_ld_sl (o:=true) (off':=0) ekI rfl rfl e8 rfl rfl rfl)) (.here (.rx (x_ia_sl rfl rfl rfl rfl e8)) (.here (.rx rfl) .nil))))))))))))) ?_
     refine rdraw.chn rfl rfl ?_
     refine rdraw.done ?_
     refine RW.kp [0,2,5,9,14] [(0,.str x0),(2,.ptr 0 0),(5,.j v1.2.1),(9,.sl 1 0 y4.length),(14,.ptr 2 0)] [some ⟨[.j 0,.j 0,.j 0,.j 0,.nils],0⟩,some ⟨fl (encI true) y4,1⟩,some ⟨[.j v8,.j v9,.j v10,.j v11,.nils],0⟩] rfl rfl ?_
     refine RW.seq (RW.sreg (rl.run 1 rfl (rl.done ?_)))
     refine RW.gh (Gh.nil_c 2 4 2 rfl rfl) ?_
     obtain ⟨y17,ey17,h20⟩:=bindS h18
     refine RW.cutq (σ:=(List TRef)) (fun y13=>[(0,.str x0),(2,.ptr 0 0),(5,.j v1.2.1),(14,.ptr 1 0)]) (fun y13=>[some ⟨[.j 0,.j 0,.j 0,.j 0,.nils],0⟩,some ⟨[.j v8,.j v9,.j v10,.j v11,.sl 2 0 y13.length],0⟩,some ⟨fl (enc_TRef true) y13,2⟩]) (fun y=>y17 = y) (fun _ _ _ _ g h=>RW.gh g h) ?_ ?_
     ·refine RW.blk ?_
      refine RW.iter (σ:=Int × (List TRef)) ey17 (fun s12=>[(0,.str x0),(2,.ptr 0 0),(5,.j v1.2.1),(9,.sl 1 0 y4.length),(14,.ptr 2 0),(15,.j s12.1)]) (fun s12=>[some ⟨[.j 0,.j 0,.j 0,.j 0,.nils],0⟩,some ⟨fl (encI true) y4,1⟩,some ⟨[.j v8,.j v9,.j v10,.j v11,.sl 3 0 s12.2.length],0⟩,some ⟨fl (enc_TRef true) s12.2,2⟩]) (Gh.ren0 [0,1,2,3] (.cells rfl rfl (.keep .int (.keep .int (.keep .int (.keep .int (.keep .nils .nil))))) (.same rfl (ekI.fref _ _) (.cells rfl rfl (.keep .int (.keep .int (.keep .int (.keep .int (.slq rfl rfl .nil))))) (.same rfl (ek_TRef.fref _ _) .nil)))) rfl (.cons rfl (.dat .str) (.cons rfl (.ptr rfl) (.cons rfl (.dat .int) (.cons rfl (.slq rfl rfl) (.cons rfl (.ptr rfl) (.cons rfl (.dat .int) .nil))))))) (fun s12 B o hS19 hB19 hE19=>?_)
      unfold S_impl_ReadCheck_2 at hS19
      refine RW.seq (RW.sreg (rl.run 4 rfl ?_))
      refine rl.gen rfl rfl fun b hb=>?_
      cases b
      ·have h21:=iteBF hS19 hb
       refine rl.done (RW.cond_f rfl (RW.exit (blkA_eq ?_)))
       cases h21
       exact ⟨_,(hE19 _ rfl).symm,(Gh.ren0 [0,2,3] (.cells rfl rfl (.keep .int (.keep .int (.keep .int (.keep .int (.keep .nils .nil))))) (.cells rfl rfl (.keep .int (.keep .int (.keep .int (.keep .int (.slq rfl rfl .nil))))) (.same rfl (ek_TRef.fref _ _) .nil))) rfl (.cons rfl (.dat .str) (.cons rfl (.ptr rfl) (.cons rfl (.dat .int) (.cons rfl (.ptr rfl) .nil)))))⟩
      ·have h22:=iteBT hS19 hb
       refine rl.done (RW.cond_t rfl (RW.skip (RW.seq (RW.blk (RW.drw (rdraw.op rfl rfl (rdraw.op rfl rfl (rdraw.op rfl rfl (rdraw.op rfl rfl ?_)))))))))
       obtain ⟨v14,e14,h23⟩:=bindS h22
       refine rdraw.op rfl (x_ia_sl rfl rfl rfl rfl e14) ?_
       refine rdraw.op rfl (x_ld_sl (o:=true) (off':=0) ekI rfl rfl e14 rfl rfl rfl) ?_
       refine rdraw.op rfl rfl (rdraw.op rfl rfl (rdraw.op rfl rfl ?_))
       obtain ⟨v15,e15,h24⟩:=bindS h23
       refine rdraw.op rfl (x_ia_sl rfl rfl rfl rfl e15) ?_
       refine rdraw.op rfl (x_ld_sl (o:=true) (off':=0) ekI rfl rfl e15 rfl rfl rfl) ?_
       refine rdraw.op rfl rfl ?_
       refine rdraw.chnB rfl rfl (.skip rfl (.skip rfl (.skip rfl (.skip rfl (.skip rfl (.skip rfl (.skip rfl (.skip rfl (.skip rfl (.skip rfl (.here (.rx rfl) (.here (.rx rfl) .nil)))))))))))) ?_
       obtain ⟨v16,e16,h25⟩:=bindS h24
       refine rdraw.chn rfl (x_app rfl rfl (rapp_sl (l:=s12.2) (m:=[({ No:=v14,Gen:=v15 } : TRef)]) (o:=true) ek_TRef rfl rfl (acont_slq (m:=[({ No:=v14,Gen:=v15 } : TRef)]) (o:=true) fk_TRef rfl rfl) rfl (fk_TRef.fst _ _) e16)) ?_
       refine rdraw.op rfl rfl ?_
       refine rdraw.chn rfl rfl ?_
       refine rdraw.done (RW.reg (rl.run 3 rfl (rl.done ?_)))
       cases h25
       exact hB19 _ rfl _ _ (Gh.ren0 [0,1,2,5] (.cells rfl rfl (.keep .int (.keep .int (.keep .int (.keep .int (.keep .nils .nil))))) (.same rfl (ekI.fref _ _) (.cells rfl rfl (.keep .int (.keep .int (.keep .int (.keep .int (.slq rfl rfl .nil))))) (.same rfl (ek_TRef.fref _ _) .nil)))) rfl (.cons rfl (.dat .str) (.cons rfl (.ptr rfl) (.cons rfl (.dat .int) (.cons rfl (.slq rfl rfl) (.cons rfl (.ptr rfl) (.cons rfl (.dat .int) .nil)))))))
     ·intro y13 hC
      subst hC
      refine RW.seq (RW.sreg (rl.run 1 rfl ?_))
      obtain ⟨v18,e18,h26⟩:=bindS h20
      refine rl.call rfl rfl rfl (CallW.val (r':=.tup [.str v18.1,.bool v18.2]) ok_impl_CheckText (law_impl_CheckText e18) (.cons (DFL.agg (.cons .int (.cons .int (.cons .int (.cons .int (.cons (.slq ek_TRef rfl rfl) .nil)))))) .nil) (FlL.tup (.cons .refl (.cons .refl .nil))) ?_)
      refine rl.run 5 rfl (rl.done (RW.seq ?_))
      obtain ⟨y19,ey19,h27⟩:=bindS h26
      refine RW.cutq (σ:=Bool) (fun y19=>[(2,.ptr 0 0),(14,.ptr 1 0),(108,.bool y19)]) (fun y19=>[some ⟨[.j 0,.j 0,.j 0,.j 0,.nils],0⟩,some ⟨[.j v8,.j v9,.j v10,.j v11,.sl 2 0 y17.length],0⟩,some ⟨fl (enc_TRef true) y17,2⟩]) (fun y=>y19 = y) (fun _ _ _ _ g h=>RW.gh g h) ?_ ?_
      ·refine RW.reg ?_
       refine rl.run 3 rfl ?_
       cases hb : (!v18.2)
       ·have h28:=iteBF ey19 hb
        refine rl.run 3 rfl ?_
        obtain ⟨v20,e20,h29⟩:=bindS h28
        refine rl.gop rfl (x_sls rfl rfl rfl abnd_hi e20) ?_
        refine rl.gen rfl rfl fun b hb=>?_
        cases b
        ·have h30:=iteBF h29 hb
         refine rl.run 1 rfl (rl.done ?_)
         cases h30
         exact ⟨_,rfl,(Gh.ren0 [0,1,2] (.cells rfl rfl (.keep .int (.keep .int (.keep .int (.keep .int (.keep .nils .nil))))) (.cells rfl rfl (.keep .int (.keep .int (.keep .int (.keep .int (.slq rfl rfl .nil))))) (.same rfl (ek_TRef.fref _ _) .nil))) rfl (.cons rfl (.ptr rfl) (.cons rfl (.ptr rfl) (.cons rfl (.dat .bool) .nil))))⟩
        ·have h31:=iteBT h29 hb
         refine rl.run 1 rfl (rl.done ?_)
         cases h31
         exact ⟨_,rfl,(Gh.ren0 [0,1,2] (.cells rfl rfl (.keep .int (.keep .int (.keep .int (.keep .int (.keep .nils .nil))))) (.cells rfl rfl (.keep .int (.keep .int (.keep .int (.keep .int (.slq rfl rfl .nil))))) (.same rfl (ek_TRef.fref _ _) .nil))) rfl (.cons rfl (.ptr rfl) (.cons rfl (.ptr rfl) (.cons rfl (.dat .bool) .nil))))⟩
       ·have h32:=iteBT ey19 hb
        refine rl.run 6 rfl (rl.done ?_)
        cases h32
        exact ⟨_,rfl,(Gh.ren0 [0,1,2] (.cells rfl rfl (.keep .int (.keep .int (.keep .int (.keep .int (.keep .nils .nil))))) (.cells rfl rfl (.keep .int (.keep .int (.keep .int (.keep .int (.slq rfl rfl .nil))))) (.same rfl (ek_TRef.fref _ _) .nil))) rfl (.cons rfl (.ptr rfl) (.cons rfl (.ptr rfl) (.cons rfl (.dat .bool) .nil))))⟩
      ·intro y hC
       subst hC
       cases hb : y19
       ·have h33:=iteBF h27 hb
        refine RW.cond_f rfl (RW.skip (RW.sreg (rl.run 3 rfl (rl.done (RW.ret ?_)))))
        cases h33
        exact RRet.mk rfl (OutT.tup (.cons (OutL.agg (.cons .int rfl (.cons .int rfl (.cons .int rfl (.cons .int rfl (.cons (OutR.ownq ek_TRef rfl rfl) rfl .nil)))))) (.cons .bool .nil))) (by first | decide | simp)
       ·have h34:=iteBT h27 hb
        refine RW.cond_t rfl (RW.sreg (rl.run 3 rfl (rl.done (RW.ret ?_))))
        cases h34
        exact RRet.mk rfl (OutT.tup (.cons (OutL.agg (.cons .int rfl (.cons .int rfl (.cons .int rfl (.cons .int rfl (.cons (OutR.nil (enc:=enc_TRef)) rfl .nil)))))) (.cons .bool .nil))) (by first | decide | simp)
    ·have h35:=iteBT h6 hb
     refine rl.done (RW.cond_t rfl (RW.sreg (rl.run 3 rfl (rl.done (RW.ret ?_)))))
     cases h35
     exact RRet.mk rfl (OutT.tup (.cons (OutL.agg (.cons .int rfl (.cons .int rfl (.cons .int rfl (.cons .int rfl (.cons (OutR.nil (enc:=enc_TRef)) rfl .nil)))))) (.cons .bool .nil))) (by first | decide | simp)
  ·have h36:=iteBT h3 hb
   refine RW.cond_t rfl (RW.sreg (rl.run 3 rfl (rl.done ?_)))
   refine RW.kp [2,3] [(2,.ptr 0 0),(3,.bool false)] [some ⟨[.j 0,.j 0,.j 0,.j 0,.nils],0⟩] rfl rfl ?_
   refine RW.ret ?_
   cases h36
   exact RRet.mk rfl (OutT.tup (.cons (OutL.agg (.cons .int rfl (.cons .int rfl (.cons .int rfl (.cons .int rfl (.cons (OutR.nil (enc:=enc_TRef)) rfl .nil)))))) (.cons .bool .nil))) (by first | decide | simp)
 ·have h37:=iteBT h2 hb
  refine rl.run 3 rfl (rl.done (RW.cond_t rfl (RW.sreg (rl.run 3 rfl (rl.done ?_)))))
  refine RW.kp [2,3] [(2,.ptr 0 0),(3,.bool false)] [some ⟨[.j 0,.j 0,.j 0,.j 0,.nils],0⟩] rfl rfl ?_
  refine RW.ret ?_
  cases h37
  exact RRet.mk rfl (OutT.tup (.cons (OutL.agg (.cons .int rfl (.cons .int rfl (.cons .int rfl (.cons .int rfl (.cons (OutR.nil (enc:=enc_TRef)) rfl .nil)))))) (.cons .bool .nil))) (by first | decide | simp)
theorem law_impl_ReadSector {x0 : TDisk} {x1 : Int} {r : (List UInt8) × Bool} (hF : F_impl_ReadSector x0 x1 = some r) : PCalls Try.prog 105 [.agg (enc_TDisk false x0),.j x1] (.tup [.str r.1,.bool r.2]):=by
 refine PCalls.of_r k_impl_ReadSector rfl ?_
 unfold F_impl_ReadSector at hF
 refine RW.sreg (rl.run 3 rfl (rl.done (RW.seq (RW.sreg (rl.run 5 rfl ?_)))))
 obtain ⟨v1,e1,h1⟩:=bindS hF
 refine rl.call rfl rfl rfl (CallW.val (r':=.bool v1) ok_impl_in (law_impl_in e1) (.cons .int (.cons .int (.cons .int .nil))) .refl ?_)
 cases hb : v1
 ·have h2:=iteBF h1 hb
  refine rl.run 1 rfl (rl.done (RW.cond_t rfl (RW.sreg (rl.run 2 rfl (rl.done (RW.ret ?_))))))
  cases h2
  exact RRet.mk rfl (OutT.tup (.cons .str (.cons .bool .nil))) (by first | decide | simp)
 ·have h3:=iteBT h1 hb
  refine rl.run 1 rfl (rl.done (RW.cond_f rfl (RW.skip (RW.sreg (rl.run 3 rfl ?_)))))
  obtain ⟨v2,e2,h4⟩:=bindS h3
  refine rl.op (x_ia_lst (enc:=encS) (o:=false) rfl rfl rfl e2) ?_
  refine rl.op (x_ld_el (off':=0) ekS rfl e2 rfl rfl rfl) ?_
  refine rl.run 1 rfl (rl.done ?_)
  refine RW.kp [1,2,6] [(1,.j x1),(2,.ptr 0 0),(6,.str v2)] [some ⟨[L_S x0.Sectors,L_TWrite x0.Cache],0⟩] rfl rfl ?_
  refine RW.seq (RW.sreg (rl.run 4 rfl (rl.done ?_)))
  obtain ⟨y6,ey6,h6⟩:=bindS h4
  refine RW.cutq (σ:=(List UInt8)) (fun y4=>[(6,.str y4)]) (fun y4=>[]) (fun y=>y6 = y) (fun _ _ _ _ g h=>RW.gh g h) ?_ ?_
  ·refine RW.blk ?_
   refine RW.iter (σ:=(List UInt8) × Int) ey6 (fun s3=>[(1,.j x1),(6,.str s3.1),(22,L_TWrite x0.Cache),(23,.j (x0.Cache.length : Int)),(24,.j s3.2)]) (fun s3=>[]) (Gh.ren0 [] .nil rfl (.cons rfl (.dat .int) (.cons rfl (.dat .str) (.cons rfl (.dat (ek_TWrite.rlst)) (.cons rfl (.dat .int) (.cons rfl (.dat .int) .nil)))))) (fun s3 B o hS5 hB5 hE5=>?_)
   unfold S_impl_ReadSector_1 at hS5
   refine RW.sreg ?_
   refine rl.gen rfl rfl fun b hb=>?_
   cases b
   ·have h7:=iteBF hS5 hb
    refine rl.done (RW.seq (RW.cond_f rfl (RW.exit (blkA_eq ?_))))
    cases h7
    exact ⟨_,(hE5 _ rfl).symm,(Gh.ren0 [] .nil rfl (.cons rfl (.dat .str) .nil))⟩
   ·have h8:=iteBT hS5 hb
    refine rl.done (RW.seq (RW.cond_t rfl (RW.skip (RW.seq (RW.blk (RW.sreg ?_))))))
    obtain ⟨v5,e5,h9⟩:=bindS h8
    refine rl.op (x_ia_lst (enc:=enc_TWrite) (o:=false) rfl rfl rfl e5) ?_
    refine rl.op (x_ld_ela (off':=0) (vs:=(enc_TWrite false v5)) ek_TWrite rfl e5 rfl rfl rfl) ?_
    refine rl.run 2 rfl (rl.done (RW.sreg (rl.run 3 rfl ?_)))
    refine rl.gen rfl rfl fun b hb=>?_
    cases b
    ·have h10:=iteBF h9 hb
     refine rl.done (RW.cond_f rfl (RW.skip (RW.reg (rl.run 2 rfl (rl.done ?_)))))
     cases h10
     exact hB5 _ rfl _ _ (Gh.ren0 [] .nil rfl (.cons rfl (.dat .int) (.cons rfl (.dat .str) (.cons rfl (.dat (ek_TWrite.rlst)) (.cons rfl (.dat .int) (.cons rfl (.dat .int) .nil))))))
    ·have h11:=iteBT h9 hb
     refine rl.done (RW.cond_t rfl (RW.reg (rl.run 3 rfl (rl.done (RW.reg (rl.run 2 rfl (rl.done ?_)))))))
     cases h11
     exact hB5 _ rfl _ _ (Gh.ren0 [] .nil rfl (.cons rfl (.dat .int) (.cons rfl (.dat .str) (.cons rfl (.dat (ek_TWrite.rlst)) (.cons rfl (.dat .int) (.cons rfl (.dat .int) .nil))))))
  ·intro y4 hC
   subst hC
   refine RW.sreg (rl.run 3 rfl (rl.done (RW.ret ?_)))
   cases h6
   exact RRet.mk rfl (OutT.tup (.cons .str (.cons .bool .nil))) (by first | decide | simp)
theorem law_impl_SectorText {x0 : TDisk} {x1 : Int} {x2 : Int} {r : (List UInt8) × Bool} (hF : F_impl_SectorText x0 x1 x2 = some r) : PCalls Try.prog 58 [.agg (enc_TDisk false x0),.j x1,.j x2] (.tup [.str r.1,.bool r.2]):=by
 refine PCalls.of_r k_impl_SectorText rfl ?_
 unfold F_impl_SectorText at hF
 refine RW.sreg (rl.run 3 rfl (rl.done (RW.seq (RW.sreg (rl.run 1 rfl ?_)))))
 obtain ⟨v1,e1,h1⟩:=bindS hF
 refine rl.call rfl rfl rfl (CallW.val (r':=.bool v1) ok_impl_in (law_impl_in e1) (.cons .int (.cons .int (.cons .int .nil))) .refl ?_)
 cases hb : v1
 ·have h2:=iteBF h1 hb
  refine rl.run 1 rfl (rl.done (RW.cond_t rfl (RW.sreg (rl.run 2 rfl (rl.done (RW.ret ?_))))))
  cases h2
  exact RRet.mk rfl (OutT.tup (.cons .str (.cons .bool .nil))) (by first | decide | simp)
 ·have h3:=iteBT h1 hb
  refine rl.run 1 rfl (rl.done (RW.cond_f rfl (RW.skip (RW.sreg (rl.run 1 rfl (rl.done (RW.seq (RW.sreg (rl.run 2 rfl (rl.done ?_))))))))))
  obtain ⟨y6,ey6,h5⟩:=bindS h3
  refine RW.cutq (σ:=(List UInt8)) (fun y3=>[(8,.str y3)]) (fun y3=>[]) (fun y=>y6 = .inr y) (fun _ _ _ _ g h=>RW.gh g h) ?_ ?_
  ·refine RW.blk ?_
   refine RW.iter (σ:=(List UInt8) × Int) ey6 (fun s2=>[(1,.j x1),(3,.ptr 0 0),(8,.str s2.1),(15,.j x2),(16,.j s2.2)]) (fun s2=>[some ⟨[L_S x0.Sectors,L_TWrite x0.Cache],0⟩]) (Gh.ren0 [0] (.cells rfl rfl (.keep (ekS.rlst) (.keep (ek_TWrite.rlst) .nil)) .nil) rfl (.cons rfl (.dat .int) (.cons rfl (.ptr rfl) (.cons rfl (.dat .str) (.cons rfl (.dat .int) (.cons rfl (.dat .int) .nil)))))) (fun s2 B o hS4 hB4 hE4=>?_)
   unfold S_impl_SectorText_1 at hS4
   refine RW.sreg ?_
   refine rl.gen rfl rfl fun b hb=>?_
   cases b
   ·have h6:=iteBF hS4 hb
    refine rl.done (RW.seq (RW.cond_f rfl (RW.exit (blkA_eq ?_))))
    cases h6
    exact ⟨_,(hE4 _ rfl).symm,(Gh.ren0 [] .nil rfl (.cons rfl (.dat .str) .nil))⟩
   ·have h7:=iteBT hS4 hb
    refine rl.done (RW.seq (RW.cond_t rfl (RW.skip (RW.seq (RW.blk (RW.sreg (rl.run 2 rfl (rl.done (RW.sreg (rl.run 4 rfl ?_))))))))))
    obtain ⟨v4,e4,h8⟩:=bindS h7
    refine rl.call rfl rfl rfl (CallW.val (r':=.tup [.str v4.1,.bool v4.2]) ok_impl_ReadSector (law_impl_ReadSector e4) (.cons (DFL.agg (.cons (.lst ekS) (.cons (.lst ek_TWrite) .nil))) (.cons .int .nil)) (FlL.tup (.cons .refl (.cons .refl .nil))) ?_)
    refine rl.run 5 rfl (rl.done ?_)
    refine RW.kp [1,3,8,10,11,15,16] [(1,.j x1),(3,.ptr 0 0),(8,.str s2.1),(10,.str v4.1),(11,.bool v4.2),(15,.j x2),(16,.j s2.2)] [some ⟨[L_S x0.Sectors,L_TWrite x0.Cache],0⟩] rfl rfl ?_
    refine RW.seq (RW.sreg (rl.run 2 rfl (rl.done ?_)))
    cases hb : (!v4.2)
    ·have h9:=iteBF h8 hb
     refine RW.cond_f rfl (RW.skip (RW.reg (rl.run 2 rfl ?_)))
     obtain ⟨v5,e5,h10⟩:=bindS h9
     refine rl.op (x_cat rfl rfl e5) ?_
     refine rl.run 1 rfl (rl.done (RW.reg (rl.run 2 rfl (rl.done ?_))))
     cases h10
     exact hB4 _ rfl _ _ (Gh.ren0 [0] (.cells rfl rfl (.keep (ekS.rlst) (.keep (ek_TWrite.rlst) .nil)) .nil) rfl (.cons rfl (.dat .int) (.cons rfl (.ptr rfl) (.cons rfl (.dat .str) (.cons rfl (.dat .int) (.cons rfl (.dat .int) .nil))))))
    ·have h11:=iteBT h8 hb
     refine RW.cond_t rfl (RW.sreg (rl.run 2 rfl (rl.done (RW.ret ?_))))
     cases h11
     have h12:=elimL h5 (hE4 _ rfl)
     cases h12
     exact RRet.mk rfl (OutT.tup (.cons .str (.cons .bool .nil))) (by first | decide | simp)
  ·intro y3 hC
   have h5:=elimR h5 hC
   refine RW.sreg (rl.run 3 rfl (rl.done (RW.ret ?_)))
   cases h5
   exact RRet.mk rfl (OutT.tup (.cons .str (.cons .bool .nil))) (by first | decide | simp)
theorem law_impl_NewestCheck {x0 : TDisk} {r : TCheck × Bool} (hF : F_impl_NewestCheck x0 = some r) : PCalls Try.prog 14 [.agg (enc_TDisk false x0)] (.tup [.agg (enc_TCheck true r.1),.bool r.2]):=by
 refine PCalls.of_r k_impl_NewestCheck rfl ?_
 unfold F_impl_NewestCheck at hF
 refine RW.sreg (rl.run 3 rfl (rl.done (RW.sreg (rl.run 4 rfl (rl.done (RW.seq (RW.sreg (rl.run 3 rfl (rl.done ?_)))))))))
 refine RW.gh (Gh.nil_c 2 4 2 rfl rfl) ?_
 obtain ⟨y7,ey7,h2⟩:=bindS hF
 refine RW.cutq (σ:=Bool × Int × Int × Int × Int × (List TRef)) (fun y2=>[(2,.ptr 0 0),(4,.ptr 1 0),(5,.bool y2.1)]) (fun y2=>[some ⟨[.j 0,.j 0,.j 0,.j 0,.nils],0⟩,some ⟨[.j y2.2.1,.j y2.2.2.1,.j y2.2.2.2.1,.j y2.2.2.2.2.1,.sl 2 0 y2.2.2.2.2.2.length],0⟩,some ⟨fl (enc_TRef true) y2.2.2.2.2.2,2⟩]) (fun y=>y7 = y) (fun _ _ _ _ g h=>RW.gh g h) ?_ ?_
 ·refine RW.blk ?_
  refine RW.iter (σ:=Bool × Int × Int × Int × Int × Int × (List TRef)) ey7 (fun s1=>[(1,.ptr 0 0),(2,.ptr 1 0),(4,.ptr 2 0),(5,.bool s1.1),(13,.sl 3 0 ([0,4] : List Int).length),(14,.j (([0,4] : List Int).length : Int)),(15,.j s1.2.1)]) (fun s1=>[some ⟨[L_S x0.Sectors,L_TWrite x0.Cache],0⟩,some ⟨[.j 0,.j 0,.j 0,.j 0,.nils],0⟩,some ⟨[.j s1.2.2.1,.j s1.2.2.2.1,.j s1.2.2.2.2.1,.j s1.2.2.2.2.2.1,.sl 4 0 s1.2.2.2.2.2.2.length],0⟩,some ⟨fl (encI true) ([0,4] : List Int),1⟩,some ⟨fl (enc_TRef true) s1.2.2.2.2.2.2,2⟩]) (Gh.ren0 [0,1,2,3,4] (.cells rfl rfl (.keep (ekS.rlst) (.keep (ek_TWrite.rlst) .nil)) (.cells rfl rfl (.keep .int (.keep .int (.keep .int (.keep .int (.keep .nils .nil))))) (.cells rfl rfl (.keep .int (.keep .int (.keep .int (.keep .int (.slq rfl rfl .nil))))) (.same rfl (ekI.fref _ _) (.same rfl (ek_TRef.fref _ _) .nil))))) rfl (.cons rfl (.ptr rfl) (.cons rfl (.ptr rfl) (.cons rfl (.ptr rfl) (.cons rfl (.dat .bool) (.cons rfl (.slq rfl rfl) (.cons rfl (.dat .int) (.cons rfl (.dat .int) .nil)))))))) (fun s1 B o hS1 hB1 hE1=>?_)
  unfold S_impl_NewestCheck_1 at hS1
  refine RW.sreg ?_
  refine rl.gen rfl rfl fun b hb=>?_
  cases b
  ·have h3:=iteBF hS1 hb
   refine rl.done (RW.seq (RW.cond_f rfl (RW.exit (blkA_eq ?_))))
   cases h3
   exact ⟨_,(hE1 _ rfl).symm,(Gh.ren0 [1,2,4] (.cells rfl rfl (.keep .int (.keep .int (.keep .int (.keep .int (.keep .nils .nil))))) (.cells rfl rfl (.keep .int (.keep .int (.keep .int (.keep .int (.slq rfl rfl .nil))))) (.same rfl (ek_TRef.fref _ _) .nil))) rfl (.cons rfl (.ptr rfl) (.cons rfl (.ptr rfl) (.cons rfl (.dat .bool) .nil))))⟩
  ·have h4:=iteBT hS1 hb
   refine rl.done (RW.seq (RW.cond_t rfl (RW.skip (RW.seq (RW.blk (RW.sreg ?_))))))
   obtain ⟨v3,e3,h5⟩:=bindS h4
   refine rl.op (x_ia_sl rfl rfl rfl rfl e3) ?_
   refine rl.op (x_ld_sl (o:=true) (off':=0) ekI rfl rfl e3 rfl rfl rfl) ?_
   refine rl.run 1 rfl (rl.done (RW.sreg (rl.run 2 rfl ?_)))
   obtain ⟨v4,e4,h6⟩:=bindS h5
   refine rl.call rfl rfl rfl (CallW.val (r':=.tup [.str v4.1,.bool v4.2]) ok_impl_SectorText (law_impl_SectorText e4) (.cons (DFL.agg (.cons (.lst ekS) (.cons (.lst ek_TWrite) .nil))) (.cons .int (.cons .int .nil))) (FlL.tup (.cons .refl (.cons .refl .nil))) ?_)
   refine rl.run 5 rfl (rl.done ?_)
   refine RW.kp [1,2,4,5,8,13,14,15] [(1,.ptr 0 0),(2,.ptr 1 0),(4,.ptr 2 0),(5,.bool s1.1),(8,.str v4.1),(13,.sl 3 0 ([0,4] : List Int).length),(14,.j (([0,4] : List Int).length : Int)),(15,.j s1.2.1)] [some ⟨[L_S x0.Sectors,L_TWrite x0.Cache],0⟩,some ⟨[.j 0,.j 0,.j 0,.j 0,.nils],0⟩,some ⟨[.j s1.2.2.1,.j s1.2.2.2.1,.j s1.2.2.2.2.1,.j s1.2.2.2.2.2.1,.sl 4 0 s1.2.2.2.2.2.2.length],0⟩,some ⟨fl (encI true) ([0,4] : List Int),1⟩,some ⟨fl (enc_TRef true) s1.2.2.2.2.2.2,2⟩] rfl rfl ?_
   refine RW.sreg (rl.run 1 rfl ?_)
   obtain ⟨v5,e5,h7⟩:=bindS h6
   refine rl.call rfl rfl rfl (CallW.own (r':=.tup [.agg [.j v5.1.Stamp,.j v5.1.NextGen,.j v5.1.NextSeq,.j v5.1.NextValid,.sl 5 0 v5.1.Refs.length],.bool v5.2]) (H':=[some ⟨[L_S x0.Sectors,L_TWrite x0.Cache],0⟩,some ⟨[.j 0,.j 0,.j 0,.j 0,.nils],0⟩,some ⟨[.j s1.2.2.1,.j s1.2.2.2.1,.j s1.2.2.2.2.1,.j s1.2.2.2.2.2.1,.sl 4 0 s1.2.2.2.2.2.2.length],0⟩,some ⟨fl (encI true) ([0,4] : List Int),1⟩,some ⟨fl (enc_TRef true) s1.2.2.2.2.2.2,2⟩,some ⟨fl (enc_TRef true) v5.1.Refs,2⟩]) ok_impl_ReadCheck (law_impl_ReadCheck e5) (.cons .str .nil) (fac (ek_TCheck.own _) (fac .bool fan)) rfl ?_)
   refine rl.run 6 rfl (rl.done (RW.seq ?_))
   obtain ⟨y6,ey6,h8⟩:=bindS h7
   refine RW.cutq (σ:=Bool) (fun y6=>[(1,.ptr 0 0),(2,.ptr 1 0),(4,.ptr 2 0),(5,.bool s1.1),(10,.ptr 3 0),(13,.sl 4 0 ([0,4] : List Int).length),(14,.j (([0,4] : List Int).length : Int)),(15,.j s1.2.1),(41,.bool y6)]) (fun y6=>[some ⟨[L_S x0.Sectors,L_TWrite x0.Cache],0⟩,some ⟨[.j 0,.j 0,.j 0,.j 0,.nils],0⟩,some ⟨[.j s1.2.2.1,.j s1.2.2.2.1,.j s1.2.2.2.2.1,.j s1.2.2.2.2.2.1,.sl 5 0 s1.2.2.2.2.2.2.length],0⟩,some ⟨[.j v5.1.Stamp,.j v5.1.NextGen,.j v5.1.NextSeq,.j v5.1.NextValid,.sl 6 0 v5.1.Refs.length],0⟩,some ⟨fl (encI true) ([0,4] : List Int),1⟩,some ⟨fl (enc_TRef true) s1.2.2.2.2.2.2,2⟩,some ⟨fl (enc_TRef true) v5.1.Refs,2⟩]) (fun y=>y6 = y) (fun _ _ _ _ g h=>RW.gh g h) ?_ ?_
   ·refine RW.reg ?_
    refine rl.run 2 rfl ?_
    cases hb : v5.2
    ·have h9:=iteBF ey6 hb
     refine rl.run 10 rfl (rl.done ?_)
     cases h9
     exact ⟨_,rfl,(Gh.ren0 [0,1,2,6,3,4,5] (.cells rfl rfl (.keep (ekS.rlst) (.keep (ek_TWrite.rlst) .nil)) (.cells rfl rfl (.keep .int (.keep .int (.keep .int (.keep .int (.keep .nils .nil))))) (.cells rfl rfl (.keep .int (.keep .int (.keep .int (.keep .int (.slq rfl rfl .nil))))) (.cells rfl rfl (.keep .int (.keep .int (.keep .int (.keep .int (.slq rfl rfl .nil))))) (.same rfl (ekI.fref _ _) (.same rfl (ek_TRef.fref _ _) (.same rfl (ek_TRef.fref _ _) .nil))))))) rfl (.cons rfl (.ptr rfl) (.cons rfl (.ptr rfl) (.cons rfl (.ptr rfl) (.cons rfl (.dat .bool) (.cons rfl (.ptr rfl) (.cons rfl (.slq rfl rfl) (.cons rfl (.dat .int) (.cons rfl (.dat .int) (.cons rfl (.dat .bool) .nil))))))))))⟩
    ·have h10:=iteBT ey6 hb
     refine rl.run 3 rfl ?_
     cases hb : (!s1.1)
     ·have h11:=iteBF h10 hb
      refine rl.run 4 rfl ?_
      refine rl.gen rfl rfl fun b hb=>?_
      cases b
      ·have h12:=iteBF h11 hb
       refine rl.run 2 rfl (rl.done ?_)
       cases h12
       exact ⟨_,rfl,(Gh.ren0 [0,1,2,6,3,4,5] (.cells rfl rfl (.keep (ekS.rlst) (.keep (ek_TWrite.rlst) .nil)) (.cells rfl rfl (.keep .int (.keep .int (.keep .int (.keep .int (.keep .nils .nil))))) (.cells rfl rfl (.keep .int (.keep .int (.keep .int (.keep .int (.slq rfl rfl .nil))))) (.cells rfl rfl (.keep .int (.keep .int (.keep .int (.keep .int (.slq rfl rfl .nil))))) (.same rfl (ekI.fref _ _) (.same rfl (ek_TRef.fref _ _) (.same rfl (ek_TRef.fref _ _) .nil))))))) rfl (.cons rfl (.ptr rfl) (.cons rfl (.ptr rfl) (.cons rfl (.ptr rfl) (.cons rfl (.dat .bool) (.cons rfl (.ptr rfl) (.cons rfl (.slq rfl rfl) (.cons rfl (.dat .int) (.cons rfl (.dat .int) (.cons rfl (.dat .bool) .nil))))))))))⟩
      ·have h13:=iteBT h11 hb
       refine rl.run 2 rfl (rl.done ?_)
       cases h13
       exact ⟨_,rfl,(Gh.ren0 [0,1,2,6,3,4,5] (.cells rfl rfl (.keep (ekS.rlst) (.keep (ek_TWrite.rlst) .nil)) (.cells rfl rfl (.keep .int (.keep .int (.keep .int (.keep .int (.keep .nils .nil))))) (.cells rfl rfl (.keep .int (.keep .int (.keep .int (.keep .int (.slq rfl rfl .nil))))) (.cells rfl rfl (.keep .int (.keep .int (.keep .int (.keep .int (.slq rfl rfl .nil))))) (.same rfl (ekI.fref _ _) (.same rfl (ek_TRef.fref _ _) (.same rfl (ek_TRef.fref _ _) .nil))))))) rfl (.cons rfl (.ptr rfl) (.cons rfl (.ptr rfl) (.cons rfl (.ptr rfl) (.cons rfl (.dat .bool) (.cons rfl (.ptr rfl) (.cons rfl (.slq rfl rfl) (.cons rfl (.dat .int) (.cons rfl (.dat .int) (.cons rfl (.dat .bool) .nil))))))))))⟩
     ·have h14:=iteBT h10 hb
      refine rl.run 7 rfl (rl.done ?_)
      cases h14
      exact ⟨_,rfl,(Gh.ren0 [0,1,2,6,3,4,5] (.cells rfl rfl (.keep (ekS.rlst) (.keep (ek_TWrite.rlst) .nil)) (.cells rfl rfl (.keep .int (.keep .int (.keep .int (.keep .int (.keep .nils .nil))))) (.cells rfl rfl (.keep .int (.keep .int (.keep .int (.keep .int (.slq rfl rfl .nil))))) (.cells rfl rfl (.keep .int (.keep .int (.keep .int (.keep .int (.slq rfl rfl .nil))))) (.same rfl (ekI.fref _ _) (.same rfl (ek_TRef.fref _ _) (.same rfl (ek_TRef.fref _ _) .nil))))))) rfl (.cons rfl (.ptr rfl) (.cons rfl (.ptr rfl) (.cons rfl (.ptr rfl) (.cons rfl (.dat .bool) (.cons rfl (.ptr rfl) (.cons rfl (.slq rfl rfl) (.cons rfl (.dat .int) (.cons rfl (.dat .int) (.cons rfl (.dat .bool) .nil))))))))))⟩
   ·intro y hC
    subst hC
    cases hb : y6
    ·have h15:=iteBF h8 hb
     refine RW.cond_f rfl (RW.skip (RW.reg (rl.run 2 rfl (rl.done ?_))))
     cases h15
     exact hB1 _ rfl _ _ (Gh.ren0 [0,1,2,4,5] (.cells rfl rfl (.keep (ekS.rlst) (.keep (ek_TWrite.rlst) .nil)) (.cells rfl rfl (.keep .int (.keep .int (.keep .int (.keep .int (.keep .nils .nil))))) (.cells rfl rfl (.keep .int (.keep .int (.keep .int (.keep .int (.slq rfl rfl .nil))))) (.same rfl (ekI.fref _ _) (.same rfl (ek_TRef.fref _ _) .nil))))) rfl (.cons rfl (.ptr rfl) (.cons rfl (.ptr rfl) (.cons rfl (.ptr rfl) (.cons rfl (.dat .bool) (.cons rfl (.slq rfl rfl) (.cons rfl (.dat .int) (.cons rfl (.dat .int) .nil))))))))
    ·have h16:=iteBT h8 hb
     refine RW.cond_t rfl (RW.reg (rl.run 3 rfl (rl.done (RW.reg (rl.run 2 rfl (rl.done ?_))))))
     cases h16
     exact hB1 _ rfl _ _ (Gh.ren0 [0,1,2,4,6] (.cells rfl rfl (.keep (ekS.rlst) (.keep (ek_TWrite.rlst) .nil)) (.cells rfl rfl (.keep .int (.keep .int (.keep .int (.keep .int (.keep .nils .nil))))) (.cells rfl rfl (.keep .int (.keep .int (.keep .int (.keep .int (.slq rfl rfl .nil))))) (.same rfl (ekI.fref _ _) (.same rfl (ek_TRef.fref _ _) .nil))))) rfl (.cons rfl (.ptr rfl) (.cons rfl (.ptr rfl) (.cons rfl (.ptr rfl) (.cons rfl (.dat .bool) (.cons rfl (.slq rfl rfl) (.cons rfl (.dat .int) (.cons rfl (.dat .int) .nil))))))))
 ·intro y2 hC
  subst hC
  refine RW.sreg (rl.run 4 rfl (rl.done (RW.ret ?_)))
  cases h2
  exact RRet.mk rfl (OutT.tup (.cons (OutL.agg (.cons .int rfl (.cons .int rfl (.cons .int rfl (.cons .int rfl (.cons (OutR.ownq ek_TRef rfl rfl) rfl .nil)))))) (.cons .bool .nil))) (by first | decide | simp)
theorem law_spec_CheckOf {x0 : TLog} {r : TCheck} (hF : F_spec_CheckOf x0 = some r) : PCalls Try.prog 17 [.agg (enc_TLog false x0)] (.agg (enc_TCheck true r)):=by
 refine PCalls.of_r k_spec_CheckOf rfl ?_
 unfold F_spec_CheckOf at hF
 refine RW.sreg (rl.run 2 rfl (rl.done (RW.sreg (rl.run 12 rfl (rl.done ?_)))))
 refine RW.kp [1,2,3] [(1,.ptr 0 0),(2,.ptr 1 0),(3,.ptr 2 0)] [some ⟨[L_S x0.Disk.Sectors,L_TWrite x0.Disk.Cache,.j x0.Segs,L_TSeg x0.Used,.j x0.NextGen,.j x0.NextSeq,.j x0.Stamp,.j x0.NextValid],0⟩,some ⟨[.j 0,.j 0,.j 0,.j 0,.nils],0⟩,some ⟨[.j (w64 (x0.Stamp + 1)),.j x0.NextGen,.j x0.NextSeq,.j x0.NextValid,.nils],0⟩] rfl rfl ?_
 refine RW.seq (RW.sreg (rl.run 1 rfl (rl.done ?_)))
 refine RW.gh (Gh.nil_c 2 4 2 rfl rfl) ?_
 obtain ⟨y6,ey6,h2⟩:=bindS hF
 refine RW.cutq (σ:=(List TRef)) (fun y2=>[(2,.ptr 0 0),(3,.ptr 1 0)]) (fun y2=>[some ⟨[.j 0,.j 0,.j 0,.j 0,.nils],0⟩,some ⟨[.j (w64 (x0.Stamp + 1)),.j x0.NextGen,.j x0.NextSeq,.j x0.NextValid,.sl 2 0 y2.length],0⟩,some ⟨fl (enc_TRef true) y2,2⟩]) (fun y=>y6 = y) (fun _ _ _ _ g h=>RW.gh g h) ?_ ?_
 ·refine RW.blk ?_
  refine RW.iter (σ:=Int × (List TRef)) ey6 (fun s1=>[(1,.ptr 0 0),(2,.ptr 1 0),(3,.ptr 2 0),(4,.j s1.1)]) (fun s1=>[some ⟨[L_S x0.Disk.Sectors,L_TWrite x0.Disk.Cache,.j x0.Segs,L_TSeg x0.Used,.j x0.NextGen,.j x0.NextSeq,.j x0.Stamp,.j x0.NextValid],0⟩,some ⟨[.j 0,.j 0,.j 0,.j 0,.nils],0⟩,some ⟨[.j (w64 (x0.Stamp + 1)),.j x0.NextGen,.j x0.NextSeq,.j x0.NextValid,.sl 3 0 s1.2.length],0⟩,some ⟨fl (enc_TRef true) s1.2,2⟩]) (Gh.ren0 [0,1,2,3] (.cells rfl rfl (.keep (ekS.rlst) (.keep (ek_TWrite.rlst) (.keep .int (.keep (ek_TSeg.rlst) (.keep .int (.keep .int (.keep .int (.keep .int .nil)))))))) (.cells rfl rfl (.keep .int (.keep .int (.keep .int (.keep .int (.keep .nils .nil))))) (.cells rfl rfl (.keep .int (.keep .int (.keep .int (.keep .int (.slq rfl rfl .nil))))) (.same rfl (ek_TRef.fref _ _) .nil)))) rfl (.cons rfl (.ptr rfl) (.cons rfl (.ptr rfl) (.cons rfl (.ptr rfl) (.cons rfl (.dat .int) .nil))))) (fun s1 B o hS1 hB1 hE1=>?_)
  unfold S_spec_CheckOf_1 at hS1
  refine RW.seq (RW.sreg (rl.run 4 rfl ?_))
  refine rl.gen rfl rfl fun b hb=>?_
  cases b
  ·have h3:=iteBF hS1 hb
   refine rl.done (RW.cond_f rfl (RW.exit (blkA_eq ?_)))
   cases h3
   exact ⟨_,(hE1 _ rfl).symm,(Gh.ren0 [1,2,3] (.cells rfl rfl (.keep .int (.keep .int (.keep .int (.keep .int (.keep .nils .nil))))) (.cells rfl rfl (.keep .int (.keep .int (.keep .int (.keep .int (.slq rfl rfl .nil))))) (.same rfl (ek_TRef.fref _ _) .nil))) rfl (.cons rfl (.ptr rfl) (.cons rfl (.ptr rfl) .nil)))⟩
  ·have h4:=iteBT hS1 hb
   refine rl.done (RW.cond_t rfl (RW.skip (RW.seq (RW.blk (RW.drw (rdraw.op rfl rfl (rdraw.op rfl rfl (rdraw.op rfl rfl (rdraw.op rfl rfl (rdraw.op rfl rfl ?_))))))))))
   obtain ⟨v3,e3,h5⟩:=bindS h4
   refine rdraw.op rfl (x_ia_lst (enc:=enc_TSeg) (o:=false) rfl rfl rfl e3) ?_
   refine rdraw.op rfl rfl ?_
   refine rdraw.op rfl (x_ld_el (off':=0) ek_TSeg rfl e3 rfl rfl rfl) ?_
   refine rdraw.op rfl rfl (rdraw.op rfl rfl (rdraw.op rfl rfl ?_))
   obtain ⟨v4,e4,h6⟩:=bindS h5
   refine rdraw.op rfl (x_ia_lst (enc:=enc_TSeg) (o:=false) rfl rfl rfl e4) ?_
   refine rdraw.op rfl rfl ?_
   refine rdraw.op rfl (x_ld_el (off':=1) ek_TSeg rfl e4 rfl rfl rfl) ?_
   refine rdraw.op rfl rfl ?_
   refine rdraw.chnB rfl rfl (.skip rfl (.skip rfl (.skip rfl (.skip rfl (.skip rfl (.skip rfl (.skip rfl (.skip rfl (.skip rfl (.skip rfl (.skip rfl (.skip rfl (.skip rfl (.here (.rx rfl) (.here (.rx rfl) .nil))))))))))))))) ?_
   obtain ⟨v5,e5,h7⟩:=bindS h6
   refine rdraw.chn rfl (x_app rfl rfl (rapp_sl (l:=s1.2) (m:=[({ No:=v3.No,Gen:=v4.Gen } : TRef)]) (o:=true) ek_TRef rfl rfl (acont_slq (m:=[({ No:=v3.No,Gen:=v4.Gen } : TRef)]) (o:=true) fk_TRef rfl rfl) rfl (fk_TRef.fst _ _) e5)) ?_
   refine rdraw.op rfl rfl ?_
   refine rdraw.chn rfl rfl ?_
   refine rdraw.done (RW.reg (rl.run 3 rfl (rl.done ?_)))
   cases h7
   exact hB1 _ rfl _ _ (Gh.ren0 [0,1,2,5] (.cells rfl rfl (.keep (ekS.rlst) (.keep (ek_TWrite.rlst) (.keep .int (.keep (ek_TSeg.rlst) (.keep .int (.keep .int (.keep .int (.keep .int .nil)))))))) (.cells rfl rfl (.keep .int (.keep .int (.keep .int (.keep .int (.keep .nils .nil))))) (.cells rfl rfl (.keep .int (.keep .int (.keep .int (.keep .int (.slq rfl rfl .nil))))) (.same rfl (ek_TRef.fref _ _) .nil)))) rfl (.cons rfl (.ptr rfl) (.cons rfl (.ptr rfl) (.cons rfl (.ptr rfl) (.cons rfl (.dat .int) .nil)))))
 ·intro y2 hC
  subst hC
  refine RW.sreg (rl.run 2 rfl (rl.done (RW.ret ?_)))
  cases h2
  exact RRet.mk rfl (OutL.agg (.cons .int rfl (.cons .int rfl (.cons .int rfl (.cons .int rfl (.cons (OutR.ownq ek_TRef rfl rfl) rfl .nil)))))) (by first | decide | simp)
theorem law_spec_l01In {x0 : Int} {x1 : Int} {x2 : Int} {r : Bool} (hF : F_spec_l01In x0 x1 x2 = some r) : PCalls Try.prog 67 [.j x0,.j x1,.j x2] (.bool r):=by
 refine PCalls.of_r k_spec_l01In rfl ?_
 unfold F_spec_l01In at hF
 refine RW.sreg (rl.run 1 rfl (rl.done (RW.sreg (rl.run 2 rfl ?_))))
 refine rl.gen rfl rfl fun b hb=>?_
 cases b
 ·have h1:=iteBF hF hb
  refine rl.run 6 rfl (rl.done ?_)
  refine RW.kp [6] [(6,.bool false)] [] rfl rfl ?_
  refine RW.ret ?_
  cases h1
  exact RRet.mk rfl .bool (by first | decide | simp)
 ·have h2:=iteBT hF hb
  refine rl.run 6 rfl (rl.done ?_)
  refine RW.kp [6] [(6,.bool (decide (x0 ≤ x2)))] [] rfl rfl ?_
  refine RW.ret ?_
  cases h2
  exact RRet.mk rfl .bool (by first | decide | simp)
set_option maxHeartbeats 2000000 in
theorem law_spec_CheckOk {x0 : TCheck} {r : Bool} (hF : F_spec_CheckOk x0 = some r) : PCalls Try.prog 62 [.agg (enc_TCheck false x0)] (.bool r):=by
 refine PCalls.of_r k_spec_CheckOk rfl ?_
 unfold F_spec_CheckOk at hF
 refine RW.sreg (rl.run 2 rfl (rl.done (RW.seq (RW.seq ?_))))
 obtain ⟨y1,ey1,h1⟩:=bindS hF
 refine RW.cutq (σ:=Bool) (fun y1=>[(1,.ptr 0 0),(34,.bool y1)]) (fun y1=>[some ⟨[.j x0.Stamp,.j x0.NextGen,.j x0.NextSeq,.j x0.NextValid,L_TRef x0.Refs],0⟩]) (fun y=>y1 = y) (fun _ _ _ _ g h=>RW.gh g h) ?_ ?_
 ·refine RW.reg ?_
  refine rl.run 2 rfl ?_
  obtain ⟨v2,e2,h2⟩:=bindS ey1
  refine rl.call rfl rfl rfl (CallW.val (r':=.bool v2) ok_spec_l01In (law_spec_l01In e2) (.cons .int (.cons .int (.cons .int .nil))) .refl ?_)
  cases hb : v2
  ·have h3:=iteBF h2 hb
   refine rl.run 26 rfl (rl.done ?_)
   cases h3
   exact ⟨_,rfl,(Gh.ren0 [0] (.cells rfl rfl (.keep .int (.keep .int (.keep .int (.keep .int (.keep (ek_TRef.rlst) .nil))))) .nil) rfl (.cons rfl (.ptr rfl) (.cons rfl (.dat .bool) .nil)))⟩
  ·have h4:=iteBT h2 hb
   refine rl.run 4 rfl ?_
   obtain ⟨v3,e3,h5⟩:=bindS h4
   refine rl.call rfl rfl rfl (CallW.val (r':=.bool v3) ok_spec_l01In (law_spec_l01In e3) (.cons .int (.cons .int (.cons .int .nil))) .refl ?_)
   cases hb : v3
   ·have h6:=iteBF h5 hb
    refine rl.run 21 rfl (rl.done ?_)
    cases h6
    exact ⟨_,rfl,(Gh.ren0 [0] (.cells rfl rfl (.keep .int (.keep .int (.keep .int (.keep .int (.keep (ek_TRef.rlst) .nil))))) .nil) rfl (.cons rfl (.ptr rfl) (.cons rfl (.dat .bool) .nil)))⟩
   ·have h7:=iteBT h5 hb
    refine rl.run 5 rfl ?_
    obtain ⟨v4,e4,h8⟩:=bindS h7
    refine rl.call rfl rfl rfl (CallW.val (r':=.bool v4) ok_spec_l01In (law_spec_l01In e4) (.cons .int (.cons .int (.cons .int .nil))) .refl ?_)
    cases hb : v4
    ·have h9:=iteBF h8 hb
     refine rl.run 15 rfl (rl.done ?_)
     cases h9
     exact ⟨_,rfl,(Gh.ren0 [0] (.cells rfl rfl (.keep .int (.keep .int (.keep .int (.keep .int (.keep (ek_TRef.rlst) .nil))))) .nil) rfl (.cons rfl (.ptr rfl) (.cons rfl (.dat .bool) .nil)))⟩
    ·have h10:=iteBT h8 hb
     refine rl.run 5 rfl ?_
     obtain ⟨v5,e5,h11⟩:=bindS h10
     refine rl.call rfl rfl rfl (CallW.val (r':=.bool v5) ok_spec_l01In (law_spec_l01In e5) (.cons .int (.cons .int (.cons .int .nil))) .refl ?_)
     cases hb : v5
     ·have h12:=iteBF h11 hb
      refine rl.run 9 rfl (rl.done ?_)
      cases h12
      exact ⟨_,rfl,(Gh.ren0 [0] (.cells rfl rfl (.keep .int (.keep .int (.keep .int (.keep .int (.keep (ek_TRef.rlst) .nil))))) .nil) rfl (.cons rfl (.ptr rfl) (.cons rfl (.dat .bool) .nil)))⟩
     ·have h13:=iteBT h11 hb
      refine rl.run 6 rfl ?_
      obtain ⟨v6,e6,h14⟩:=bindS h13
      refine rl.call rfl rfl rfl (CallW.val (r':=.bool v6) ok_spec_l01In (law_spec_l01In e6) (.cons .int (.cons .int (.cons .int .nil))) .refl ?_)
      cases hb : v6
      ·have h15:=iteBF h14 hb
       refine rl.run 2 rfl (rl.done ?_)
       cases h15
       exact ⟨_,rfl,(Gh.ren0 [0] (.cells rfl rfl (.keep .int (.keep .int (.keep .int (.keep .int (.keep (ek_TRef.rlst) .nil))))) .nil) rfl (.cons rfl (.ptr rfl) (.cons rfl (.dat .bool) .nil)))⟩
      ·have h16:=iteBT h14 hb
       refine rl.run 2 rfl (rl.done ?_)
       cases h16
       exact ⟨_,rfl,(Gh.ren0 [0] (.cells rfl rfl (.keep .int (.keep .int (.keep .int (.keep .int (.keep (ek_TRef.rlst) .nil))))) .nil) rfl (.cons rfl (.ptr rfl) (.cons rfl (.dat .bool) .nil)))⟩
 ·intro y hC
  subst hC
  cases hb : y1
  ·have h17:=iteBF h1 hb
   refine RW.cond_f rfl (RW.skip (RW.seq (RW.sreg (rl.run 1 rfl (rl.done ?_)))))
   obtain ⟨y18,ey18,h19⟩:=bindS h17
   refine RW.cutq (σ:=Unit) (fun y8=>[]) (fun y8=>[]) (fun y=>y18 = .inr y) (fun _ _ _ _ g h=>RW.gh g h) ?_ ?_
   ·refine RW.blk ?_
    refine RW.iter (σ:=Int) ey18 (fun s7=>[(1,.ptr 0 0),(3,.j s7)]) (fun s7=>[some ⟨[.j x0.Stamp,.j x0.NextGen,.j x0.NextSeq,.j x0.NextValid,L_TRef x0.Refs],0⟩]) (Gh.ren0 [0] (.cells rfl rfl (.keep .int (.keep .int (.keep .int (.keep .int (.keep (ek_TRef.rlst) .nil))))) .nil) rfl (.cons rfl (.ptr rfl) (.cons rfl (.dat .int) .nil))) (fun s7 B o hS18 hB18 hE18=>?_)
    unfold S_spec_CheckOk_1 at hS18
    refine RW.seq (RW.sreg (rl.run 4 rfl ?_))
    refine rl.gen rfl rfl fun b hb=>?_
    cases b
    ·have h20:=iteBF hS18 hb
     refine rl.done (RW.cond_f rfl (RW.exit (blkA_eq ?_)))
     cases h20
     exact ⟨_,(hE18 _ rfl).symm,(Gh.ren0 [] .nil rfl .nil)⟩
    ·have h21:=iteBT hS18 hb
     refine rl.done (RW.cond_t rfl (RW.skip (RW.seq (RW.blk (RW.sreg (rl.run 3 rfl ?_))))))
     obtain ⟨v9,e9,h22⟩:=bindS h21
     refine rl.op (x_ia_lst (enc:=enc_TRef) (o:=false) rfl rfl rfl e9) ?_
     refine rl.op (x_ld_ela (off':=0) (vs:=(enc_TRef false v9)) ek_TRef rfl e9 rfl rfl rfl) ?_
     refine rl.run 2 rfl (rl.done (RW.seq (RW.seq ?_)))
     obtain ⟨y10,ey10,h23⟩:=bindS h22
     refine RW.cutq (σ:=Bool) (fun y10=>[(1,.ptr 0 0),(3,.j s7),(4,.ptr 1 0),(75,.bool y10)]) (fun y10=>[some ⟨[.j x0.Stamp,.j x0.NextGen,.j x0.NextSeq,.j x0.NextValid,L_TRef x0.Refs],0⟩,some ⟨[.j v9.No,.j v9.Gen],0⟩]) (fun y=>y10 = y) (fun _ _ _ _ g h=>RW.gh g h) ?_ ?_
     ·refine RW.drw ?_
      refine rdraw.op rfl rfl (rdraw.op rfl rfl ?_)
      obtain ⟨v11,e11,h24⟩:=bindS ey10
      refine rdraw.call rfl rfl rfl (CallW.val (r':=.bool v11) ok_spec_l01In (law_spec_l01In e11) (.cons .int (.cons .int (.cons .int .nil))) .refl ⟨rfl,?_⟩)
      cases hb : v11
      ·have h25:=iteBF h24 hb
       refine rdraw.op rfl rfl (rdraw.op rfl rfl (rdraw.off rfl (rdraw.off rfl (rdraw.off rfl (rdraw.off rfl (rdraw.off rfl (rdraw.off rfl (rdraw.off rfl (rdraw.op rfl rfl (rdraw.op rfl rfl (rdraw.off rfl ?_)))))))))))
       refine rdraw.off rfl (rdraw.off rfl (rdraw.off rfl (rdraw.off rfl (rdraw.off rfl (rdraw.off rfl (rdraw.off rfl (rdraw.off rfl (rdraw.off rfl (rdraw.off rfl (rdraw.off rfl (rdraw.off rfl ?_)))))))))))
       refine rdraw.off rfl (rdraw.op rfl rfl (rdraw.done ?_))
       cases h25
       exact ⟨_,rfl,(Gh.ren0 [0,1] (.cells rfl rfl (.keep .int (.keep .int (.keep .int (.keep .int (.keep (ek_TRef.rlst) .nil))))) (.cells rfl rfl (.keep .int (.keep .int .nil)) .nil)) rfl (.cons rfl (.ptr rfl) (.cons rfl (.dat .int) (.cons rfl (.ptr rfl) (.cons rfl (.dat .bool) .nil)))))⟩
      ·have h26:=iteBT h24 hb
       refine rdraw.op rfl rfl (rdraw.op rfl rfl (rdraw.op rfl rfl (rdraw.op rfl rfl (rdraw.op rfl rfl (rdraw.op rfl rfl (rdraw.op rfl rfl ?_))))))
       obtain ⟨v12,e12,h27⟩:=bindS h26
       refine rdraw.call rfl rfl rfl (CallW.val (r':=.bool v12) ok_spec_l01In (law_spec_l01In e12) (.cons .int (.cons .int (.cons .int .nil))) .refl ⟨rfl,?_⟩)
       cases hb : v12
       ·have h28:=iteBF h27 hb
        refine rdraw.op rfl rfl (rdraw.op rfl rfl (rdraw.op rfl rfl (rdraw.off rfl (rdraw.off rfl (rdraw.off rfl (rdraw.off rfl (rdraw.off rfl (rdraw.off rfl (rdraw.off rfl (rdraw.off rfl (rdraw.off rfl ?_)))))))))))
        refine rdraw.off rfl (rdraw.off rfl (rdraw.off rfl (rdraw.off rfl (rdraw.off rfl (rdraw.op rfl rfl (rdraw.done ?_))))))
        cases h28
        exact ⟨_,rfl,(Gh.ren0 [0,1] (.cells rfl rfl (.keep .int (.keep .int (.keep .int (.keep .int (.keep (ek_TRef.rlst) .nil))))) (.cells rfl rfl (.keep .int (.keep .int .nil)) .nil)) rfl (.cons rfl (.ptr rfl) (.cons rfl (.dat .int) (.cons rfl (.ptr rfl) (.cons rfl (.dat .bool) .nil)))))⟩
       ·have h29:=iteBT h27 hb
        refine rdraw.op rfl rfl (rdraw.op rfl rfl (rdraw.op rfl rfl (rdraw.op rfl rfl ?_)))
        refine rdraw.gen rfl rfl fun b hb=>?_
        cases b
        ·have h30:=iteBF h29 hb
         refine rdraw.op rfl rfl (rdraw.off rfl (rdraw.off rfl (rdraw.off rfl (rdraw.off rfl (rdraw.off rfl (rdraw.off rfl (rdraw.off rfl (rdraw.off rfl (rdraw.off rfl (rdraw.off rfl (rdraw.op rfl rfl ?_)))))))))))
         refine rdraw.op rfl rfl (rdraw.done ?_)
         cases h30
         exact ⟨_,rfl,(Gh.ren0 [0,1] (.cells rfl rfl (.keep .int (.keep .int (.keep .int (.keep .int (.keep (ek_TRef.rlst) .nil))))) (.cells rfl rfl (.keep .int (.keep .int .nil)) .nil)) rfl (.cons rfl (.ptr rfl) (.cons rfl (.dat .int) (.cons rfl (.ptr rfl) (.cons rfl (.dat .bool) .nil)))))⟩
        ·have h31:=iteBT h29 hb
         refine rdraw.op rfl rfl (rdraw.op rfl rfl (rdraw.op rfl rfl (rdraw.op rfl rfl (rdraw.op rfl rfl ?_))))
         obtain ⟨v13,e13,h32⟩:=bindS h31
         refine rdraw.op rfl (x_ia_lst (enc:=enc_TRef) (o:=false) rfl rfl rfl e13) ?_
         refine rdraw.op rfl rfl ?_
         refine rdraw.op rfl (x_ld_el (off':=1) ek_TRef rfl e13 rfl rfl rfl) ?_
         refine rdraw.op rfl rfl (rdraw.op rfl rfl ?_)
         refine rdraw.gen rfl rfl fun b hb=>?_
         cases b
         ·have h33:=iteBF h32 hb
          refine rdraw.op rfl rfl (rdraw.op rfl rfl (rdraw.done ?_))
          cases h33
          exact ⟨_,rfl,(Gh.ren0 [0,1] (.cells rfl rfl (.keep .int (.keep .int (.keep .int (.keep .int (.keep (ek_TRef.rlst) .nil))))) (.cells rfl rfl (.keep .int (.keep .int .nil)) .nil)) rfl (.cons rfl (.ptr rfl) (.cons rfl (.dat .int) (.cons rfl (.ptr rfl) (.cons rfl (.dat .bool) .nil)))))⟩
         ·have h34:=iteBT h32 hb
          refine rdraw.op rfl rfl (rdraw.op rfl rfl (rdraw.done ?_))
          cases h34
          exact ⟨_,rfl,(Gh.ren0 [0,1] (.cells rfl rfl (.keep .int (.keep .int (.keep .int (.keep .int (.keep (ek_TRef.rlst) .nil))))) (.cells rfl rfl (.keep .int (.keep .int .nil)) .nil)) rfl (.cons rfl (.ptr rfl) (.cons rfl (.dat .int) (.cons rfl (.ptr rfl) (.cons rfl (.dat .bool) .nil)))))⟩
     ·intro y hC
      subst hC
      cases hb : y10
      ·have h35:=iteBF h23 hb
       refine RW.cond_f rfl (RW.skip (RW.sreg (rl.run 1 rfl (rl.done ?_))))
       obtain ⟨y17,ey17,h37⟩:=bindS h35
       refine RW.cutq (σ:=Unit) (fun y15=>[(1,.ptr 0 0),(3,.j s7)]) (fun y15=>[some ⟨[.j x0.Stamp,.j x0.NextGen,.j x0.NextSeq,.j x0.NextValid,L_TRef x0.Refs],0⟩]) (fun y=>y17 = .inr y) (fun _ _ _ _ g h=>RW.gh g h) ?_ ?_
       ·refine RW.blk ?_
        refine RW.iter (σ:=Int) ey17 (fun s14=>[(1,.ptr 0 0),(3,.j s7),(4,.ptr 1 0),(5,.j s14)]) (fun s14=>[some ⟨[.j x0.Stamp,.j x0.NextGen,.j x0.NextSeq,.j x0.NextValid,L_TRef x0.Refs],0⟩,some ⟨[.j v9.No,.j v9.Gen],0⟩]) (Gh.ren0 [0,1] (.cells rfl rfl (.keep .int (.keep .int (.keep .int (.keep .int (.keep (ek_TRef.rlst) .nil))))) (.cells rfl rfl (.keep .int (.keep .int .nil)) .nil)) rfl (.cons rfl (.ptr rfl) (.cons rfl (.dat .int) (.cons rfl (.ptr rfl) (.cons rfl (.dat .int) .nil))))) (fun s14 B o hS36 hB36 hE36=>?_)
        unfold S_spec_CheckOk_2 at hS36
        refine RW.seq (RW.sreg (rl.run 2 rfl ?_))
        refine rl.gen rfl rfl fun b hb=>?_
        cases b
        ·have h38:=iteBF hS36 hb
         refine rl.done (RW.cond_f rfl (RW.exit (blkA_eq ?_)))
         cases h38
         exact ⟨_,(hE36 _ rfl).symm,(Gh.ren0 [0] (.cells rfl rfl (.keep .int (.keep .int (.keep .int (.keep .int (.keep (ek_TRef.rlst) .nil))))) .nil) rfl (.cons rfl (.ptr rfl) (.cons rfl (.dat .int) .nil)))⟩
        ·have h39:=iteBT hS36 hb
         refine rl.done (RW.cond_t rfl (RW.skip (RW.seq (RW.blk (RW.sdrw (rdraw.op rfl rfl (rdraw.op rfl rfl (rdraw.op rfl rfl ?_))))))))
         obtain ⟨v16,e16,h40⟩:=bindS h39
         refine rdraw.op rfl (x_ia_lst (enc:=enc_TRef) (o:=false) rfl rfl rfl e16) ?_
         refine rdraw.op rfl rfl ?_
         refine rdraw.op rfl (x_ld_el (off':=0) ek_TRef rfl e16 rfl rfl rfl) ?_
         refine rdraw.op rfl rfl (rdraw.op rfl rfl ?_)
         refine rdraw.gen rfl rfl fun b hb=>?_
         cases b
         ·have h41:=iteBF h40 hb
          refine rdraw.done ?_
          refine RW.kp [1,3,4,5,89] [(1,.ptr 0 0),(3,.j s7),(4,.ptr 1 0),(5,.j s14),(89,.bool false)] [some ⟨[.j x0.Stamp,.j x0.NextGen,.j x0.NextSeq,.j x0.NextValid,L_TRef x0.Refs],0⟩,some ⟨[.j v9.No,.j v9.Gen],0⟩] rfl rfl ?_
          refine RW.cond_f rfl (RW.skip (RW.reg (rl.run 3 rfl (rl.done ?_))))
          cases h41
          exact hB36 _ rfl _ _ (Gh.ren0 [0,1] (.cells rfl rfl (.keep .int (.keep .int (.keep .int (.keep .int (.keep (ek_TRef.rlst) .nil))))) (.cells rfl rfl (.keep .int (.keep .int .nil)) .nil)) rfl (.cons rfl (.ptr rfl) (.cons rfl (.dat .int) (.cons rfl (.ptr rfl) (.cons rfl (.dat .int) .nil)))))
         ·have h42:=iteBT h40 hb
          refine rdraw.done ?_
          refine RW.kp [1,3,4,5,89] [(1,.ptr 0 0),(3,.j s7),(4,.ptr 1 0),(5,.j s14),(89,.bool true)] [some ⟨[.j x0.Stamp,.j x0.NextGen,.j x0.NextSeq,.j x0.NextValid,L_TRef x0.Refs],0⟩,some ⟨[.j v9.No,.j v9.Gen],0⟩] rfl rfl ?_
          refine RW.cond_t rfl (RW.sreg (rl.run 1 rfl (rl.done (RW.ret ?_))))
          cases h42
          have h43:=elimL h37 (hE36 _ rfl)
          cases h43
          have h44:=elimL h19 (hE18 _ rfl)
          cases h44
          exact RRet.mk rfl .bool (by first | decide | simp)
       ·intro y15 hC
        have h37:=elimR h37 hC
        refine RW.reg (rl.run 3 rfl (rl.done ?_))
        cases h37
        exact hB18 _ rfl _ _ (Gh.ren0 [0] (.cells rfl rfl (.keep .int (.keep .int (.keep .int (.keep .int (.keep (ek_TRef.rlst) .nil))))) .nil) rfl (.cons rfl (.ptr rfl) (.cons rfl (.dat .int) .nil)))
      ·have h45:=iteBT h23 hb
       refine RW.cond_t rfl (RW.sreg (rl.run 1 rfl (rl.done (RW.ret ?_))))
       cases h45
       have h46:=elimL h19 (hE18 _ rfl)
       cases h46
       exact RRet.mk rfl .bool (by first | decide | simp)
   ·intro y8 hC
    have h19:=elimR h19 hC
    refine RW.sreg (rl.run 1 rfl (rl.done (RW.ret ?_)))
    cases h19
    exact RRet.mk rfl .bool (by first | decide | simp)
  ·have h47:=iteBT h1 hb
   refine RW.cond_t rfl (RW.sreg (rl.run 1 rfl (rl.done (RW.ret ?_))))
   cases h47
   exact RRet.mk rfl .bool (by first | decide | simp)
theorem law_spec_l01Var {x0 : Int} {r : List UInt8} (hF : F_spec_l01Var x0 = some r) : PCalls Try.prog 63 [.j x0] (.str r):=by
 refine PCalls.of_r k_spec_l01Var rfl ?_
 unfold F_spec_l01Var at hF
 refine RW.sreg (rl.run 1 rfl (rl.done (RW.sreg (rl.run 2 rfl (rl.done (RW.seq ?_))))))
 refine RW.gh (Gh.nil_t 3 1 rfl) ?_
 obtain ⟨y4,ey4,h2⟩:=bindS hF
 refine RW.cutq (σ:=Int × (List Int)) (fun y2=>[(0,.j y2.1),(3,.sl 0 0 y2.2.length)]) (fun y2=>[some ⟨fl (encB true) y2.2,1⟩]) (fun y=>y4 = y) (fun _ _ _ _ g h=>RW.gh g h) ?_ ?_
 ·refine RW.blk ?_
  refine RW.iter (σ:=Int × (List Int)) ey4 (fun s1=>[(0,.j s1.1),(3,.sl 0 0 s1.2.length)]) (fun s1=>[some ⟨fl (encB true) s1.2,1⟩]) (Gh.ren0 [0] (.same rfl (ekB.fref _ _) .nil) rfl (.cons rfl (.dat .int) (.cons rfl (.slq rfl rfl) .nil))) (fun s1 B o hS1 hB1 hE1=>?_)
  unfold S_spec_l01Var_1 at hS1
  refine RW.seq (RW.sreg (rl.run 1 rfl ?_))
  refine rl.gen rfl rfl fun b hb=>?_
  cases b
  ·have h3:=iteBF hS1 hb
   refine rl.done (RW.cond_f rfl (RW.exit (blkA_eq ?_)))
   cases h3
   exact ⟨_,(hE1 _ rfl).symm,(Gh.ren0 [0] (.same rfl (ekB.fref _ _) .nil) rfl (.cons rfl (.dat .int) (.cons rfl (.slq rfl rfl) .nil)))⟩
  ·have h4:=iteBT hS1 hb
   refine rl.done (RW.cond_t rfl (RW.skip (RW.blk (RW.sreg (rl.run 6 rfl ?_)))))
   obtain ⟨v3,e3,h5⟩:=bindS h4
   refine rl.op (x_app rfl rfl (rapp_sl (l:=s1.2) (m:=[IntKind.u8.wrap (w64 ((Int.tmod s1.1 128) + 128))]) (o:=true) ekB rfl rfl (acont_slq (m:=[IntKind.u8.wrap (w64 ((Int.tmod s1.1 128) + 128))]) (o:=true) fkB rfl rfl) rfl (fkB.fst _ _) e3)) ?_
   refine rl.run 1 rfl (rl.done (RW.reg (rl.run 3 rfl (rl.done ?_))))
   cases h5
   exact hB1 _ rfl _ _ (Gh.ren0 [2] (.same rfl (ekB.fref _ _) .nil) rfl (.cons rfl (.dat .int) (.cons rfl (.slq rfl rfl) .nil)))
 ·intro y2 hC
  subst hC
  refine RW.sreg (rl.run 4 rfl ?_)
  obtain ⟨v5,e5,h6⟩:=bindS h2
  refine rl.op (x_app rfl rfl (rapp_sl (l:=y4.2) (m:=[IntKind.u8.wrap y4.1]) (o:=true) ekB rfl rfl (acont_slq (m:=[IntKind.u8.wrap y4.1]) (o:=true) fkB rfl rfl) rfl (fkB.fst _ _) e5)) ?_
  refine rl.op (x_cvb_sl (o:=true) (l:=v5) rfl rfl) ?_
  refine rl.run 1 rfl (rl.done (RW.ret ?_))
  cases h6
  exact RRet.mk rfl .str (by first | decide | simp)
theorem law_spec_l02Four {x0 : Int} {r : List UInt8} (hF : F_spec_l02Four x0 = some r) : PCalls Try.prog 108 [.int .u32 x0] (.str r):=by
 refine PCalls.of_r k_spec_l02Four rfl ?_
 unfold F_spec_l02Four at hF
 refine RW.sreg (rl.run 1 rfl (rl.done (RW.sreg (rl.run 12 rfl ?_))))
 refine rl.op (x_cvb_sl (o:=true) (l:=[IntKind.u8.wrap (shrv .u32 x0 24),IntKind.u8.wrap (shrv .u32 x0 16),IntKind.u8.wrap (shrv .u32 x0 8),IntKind.u8.wrap x0]) rfl rfl) ?_
 refine rl.run 1 rfl (rl.done ?_)
 refine RW.kp [2] [(2,.str ([IntKind.u8.wrap (shrv .u32 x0 24),IntKind.u8.wrap (shrv .u32 x0 16),IntKind.u8.wrap (shrv .u32 x0 8),IntKind.u8.wrap x0].map ofI))] [some ⟨fl (encB true) [IntKind.u8.wrap (shrv .u32 x0 24),IntKind.u8.wrap (shrv .u32 x0 16),IntKind.u8.wrap (shrv .u32 x0 8),IntKind.u8.wrap x0],1⟩] rfl rfl ?_
 refine RW.ret ?_
 cases hF
 exact RRet.mk rfl .str (by first | decide | simp)
theorem law_spec_SumMore {x0 : Int} {x1 : List UInt8} {r : Int} (hF : F_spec_SumMore x0 x1 = some r) : PCalls Try.prog 147 [.int .u32 x0,.str x1] (.int .u32 r):=by
 refine PCalls.of_r k_spec_SumMore rfl ?_
 unfold F_spec_SumMore at hF
 refine RW.sreg (rl.run 1 rfl (rl.done (RW.seq (RW.sreg (rl.run 1 rfl (rl.done ?_))))))
 obtain ⟨y7,ey7,h2⟩:=bindS hF
 refine RW.cutq (σ:=Int) (fun y2=>[(0,.int .u32 y2)]) (fun y2=>[]) (fun y=>y7 = y) (fun _ _ _ _ g h=>RW.gh g h) ?_ ?_
 ·refine RW.blk ?_
  refine RW.iter (σ:=Int × Int) ey7 (fun s1=>[(0,.int .u32 s1.1),(1,.str x1),(5,.j s1.2)]) (fun s1=>[]) (Gh.ren0 [] .nil rfl (.cons rfl (.dat .int) (.cons rfl (.dat .str) (.cons rfl (.dat .int) .nil)))) (fun s1 B o hS1 hB1 hE1=>?_)
  unfold S_spec_SumMore_1 at hS1
  refine RW.seq (RW.sreg (rl.run 3 rfl ?_))
  refine rl.gen rfl rfl fun b hb=>?_
  cases b
  ·have h3:=iteBF hS1 hb
   refine rl.done (RW.cond_f rfl (RW.exit (blkA_eq ?_)))
   cases h3
   exact ⟨_,(hE1 _ rfl).symm,(Gh.ren0 [] .nil rfl (.cons rfl (.dat .int) .nil))⟩
  ·have h4:=iteBT hS1 hb
   refine rl.done (RW.cond_t rfl (RW.skip (RW.seq (RW.blk (RW.sreg (rl.run 3 rfl ?_))))))
   obtain ⟨v3,e3,h5⟩:=bindS h4
   refine rl.op (x_idx rfl rfl e3) ?_
   refine rl.run 3 rfl (rl.done (RW.sreg (rl.run 1 rfl (rl.done ?_))))
   obtain ⟨y6,ey6,h7⟩:=bindS h5
   refine RW.cutq (σ:=Int) (fun y5=>[(0,.int .u32 y5),(1,.str x1),(5,.j s1.2)]) (fun y5=>[]) (fun y=>y6 = y) (fun _ _ _ _ g h=>RW.gh g h) ?_ ?_
   ·refine RW.blk ?_
    refine RW.iter (σ:=Int × Int) ey6 (fun s4=>[(0,.int .u32 s4.1),(1,.str x1),(5,.j s1.2),(6,.j s4.2)]) (fun s4=>[]) (Gh.ren0 [] .nil rfl (.cons rfl (.dat .int) (.cons rfl (.dat .str) (.cons rfl (.dat .int) (.cons rfl (.dat .int) .nil))))) (fun s4 B o hS6 hB6 hE6=>?_)
    unfold S_spec_SumMore_2 at hS6
    refine RW.seq (RW.sreg (rl.run 1 rfl ?_))
    refine rl.gen rfl rfl fun b hb=>?_
    cases b
    ·have h8:=iteBF hS6 hb
     refine rl.done (RW.cond_f rfl (RW.exit (blkA_eq ?_)))
     cases h8
     exact ⟨_,(hE6 _ rfl).symm,(Gh.ren0 [] .nil rfl (.cons rfl (.dat .int) (.cons rfl (.dat .str) (.cons rfl (.dat .int) .nil))))⟩
    ·have h9:=iteBT hS6 hb
     refine rl.done (RW.cond_t rfl (RW.skip (RW.seq (RW.blk (RW.sreg (rl.run 2 rfl ?_))))))
     refine rl.gen rfl rfl fun b hb=>?_
     cases b
     ·have h10:=iteBF h9 hb
      refine rl.run 1 rfl (rl.done (RW.sreg (rl.run 3 rfl (rl.done (RW.sreg (rl.run 1 rfl (rl.done (RW.cond_f rfl (RW.skip (RW.reg (rl.run 3 rfl ?_)))))))))))
      refine rl.done ?_
      cases h10
      exact hB6 _ rfl _ _ (Gh.ren0 [] .nil rfl (.cons rfl (.dat .int) (.cons rfl (.dat .str) (.cons rfl (.dat .int) (.cons rfl (.dat .int) .nil)))))
     ·have h11:=iteBT h9 hb
      refine rl.run 1 rfl (rl.done (RW.sreg (rl.run 3 rfl (rl.done (RW.sreg (rl.run 1 rfl (rl.done (RW.cond_t rfl (RW.reg (rl.run 3 rfl (rl.done ?_)))))))))))
      refine RW.reg (rl.run 3 rfl (rl.done ?_))
      cases h11
      exact hB6 _ rfl _ _ (Gh.ren0 [] .nil rfl (.cons rfl (.dat .int) (.cons rfl (.dat .str) (.cons rfl (.dat .int) (.cons rfl (.dat .int) .nil)))))
   ·intro y5 hC
    subst hC
    refine RW.reg (rl.run 3 rfl (rl.done ?_))
    cases h7
    exact hB1 _ rfl _ _ (Gh.ren0 [] .nil rfl (.cons rfl (.dat .int) (.cons rfl (.dat .str) (.cons rfl (.dat .int) .nil))))
 ·intro y2 hC
  subst hC
  refine RW.sreg (rl.run 2 rfl (rl.done (RW.ret ?_)))
  cases h2
  exact RRet.mk rfl .int (by first | decide | simp)
theorem law_spec_SumOf {x0 : List UInt8} {r : Int} (hF : F_spec_SumOf x0 = some r) : PCalls Try.prog 109 [.str x0] (.int .u32 r):=by
 refine PCalls.of_r k_spec_SumOf rfl ?_
 unfold F_spec_SumOf at hF
 refine RW.sreg (rl.run 1 rfl (rl.done (RW.sreg (rl.run 1 rfl ?_))))
 obtain ⟨v1,e1,h1⟩:=bindS hF
 refine rl.call rfl rfl rfl (CallW.val (r':=.int .u32 v1) ok_spec_SumMore (law_spec_SumMore e1) (.cons .int (.cons .str .nil)) .refl ?_)
 refine rl.run 1 rfl (rl.done (RW.ret ?_))
 cases h1
 exact RRet.mk rfl .int (by first | decide | simp)
theorem law_spec_Sealed {x0 : List UInt8} {r : (List UInt8) × Bool} (hF : F_spec_Sealed x0 = some r) : PCalls Try.prog 64 [.str x0] (.tup [.str r.1,.bool r.2]):=by
 refine PCalls.of_r k_spec_Sealed rfl ?_
 unfold F_spec_Sealed at hF
 refine RW.sreg (rl.run 2 rfl (rl.done (RW.seq (RW.sreg (rl.run 2 rfl ?_)))))
 refine rl.gen rfl rfl fun b hb=>?_
 cases b
 ·have h1:=iteBF hF hb
  refine rl.done (RW.cond_f rfl (RW.skip (RW.sreg (rl.run 2 rfl ?_))))
  obtain ⟨v1,e1,h2⟩:=bindS h1
  refine rl.call rfl rfl rfl (CallW.val (r':=.int .u32 v1) ok_spec_SumOf (law_spec_SumOf e1) (.cons .str .nil) .refl ?_)
  obtain ⟨v2,e2,h3⟩:=bindS h2
  refine rl.call rfl rfl rfl (CallW.val (r':=.str v2) ok_spec_l02Four (law_spec_l02Four e2) (.cons .int .nil) .refl ?_)
  obtain ⟨v3,e3,h4⟩:=bindS h3
  refine rl.op (x_cat rfl rfl e3) ?_
  refine rl.run 2 rfl (rl.done (RW.ret ?_))
  cases h4
  exact RRet.mk rfl (OutT.tup (.cons .str (.cons .bool .nil))) (by first | decide | simp)
 ·have h5:=iteBT hF hb
  refine rl.done (RW.cond_t rfl (RW.sreg (rl.run 2 rfl (rl.done (RW.ret ?_)))))
  cases h5
  exact RRet.mk rfl (OutT.tup (.cons .str (.cons .bool .nil))) (by first | decide | simp)
theorem law_spec_l06Short {x0 : List UInt8} {r : List UInt8} (hF : F_spec_l06Short x0 = some r) : PCalls Try.prog 65 [.str x0] (.str r):=by
 refine PCalls.of_r k_spec_l06Short rfl ?_
 unfold F_spec_l06Short at hF
 refine RW.sreg (rl.run 1 rfl (rl.done (RW.sreg (rl.run 2 rfl ?_))))
 obtain ⟨v1,e1,h1⟩:=bindS hF
 refine rl.call rfl rfl rfl (CallW.val (r':=.str v1) ok_spec_l01Var (law_spec_l01Var e1) (.cons .int .nil) .refl ?_)
 refine rl.run 1 rfl ?_
 obtain ⟨v2,e2,h2⟩:=bindS h1
 refine rl.op (x_cat rfl rfl e2) ?_
 refine rl.run 1 rfl (rl.done (RW.ret ?_))
 cases h2
 exact RRet.mk rfl .str (by first | decide | simp)
set_option maxHeartbeats 2000000 in
theorem law_spec_CheckText {x0 : TCheck} {r : (List UInt8) × Bool} (hF : F_spec_CheckText x0 = some r) : PCalls Try.prog 18 [.agg (enc_TCheck false x0)] (.tup [.str r.1,.bool r.2]):=by
 refine PCalls.of_r k_spec_CheckText rfl ?_
 unfold F_spec_CheckText at hF
 refine RW.sreg (rl.run 3 rfl (rl.done (RW.seq (RW.sreg (rl.run 1 rfl ?_)))))
 obtain ⟨v1,e1,h1⟩:=bindS hF
 refine rl.call rfl rfl rfl (CallW.val (r':=.bool v1) ok_spec_CheckOk (law_spec_CheckOk e1) (.cons (DFL.agg (.cons .int (.cons .int (.cons .int (.cons .int (.cons (.lst ek_TRef) .nil)))))) .nil) .refl ?_)
 cases hb : v1
 ·have h2:=iteBF h1 hb
  refine rl.run 1 rfl (rl.done (RW.cond_t rfl (RW.sreg (rl.run 2 rfl (rl.done (RW.ret ?_))))))
  cases h2
  exact RRet.mk rfl (OutT.tup (.cons .str (.cons .bool .nil))) (by first | decide | simp)
 ·have h3:=iteBT h1 hb
  refine rl.run 1 rfl (rl.done (RW.cond_f rfl (RW.skip (RW.sdrw (rdraw.op rfl rfl (rdraw.op rfl rfl ?_))))))
  obtain ⟨v2,e2,h4⟩:=bindS h3
  refine rdraw.call rfl rfl rfl (CallW.val (r':=.str v2) ok_spec_l01Var (law_spec_l01Var e2) (.cons .int .nil) .refl ⟨rfl,?_⟩)
  refine rdraw.op rfl rfl (rdraw.op rfl rfl ?_)
  obtain ⟨v3,e3,h5⟩:=bindS h4
  refine rdraw.call rfl rfl rfl (CallW.val (r':=.str v3) ok_spec_l01Var (law_spec_l01Var e3) (.cons .int .nil) .refl ⟨rfl,?_⟩)
  obtain ⟨v4,e4,h6⟩:=bindS h5
  refine rdraw.op rfl (x_cat rfl rfl e4) ?_
  refine rdraw.op rfl rfl (rdraw.op rfl rfl ?_)
  obtain ⟨v5,e5,h7⟩:=bindS h6
  refine rdraw.call rfl rfl rfl (CallW.val (r':=.str v5) ok_spec_l01Var (law_spec_l01Var e5) (.cons .int .nil) .refl ⟨rfl,?_⟩)
  obtain ⟨v6,e6,h8⟩:=bindS h7
  refine rdraw.op rfl (x_cat rfl rfl e6) ?_
  refine rdraw.op rfl rfl (rdraw.op rfl rfl ?_)
  obtain ⟨v7,e7,h9⟩:=bindS h8
  refine rdraw.call rfl rfl rfl (CallW.val (r':=.str v7) ok_spec_l01Var (law_spec_l01Var e7) (.cons .int .nil) .refl ⟨rfl,?_⟩)
  obtain ⟨v8,e8,h10⟩:=bindS h9
  refine rdraw.op rfl (x_cat rfl rfl e8) ?_
  refine rdraw.op rfl rfl (rdraw.op rfl rfl (rdraw.op rfl rfl ?_))
  obtain ⟨v9,e9,h11⟩:=bindS h10
  refine rdraw.call rfl rfl rfl (CallW.val (r':=.str v9) ok_spec_l01Var (law_spec_l01Var e9) (.cons .int .nil) .refl ⟨rfl,?_⟩)
  obtain ⟨v10,e10,h12⟩:=bindS h11
  refine rdraw.op rfl (x_cat rfl rfl e10) ?_
  refine rdraw.op rfl rfl (rdraw.done ?_)
  refine RW.kp [1,4] [(1,.ptr 0 0),(4,.str v10)] [some ⟨[.j x0.Stamp,.j x0.NextGen,.j x0.NextSeq,.j x0.NextValid,L_TRef x0.Refs],0⟩] rfl rfl ?_
  refine RW.seq (RW.sreg (rl.run 1 rfl (rl.done ?_)))
  obtain ⟨y19,ey19,h14⟩:=bindS h12
  refine RW.cutq (σ:=(List UInt8)) (fun y12=>[(4,.str y12)]) (fun y12=>[]) (fun y=>y19 = y) (fun _ _ _ _ g h=>RW.gh g h) ?_ ?_
  ·refine RW.blk ?_
   refine RW.iter (σ:=(List UInt8) × Int) ey19 (fun s11=>[(1,.ptr 0 0),(4,.str s11.1),(5,.j s11.2)]) (fun s11=>[some ⟨[.j x0.Stamp,.j x0.NextGen,.j x0.NextSeq,.j x0.NextValid,L_TRef x0.Refs],0⟩]) (Gh.ren0 [0] (.cells rfl rfl (.keep .int (.keep .int (.keep .int (.keep .int (.keep (ek_TRef.rlst) .nil))))) .nil) rfl (.cons rfl (.ptr rfl) (.cons rfl (.dat .str) (.cons rfl (.dat .int) .nil)))) (fun s11 B o hS13 hB13 hE13=>?_)
   unfold S_spec_CheckText_1 at hS13
   refine RW.seq (RW.sreg (rl.run 4 rfl ?_))
   refine rl.gen rfl rfl fun b hb=>?_
   cases b
   ·have h15:=iteBF hS13 hb
    refine rl.done (RW.cond_f rfl (RW.exit (blkA_eq ?_)))
    cases h15
    exact ⟨_,(hE13 _ rfl).symm,(Gh.ren0 [] .nil rfl (.cons rfl (.dat .str) .nil))⟩
   ·have h16:=iteBT hS13 hb
    refine rl.done (RW.cond_t rfl (RW.skip (RW.seq (RW.blk (RW.drw (rdraw.op rfl rfl (rdraw.op rfl rfl (rdraw.op rfl rfl (rdraw.op rfl rfl ?_)))))))))
    obtain ⟨v13,e13,h17⟩:=bindS h16
    refine rdraw.op rfl (x_ia_lst (enc:=enc_TRef) (o:=false) rfl rfl rfl e13) ?_
    refine rdraw.op rfl rfl ?_
    refine rdraw.op rfl (x_ld_el (off':=0) ek_TRef rfl e13 rfl rfl rfl) ?_
    obtain ⟨v14,e14,h18⟩:=bindS h17
    refine rdraw.call rfl rfl rfl (CallW.val (r':=.str v14) ok_spec_l01Var (law_spec_l01Var e14) (.cons .int .nil) .refl ⟨rfl,?_⟩)
    obtain ⟨v15,e15,h19⟩:=bindS h18
    refine rdraw.op rfl (x_cat rfl rfl e15) ?_
    refine rdraw.op rfl rfl (rdraw.op rfl rfl (rdraw.op rfl rfl ?_))
    obtain ⟨v16,e16,h20⟩:=bindS h19
    refine rdraw.op rfl (x_ia_lst (enc:=enc_TRef) (o:=false) rfl rfl rfl e16) ?_
    refine rdraw.op rfl rfl ?_
    refine rdraw.op rfl (x_ld_el (off':=1) ek_TRef rfl e16 rfl rfl rfl) ?_
    obtain ⟨v17,e17,h21⟩:=bindS h20
    refine rdraw.call rfl rfl rfl (CallW.val (r':=.str v17) ok_spec_l01Var (law_spec_l01Var e17) (.cons .int .nil) .refl ⟨rfl,?_⟩)
    obtain ⟨v18,e18,h22⟩:=bindS h21
    refine rdraw.op rfl (x_cat rfl rfl e18) ?_
    refine rdraw.op rfl rfl (rdraw.done (RW.reg (rl.run 3 rfl (rl.done ?_))))
    cases h22
    exact hB13 _ rfl _ _ (Gh.ren0 [0] (.cells rfl rfl (.keep .int (.keep .int (.keep .int (.keep .int (.keep (ek_TRef.rlst) .nil))))) .nil) rfl (.cons rfl (.ptr rfl) (.cons rfl (.dat .str) (.cons rfl (.dat .int) .nil))))
  ·intro y12 hC
   subst hC
   refine RW.sreg (rl.run 1 rfl ?_)
   obtain ⟨v20,e20,h23⟩:=bindS h14
   refine rl.call rfl rfl rfl (CallW.val (r':=.tup [.str v20.1,.bool v20.2]) ok_spec_Sealed (law_spec_Sealed e20) (.cons .str .nil) (FlL.tup (.cons .refl (.cons .refl .nil))) ?_)
   refine rl.run 5 rfl (rl.done (RW.sreg (rl.run 1 rfl ?_)))
   obtain ⟨v21,e21,h24⟩:=bindS h23
   refine rl.call rfl rfl rfl (CallW.val (r':=.str v21) ok_spec_l06Short (law_spec_l06Short e21) (.cons .str .nil) .refl ?_)
   refine rl.run 1 rfl (rl.done (RW.seq (RW.seq ?_)))
   obtain ⟨y22,ey22,h25⟩:=bindS h24
   refine RW.cutq (σ:=Bool) (fun y22=>[(8,.str v21),(69,.bool y22)]) (fun y22=>[]) (fun y=>y22 = y) (fun _ _ _ _ g h=>RW.gh g h) ?_ ?_
   ·refine RW.reg ?_
    refine rl.run 3 rfl ?_
    cases hb : (!v20.2)
    ·have h26:=iteBF ey22 hb
     refine rl.run 2 rfl ?_
     refine rl.gen rfl rfl fun b hb=>?_
     cases b
     ·have h27:=iteBF h26 hb
      refine rl.run 1 rfl (rl.done ?_)
      cases h27
      exact ⟨_,rfl,(Gh.ren0 [] .nil rfl (.cons rfl (.dat .str) (.cons rfl (.dat .bool) .nil)))⟩
     ·have h28:=iteBT h26 hb
      refine rl.run 1 rfl (rl.done ?_)
      cases h28
      exact ⟨_,rfl,(Gh.ren0 [] .nil rfl (.cons rfl (.dat .str) (.cons rfl (.dat .bool) .nil)))⟩
    ·have h29:=iteBT ey22 hb
     refine rl.run 4 rfl (rl.done ?_)
     cases h29
     exact ⟨_,rfl,(Gh.ren0 [] .nil rfl (.cons rfl (.dat .str) (.cons rfl (.dat .bool) .nil)))⟩
   ·intro y hC
    subst hC
    cases hb : y22
    ·have h30:=iteBF h25 hb
     refine RW.cond_f rfl (RW.skip (RW.sreg (rl.run 3 rfl (rl.done (RW.ret ?_)))))
     cases h30
     exact RRet.mk rfl (OutT.tup (.cons .str (.cons .bool .nil))) (by first | decide | simp)
    ·have h31:=iteBT h25 hb
     refine RW.cond_t rfl (RW.sreg (rl.run 2 rfl (rl.done (RW.ret ?_))))
     cases h31
     exact RRet.mk rfl (OutT.tup (.cons .str (.cons .bool .nil))) (by first | decide | simp)
theorem law_spec_l03Copy {x0 : TDisk} {r : TDisk} (hF : F_spec_l03Copy x0 = some r) : PCalls Try.prog 66 [.agg (enc_TDisk false x0)] (.agg (enc_TDisk true r)):=by
 refine PCalls.of_r k_spec_l03Copy rfl ?_
 unfold F_spec_l03Copy at hF
 refine RW.sreg (rl.run 2 rfl (rl.done (RW.sdrw (rdraw.op rfl rfl (rdraw.op rfl rfl (rdraw.op rfl rfl ?_))))))
 obtain ⟨v1,e1,h1⟩:=bindS hF
 refine rdraw.chn rfl (x_app rfl rfl (rapp_nil (m:=x0.Sectors) (o:=true) ekS acont_lst rfl (fkS.fst _ _) e1)) ?_
 refine rdraw.opA rfl rfl (.here (.rx rfl) .nil) ?_
 refine rdraw.opA rfl rfl (.here (.rx rfl) .nil) ?_
 refine rdraw.opA rfl rfl (.here (.rx rfl) .nil) ?_
 obtain ⟨v2,e2,h2⟩:=bindS h1
 refine rdraw.chn rfl (x_app rfl rfl (rapp_nil (m:=x0.Cache) (o:=true) ek_TWrite acont_lst rfl (fk_TWrite.fst _ _) e2)) ?_
 refine rdraw.op rfl rfl ?_
 refine rdraw.chn rfl rfl ?_
 refine rdraw.done ?_
 refine RW.kp [2] [(2,.ptr 1 0)] [some ⟨[L_S x0.Sectors,L_TWrite x0.Cache],0⟩,some ⟨[.sl 2 0 v1.length,.sl 3 0 v2.length],0⟩,some ⟨fl (encS true) v1,1⟩,some ⟨fl (enc_TWrite true) v2,2⟩] rfl rfl ?_
 refine RW.ret ?_
 cases h2
 exact RRet.mk rfl (OutL.agg (.cons (OutR.ownq ekS rfl rfl) rfl (.cons (OutR.ownq ek_TWrite rfl rfl) rfl .nil))) (by first | decide | simp)
set_option maxHeartbeats 2000000 in
theorem law_spec_DiskOk {x0 : TDisk} {r : Bool} (hF : F_spec_DiskOk x0 = some r) : PCalls Try.prog 68 [.agg (enc_TDisk false x0)] (.bool r):=by
 refine PCalls.of_r k_spec_DiskOk rfl ?_
 unfold F_spec_DiskOk at hF
 refine RW.sreg (rl.run 2 rfl (rl.done (RW.seq (RW.seq ?_))))
 obtain ⟨y1,ey1,h1⟩:=bindS hF
 refine RW.cutq (σ:=Bool) (fun y1=>[(1,.ptr 0 0),(15,.bool y1)]) (fun y1=>[some ⟨[L_S x0.Sectors,L_TWrite x0.Cache],0⟩]) (fun y=>y1 = y) (fun _ _ _ _ g h=>RW.gh g h) ?_ ?_
 ·refine RW.reg ?_
  refine rl.run 3 rfl ?_
  obtain ⟨v2,e2,h2⟩:=bindS ey1
  refine rl.call rfl rfl rfl (CallW.val (r':=.bool v2) ok_spec_l01In (law_spec_l01In e2) (.cons .int (.cons .int (.cons .int .nil))) .refl ?_)
  cases hb : v2
  ·have h3:=iteBF h2 hb
   refine rl.run 7 rfl (rl.done ?_)
   cases h3
   exact ⟨_,rfl,(Gh.ren0 [0] (.cells rfl rfl (.keep (ekS.rlst) (.keep (ek_TWrite.rlst) .nil)) .nil) rfl (.cons rfl (.ptr rfl) (.cons rfl (.dat .bool) .nil)))⟩
  ·have h4:=iteBT h2 hb
   refine rl.run 5 rfl ?_
   refine rl.gen rfl rfl fun b hb=>?_
   cases b
   ·have h5:=iteBF h4 hb
    refine rl.run 1 rfl (rl.done ?_)
    cases h5
    exact ⟨_,rfl,(Gh.ren0 [0] (.cells rfl rfl (.keep (ekS.rlst) (.keep (ek_TWrite.rlst) .nil)) .nil) rfl (.cons rfl (.ptr rfl) (.cons rfl (.dat .bool) .nil)))⟩
   ·have h6:=iteBT h4 hb
    refine rl.run 1 rfl (rl.done ?_)
    cases h6
    exact ⟨_,rfl,(Gh.ren0 [0] (.cells rfl rfl (.keep (ekS.rlst) (.keep (ek_TWrite.rlst) .nil)) .nil) rfl (.cons rfl (.ptr rfl) (.cons rfl (.dat .bool) .nil)))⟩
 ·intro y hC
  subst hC
  cases hb : y1
  ·have h7:=iteBF h1 hb
   refine RW.cond_f rfl (RW.skip (RW.seq (RW.sreg (rl.run 1 rfl (rl.done ?_)))))
   obtain ⟨y6,ey6,h9⟩:=bindS h7
   refine RW.cutq (σ:=Unit) (fun y4=>[(1,.ptr 0 0)]) (fun y4=>[some ⟨[L_S x0.Sectors,L_TWrite x0.Cache],0⟩]) (fun y=>y6 = .inr y) (fun _ _ _ _ g h=>RW.gh g h) ?_ ?_
   ·refine RW.blk ?_
    refine RW.iter (σ:=Int) ey6 (fun s3=>[(1,.ptr 0 0),(3,.j s3)]) (fun s3=>[some ⟨[L_S x0.Sectors,L_TWrite x0.Cache],0⟩]) (Gh.ren0 [0] (.cells rfl rfl (.keep (ekS.rlst) (.keep (ek_TWrite.rlst) .nil)) .nil) rfl (.cons rfl (.ptr rfl) (.cons rfl (.dat .int) .nil))) (fun s3 B o hS8 hB8 hE8=>?_)
    unfold S_spec_DiskOk_1 at hS8
    refine RW.seq (RW.sreg (rl.run 4 rfl ?_))
    refine rl.gen rfl rfl fun b hb=>?_
    cases b
    ·have h10:=iteBF hS8 hb
     refine rl.done (RW.cond_f rfl (RW.exit (blkA_eq ?_)))
     cases h10
     exact ⟨_,(hE8 _ rfl).symm,(Gh.ren0 [0] (.cells rfl rfl (.keep (ekS.rlst) (.keep (ek_TWrite.rlst) .nil)) .nil) rfl (.cons rfl (.ptr rfl) .nil))⟩
    ·have h11:=iteBT hS8 hb
     refine rl.done (RW.cond_t rfl (RW.skip (RW.seq (RW.blk (RW.sreg (rl.run 3 rfl ?_))))))
     obtain ⟨v5,e5,h12⟩:=bindS h11
     refine rl.op (x_ia_lst (enc:=encS) (o:=false) rfl rfl rfl e5) ?_
     refine rl.op (x_ld_el (off':=0) ekS rfl e5 rfl rfl rfl) ?_
     refine rl.run 1 rfl ?_
     refine rl.gen rfl rfl fun b hb=>?_
     cases b
     ·have h13:=iteBF h12 hb
      refine rl.done ?_
      refine RW.kp [1,3,29] [(1,.ptr 0 0),(3,.j s3),(29,.bool false)] [some ⟨[L_S x0.Sectors,L_TWrite x0.Cache],0⟩] rfl rfl ?_
      refine RW.cond_f rfl (RW.skip (RW.reg (rl.run 3 rfl (rl.done ?_))))
      cases h13
      exact hB8 _ rfl _ _ (Gh.ren0 [0] (.cells rfl rfl (.keep (ekS.rlst) (.keep (ek_TWrite.rlst) .nil)) .nil) rfl (.cons rfl (.ptr rfl) (.cons rfl (.dat .int) .nil)))
     ·have h14:=iteBT h12 hb
      refine rl.done ?_
      refine RW.kp [1,3,29] [(1,.ptr 0 0),(3,.j s3),(29,.bool true)] [some ⟨[L_S x0.Sectors,L_TWrite x0.Cache],0⟩] rfl rfl ?_
      refine RW.cond_t rfl (RW.sreg (rl.run 1 rfl (rl.done (RW.ret ?_))))
      cases h14
      have h15:=elimL h9 (hE8 _ rfl)
      cases h15
      exact RRet.mk rfl .bool (by first | decide | simp)
   ·intro y4 hC
    have h9:=elimR h9 hC
    refine RW.seq (RW.sreg (rl.run 1 rfl (rl.done ?_)))
    obtain ⟨y13,ey13,h17⟩:=bindS h9
    refine RW.cutq (σ:=Unit) (fun y8=>[]) (fun y8=>[]) (fun y=>y13 = .inr y) (fun _ _ _ _ g h=>RW.gh g h) ?_ ?_
    ·refine RW.blk ?_
     refine RW.iter (σ:=Int) ey13 (fun s7=>[(1,.ptr 0 0),(4,.j s7)]) (fun s7=>[some ⟨[L_S x0.Sectors,L_TWrite x0.Cache],0⟩]) (Gh.ren0 [0] (.cells rfl rfl (.keep (ekS.rlst) (.keep (ek_TWrite.rlst) .nil)) .nil) rfl (.cons rfl (.ptr rfl) (.cons rfl (.dat .int) .nil))) (fun s7 B o hS16 hB16 hE16=>?_)
     unfold S_spec_DiskOk_2 at hS16
     refine RW.seq (RW.sreg (rl.run 4 rfl ?_))
     refine rl.gen rfl rfl fun b hb=>?_
     cases b
     ·have h18:=iteBF hS16 hb
      refine rl.done (RW.cond_f rfl (RW.exit (blkA_eq ?_)))
      cases h18
      exact ⟨_,(hE16 _ rfl).symm,(Gh.ren0 [] .nil rfl .nil)⟩
     ·have h19:=iteBT hS16 hb
      refine rl.done (RW.cond_t rfl (RW.skip (RW.seq (RW.blk (RW.seq ?_)))))
      obtain ⟨y9,ey9,h20⟩:=bindS h19
      refine RW.cutq (σ:=Bool) (fun y9=>[(1,.ptr 0 0),(4,.j s7),(58,.bool y9)]) (fun y9=>[some ⟨[L_S x0.Sectors,L_TWrite x0.Cache],0⟩]) (fun y=>y9 = y) (fun _ _ _ _ g h=>RW.gh g h) ?_ ?_
      ·refine RW.drw ?_
       refine rdraw.op rfl rfl (rdraw.op rfl rfl (rdraw.op rfl rfl ?_))
       obtain ⟨v10,e10,h21⟩:=bindS ey9
       refine rdraw.op rfl (x_ia_lst (enc:=enc_TWrite) (o:=false) rfl rfl rfl e10) ?_
       refine rdraw.op rfl rfl ?_
       refine rdraw.op rfl (x_ld_el (off':=0) ek_TWrite rfl e10 rfl rfl rfl) ?_
       refine rdraw.op rfl rfl (rdraw.op rfl rfl (rdraw.op rfl rfl (rdraw.op rfl rfl ?_)))
       obtain ⟨v11,e11,h22⟩:=bindS h21
       refine rdraw.call rfl rfl rfl (CallW.val (r':=.bool v11) ok_spec_l01In (law_spec_l01In e11) (.cons .int (.cons .int (.cons .int .nil))) .refl ⟨rfl,?_⟩)
       cases hb : v11
       ·have h23:=iteBF h22 hb
        refine rdraw.op rfl rfl (rdraw.op rfl rfl (rdraw.off rfl (rdraw.off rfl (rdraw.off rfl (rdraw.off rfl (rdraw.off rfl (rdraw.off rfl (rdraw.off rfl (rdraw.off rfl (rdraw.op rfl rfl (rdraw.done ?_)))))))))))
        cases h23
        exact ⟨_,rfl,(Gh.ren0 [0] (.cells rfl rfl (.keep (ekS.rlst) (.keep (ek_TWrite.rlst) .nil)) .nil) rfl (.cons rfl (.ptr rfl) (.cons rfl (.dat .int) (.cons rfl (.dat .bool) .nil))))⟩
       ·have h24:=iteBT h22 hb
        refine rdraw.op rfl rfl (rdraw.op rfl rfl (rdraw.op rfl rfl (rdraw.op rfl rfl (rdraw.op rfl rfl ?_))))
        obtain ⟨v12,e12,h25⟩:=bindS h24
        refine rdraw.op rfl (x_ia_lst (enc:=enc_TWrite) (o:=false) rfl rfl rfl e12) ?_
        refine rdraw.op rfl rfl ?_
        refine rdraw.op rfl (x_ld_el (off':=1) ek_TWrite rfl e12 rfl rfl rfl) ?_
        refine rdraw.op rfl rfl ?_
        refine rdraw.gen rfl rfl fun b hb=>?_
        cases b
        ·have h26:=iteBF h25 hb
         refine rdraw.op rfl rfl (rdraw.done ?_)
         cases h26
         exact ⟨_,rfl,(Gh.ren0 [0] (.cells rfl rfl (.keep (ekS.rlst) (.keep (ek_TWrite.rlst) .nil)) .nil) rfl (.cons rfl (.ptr rfl) (.cons rfl (.dat .int) (.cons rfl (.dat .bool) .nil))))⟩
        ·have h27:=iteBT h25 hb
         refine rdraw.op rfl rfl (rdraw.done ?_)
         cases h27
         exact ⟨_,rfl,(Gh.ren0 [0] (.cells rfl rfl (.keep (ekS.rlst) (.keep (ek_TWrite.rlst) .nil)) .nil) rfl (.cons rfl (.ptr rfl) (.cons rfl (.dat .int) (.cons rfl (.dat .bool) .nil))))⟩
      ·intro y hC
       subst hC
       cases hb : y9
       ·have h28:=iteBF h20 hb
        refine RW.cond_f rfl (RW.skip (RW.reg (rl.run 3 rfl (rl.done ?_))))
        cases h28
        exact hB16 _ rfl _ _ (Gh.ren0 [0] (.cells rfl rfl (.keep (ekS.rlst) (.keep (ek_TWrite.rlst) .nil)) .nil) rfl (.cons rfl (.ptr rfl) (.cons rfl (.dat .int) .nil)))
       ·have h29:=iteBT h20 hb
        refine RW.cond_t rfl (RW.sreg (rl.run 1 rfl (rl.done (RW.ret ?_))))
        cases h29
        have h30:=elimL h17 (hE16 _ rfl)
        cases h30
        exact RRet.mk rfl .bool (by first | decide | simp)
    ·intro y8 hC
     have h17:=elimR h17 hC
     refine RW.sreg (rl.run 1 rfl (rl.done (RW.ret ?_)))
     cases h17
     exact RRet.mk rfl .bool (by first | decide | simp)
  ·have h31:=iteBT h1 hb
   refine RW.cond_t rfl (RW.sreg (rl.run 1 rfl (rl.done (RW.ret ?_))))
   cases h31
   exact RRet.mk rfl .bool (by first | decide | simp)
theorem law_spec_ReadSector {x0 : TDisk} {x1 : Int} {r : (List UInt8) × Bool} (hF : F_spec_ReadSector x0 x1 = some r) : PCalls Try.prog 69 [.agg (enc_TDisk false x0),.j x1] (.tup [.str r.1,.bool r.2]):=by
 refine PCalls.of_r k_spec_ReadSector rfl ?_
 unfold F_spec_ReadSector at hF
 refine RW.sreg (rl.run 3 rfl (rl.done (RW.seq (RW.sreg (rl.run 5 rfl ?_)))))
 obtain ⟨v1,e1,h1⟩:=bindS hF
 refine rl.call rfl rfl rfl (CallW.val (r':=.bool v1) ok_spec_l01In (law_spec_l01In e1) (.cons .int (.cons .int (.cons .int .nil))) .refl ?_)
 cases hb : v1
 ·have h2:=iteBF h1 hb
  refine rl.run 1 rfl (rl.done (RW.cond_t rfl (RW.sreg (rl.run 2 rfl (rl.done (RW.ret ?_))))))
  cases h2
  exact RRet.mk rfl (OutT.tup (.cons .str (.cons .bool .nil))) (by first | decide | simp)
 ·have h3:=iteBT h1 hb
  refine rl.run 1 rfl (rl.done (RW.cond_f rfl (RW.skip (RW.seq (RW.sreg (rl.run 5 rfl (rl.done ?_)))))))
  refine RW.kp [1,2,6] [(1,.j x1),(2,.ptr 0 0),(6,.j (w64 ((x0.Cache.length : Int) - 1)))] [some ⟨[L_S x0.Sectors,L_TWrite x0.Cache],0⟩] rfl rfl ?_
  obtain ⟨y6,ey6,h5⟩:=bindS h3
  refine RW.cutq (σ:=Unit) (fun y3=>[(1,.j x1),(2,.ptr 0 0)]) (fun y3=>[some ⟨[L_S x0.Sectors,L_TWrite x0.Cache],0⟩]) (fun y=>y6 = .inr y) (fun _ _ _ _ g h=>RW.gh g h) ?_ ?_
  ·refine RW.blk ?_
   refine RW.iter (σ:=Int) ey6 (fun s2=>[(1,.j x1),(2,.ptr 0 0),(6,.j s2)]) (fun s2=>[some ⟨[L_S x0.Sectors,L_TWrite x0.Cache],0⟩]) (Gh.ren0 [0] (.cells rfl rfl (.keep (ekS.rlst) (.keep (ek_TWrite.rlst) .nil)) .nil) rfl (.cons rfl (.dat .int) (.cons rfl (.ptr rfl) (.cons rfl (.dat .int) .nil)))) (fun s2 B o hS4 hB4 hE4=>?_)
   unfold S_spec_ReadSector_1 at hS4
   refine RW.seq (RW.sreg (rl.run 1 rfl ?_))
   refine rl.gen rfl rfl fun b hb=>?_
   cases b
   ·have h6:=iteBF hS4 hb
    refine rl.done (RW.cond_f rfl (RW.exit (blkA_eq ?_)))
    cases h6
    exact ⟨_,(hE4 _ rfl).symm,(Gh.ren0 [0] (.cells rfl rfl (.keep (ekS.rlst) (.keep (ek_TWrite.rlst) .nil)) .nil) rfl (.cons rfl (.dat .int) (.cons rfl (.ptr rfl) .nil)))⟩
   ·have h7:=iteBT hS4 hb
    refine rl.done (RW.cond_t rfl (RW.skip (RW.seq (RW.blk (RW.sreg (rl.run 3 rfl ?_))))))
    obtain ⟨v4,e4,h8⟩:=bindS h7
    refine rl.op (x_ia_lst (enc:=enc_TWrite) (o:=false) rfl rfl rfl e4) ?_
    refine rl.run 1 rfl ?_
    refine rl.op (x_ld_el (off':=0) ek_TWrite rfl e4 rfl rfl rfl) ?_
    refine rl.run 1 rfl ?_
    refine rl.gen rfl rfl fun b hb=>?_
    cases b
    ·have h9:=iteBF h8 hb
     refine rl.done (RW.cond_f rfl (RW.skip (RW.reg (rl.run 3 rfl (rl.done ?_)))))
     cases h9
     exact hB4 _ rfl _ _ (Gh.ren0 [0] (.cells rfl rfl (.keep (ekS.rlst) (.keep (ek_TWrite.rlst) .nil)) .nil) rfl (.cons rfl (.dat .int) (.cons rfl (.ptr rfl) (.cons rfl (.dat .int) .nil))))
    ·have h10:=iteBT h8 hb
     refine rl.done (RW.cond_t rfl (RW.sreg (rl.run 3 rfl ?_)))
     obtain ⟨v5,e5,h11⟩:=bindS h10
     refine rl.op (x_ia_lst (enc:=enc_TWrite) (o:=false) rfl rfl rfl e5) ?_
     refine rl.run 1 rfl ?_
     refine rl.op (x_ld_el (off':=1) ek_TWrite rfl e5 rfl rfl rfl) ?_
     refine rl.run 2 rfl (rl.done ?_)
     refine RW.kp [4,5] [(4,.str v5.Text),(5,.bool true)] [some ⟨[L_S x0.Sectors,L_TWrite x0.Cache],0⟩] rfl rfl ?_
     refine RW.ret ?_
     cases h11
     have h12:=elimL h5 (hE4 _ rfl)
     cases h12
     exact RRet.mk rfl (OutT.tup (.cons .str (.cons .bool .nil))) (by first | decide | simp)
  ·intro y3 hC
   have h5:=elimR h5 hC
   refine RW.sreg (rl.run 3 rfl ?_)
   obtain ⟨v7,e7,h13⟩:=bindS h5
   refine rl.op (x_ia_lst (enc:=encS) (o:=false) rfl rfl rfl e7) ?_
   refine rl.op (x_ld_el (off':=0) ekS rfl e7 rfl rfl rfl) ?_
   refine rl.run 2 rfl (rl.done (RW.ret ?_))
   cases h13
   exact RRet.mk rfl (OutT.tup (.cons .str (.cons .bool .nil))) (by first | decide | simp)
theorem law_spec_WriteSector {x0 : TDisk} {x1 : Int} {x2 : List UInt8} {r : TDisk × Bool} (hF : F_spec_WriteSector x0 x1 x2 = some r) : PCalls Try.prog 70 [.agg (enc_TDisk false x0),.j x1,.str x2] (.tup [.agg (enc_TDisk true r.1),.bool r.2]):=by
 refine PCalls.of_r k_spec_WriteSector rfl ?_
 unfold F_spec_WriteSector at hF
 refine RW.sreg (rl.run 3 rfl (rl.done (RW.sreg (rl.run 1 rfl ?_))))
 obtain ⟨v1,e1,h1⟩:=bindS hF
 refine rl.call rfl rfl rfl (CallW.own (r':=.agg [.sl 2 0 v1.Sectors.length,.sl 3 0 v1.Cache.length]) (H':=[some ⟨[L_S x0.Sectors,L_TWrite x0.Cache],0⟩,some ⟨[.nils,.nils],0⟩,some ⟨fl (encS true) v1.Sectors,1⟩,some ⟨fl (enc_TWrite true) v1.Cache,2⟩]) ok_spec_l03Copy (law_spec_l03Copy e1) (.cons (DFL.agg (.cons (.lst ekS) (.cons (.lst ek_TWrite) .nil))) .nil) (ek_TDisk.own _) rfl ?_)
 refine rl.run 2 rfl (rl.done (RW.seq (RW.seq ?_)))
 obtain ⟨y2,ey2,h2⟩:=bindS h1
 refine RW.cutq (σ:=Bool) (fun y2=>[(1,.j x1),(2,.str x2),(6,.ptr 0 0),(8,.ptr 1 0),(33,.bool y2)]) (fun y2=>[some ⟨[.nils,.nils],0⟩,some ⟨[.sl 2 0 v1.Sectors.length,.sl 3 0 v1.Cache.length],0⟩,some ⟨fl (encS true) v1.Sectors,1⟩,some ⟨fl (enc_TWrite true) v1.Cache,2⟩]) (fun y=>y2 = y) (fun _ _ _ _ g h=>RW.gh g h) ?_ ?_
 ·refine RW.reg ?_
  refine rl.run 1 rfl ?_
  obtain ⟨v3,e3,h3⟩:=bindS ey2
  refine rl.call rfl rfl rfl (CallW.val (r':=.bool v3) ok_spec_DiskOk (law_spec_DiskOk e3) (.cons (DFL.agg (.cons (.lst ekS) (.cons (.lst ek_TWrite) .nil))) .nil) .refl ?_)
  cases hb : v3
  ·have h4:=iteBF h3 hb
   refine rl.run 21 rfl (rl.done ?_)
   cases h4
   exact ⟨_,rfl,(Gh.ren0 [1,4,2,3] (.cells rfl rfl (.keep .nils (.keep .nils .nil)) (.cells rfl rfl (.slq rfl rfl (.slq rfl rfl .nil)) (.same rfl (ekS.fref _ _) (.same rfl (ek_TWrite.fref _ _) .nil)))) rfl (.cons rfl (.dat .int) (.cons rfl (.dat .str) (.cons rfl (.ptr rfl) (.cons rfl (.ptr rfl) (.cons rfl (.dat .bool) .nil))))))⟩
  ·have h5:=iteBT h3 hb
   refine rl.run 7 rfl ?_
   obtain ⟨v4,e4,h6⟩:=bindS h5
   refine rl.call rfl rfl rfl (CallW.val (r':=.bool v4) ok_spec_l01In (law_spec_l01In e4) (.cons .int (.cons .int (.cons .int .nil))) .refl ?_)
   cases hb : v4
   ·have h7:=iteBF h6 hb
    refine rl.run 13 rfl (rl.done ?_)
    cases h7
    exact ⟨_,rfl,(Gh.ren0 [1,4,2,3] (.cells rfl rfl (.keep .nils (.keep .nils .nil)) (.cells rfl rfl (.slq rfl rfl (.slq rfl rfl .nil)) (.same rfl (ekS.fref _ _) (.same rfl (ek_TWrite.fref _ _) .nil)))) rfl (.cons rfl (.dat .int) (.cons rfl (.dat .str) (.cons rfl (.ptr rfl) (.cons rfl (.ptr rfl) (.cons rfl (.dat .bool) .nil))))))⟩
   ·have h8:=iteBT h6 hb
    refine rl.run 5 rfl ?_
    refine rl.gen rfl rfl fun b hb=>?_
    cases b
    ·have h9:=iteBF h8 hb
     refine rl.run 5 rfl ?_
     refine rl.gen rfl rfl fun b hb=>?_
     cases b
     ·have h10:=iteBF h9 hb
      refine rl.run 1 rfl (rl.done ?_)
      cases h10
      exact ⟨_,rfl,(Gh.ren0 [1,4,2,3] (.cells rfl rfl (.keep .nils (.keep .nils .nil)) (.cells rfl rfl (.slq rfl rfl (.slq rfl rfl .nil)) (.same rfl (ekS.fref _ _) (.same rfl (ek_TWrite.fref _ _) .nil)))) rfl (.cons rfl (.dat .int) (.cons rfl (.dat .str) (.cons rfl (.ptr rfl) (.cons rfl (.ptr rfl) (.cons rfl (.dat .bool) .nil))))))⟩
     ·have h11:=iteBT h9 hb
      refine rl.run 1 rfl (rl.done ?_)
      cases h11
      exact ⟨_,rfl,(Gh.ren0 [1,4,2,3] (.cells rfl rfl (.keep .nils (.keep .nils .nil)) (.cells rfl rfl (.slq rfl rfl (.slq rfl rfl .nil)) (.same rfl (ekS.fref _ _) (.same rfl (ek_TWrite.fref _ _) .nil)))) rfl (.cons rfl (.dat .int) (.cons rfl (.dat .str) (.cons rfl (.ptr rfl) (.cons rfl (.ptr rfl) (.cons rfl (.dat .bool) .nil))))))⟩
    ·have h12:=iteBT h8 hb
     refine rl.run 7 rfl (rl.done ?_)
     cases h12
     exact ⟨_,rfl,(Gh.ren0 [1,4,2,3] (.cells rfl rfl (.keep .nils (.keep .nils .nil)) (.cells rfl rfl (.slq rfl rfl (.slq rfl rfl .nil)) (.same rfl (ekS.fref _ _) (.same rfl (ek_TWrite.fref _ _) .nil)))) rfl (.cons rfl (.dat .int) (.cons rfl (.dat .str) (.cons rfl (.ptr rfl) (.cons rfl (.ptr rfl) (.cons rfl (.dat .bool) .nil))))))⟩
 ·intro y hC
  subst hC
  cases hb : y2
  ·have h13:=iteBF h2 hb
   refine RW.cond_f rfl (RW.skip (RW.sreg (rl.run 6 rfl ?_)))
   obtain ⟨v5,e5,h14⟩:=bindS h13
   refine rl.op (x_app rfl rfl (rapp_sl (l:=v1.Cache) (m:=[({ At:=x1,Text:=x2 } : TWrite)]) (o:=true) ek_TWrite rfl rfl (acont_slq (m:=[({ At:=x1,Text:=x2 } : TWrite)]) (o:=true) fk_TWrite rfl rfl) rfl (fk_TWrite.fst _ _) e5)) ?_
   refine rl.run 2 rfl (rl.done ?_)
   refine RW.kp [6,8] [(6,.ptr 0 0),(8,.ptr 1 0)] [some ⟨[.nils,.nils],0⟩,some ⟨[.sl 2 0 v1.Sectors.length,.sl 5 0 v5.length],0⟩,some ⟨fl (encS true) v1.Sectors,1⟩,none,some ⟨fl (enc_TWrite true) [({ At:=x1,Text:=x2 } : TWrite)],2⟩,some ⟨fl (enc_TWrite true) v5,2⟩] rfl rfl ?_
   refine RW.sreg (rl.run 3 rfl (rl.done (RW.ret ?_)))
   cases h14
   exact RRet.mk rfl (OutT.tup (.cons (OutL.agg (.cons (OutR.ownq ekS rfl rfl) rfl (.cons (OutR.ownq ek_TWrite rfl rfl) rfl .nil))) (.cons .bool .nil))) (by first | decide | simp)
  ·have h15:=iteBT h2 hb
   refine RW.cond_t rfl (RW.sreg (rl.run 3 rfl (rl.done (RW.ret ?_))))
   cases h15
   exact RRet.mk rfl (OutT.tup (.cons (OutL.agg (.cons (OutR.ownq ekS rfl rfl) rfl (.cons (OutR.ownq ek_TWrite rfl rfl) rfl .nil))) (.cons .bool .nil))) (by first | decide | simp)
set_option maxHeartbeats 2000000 in
theorem law_spec_WriteBytes {x0 : TDisk} {x1 : Int} {x2 : Int} {x3 : List UInt8} {r : TDisk × Bool} (hF : F_spec_WriteBytes x0 x1 x2 x3 = some r) : PCalls Try.prog 19 [.agg (enc_TDisk false x0),.j x1,.j x2,.str x3] (.tup [.agg (enc_TDisk true r.1),.bool r.2]):=by
 refine PCalls.of_r k_spec_WriteBytes rfl ?_
 unfold F_spec_WriteBytes at hF
 refine RW.sreg (rl.run 3 rfl (rl.done (RW.sreg (rl.run 1 rfl ?_))))
 obtain ⟨v1,e1,h1⟩:=bindS hF
 refine rl.call rfl rfl rfl (CallW.own (r':=.agg [.sl 2 0 v1.Sectors.length,.sl 3 0 v1.Cache.length]) (H':=[some ⟨[L_S x0.Sectors,L_TWrite x0.Cache],0⟩,some ⟨[.nils,.nils],0⟩,some ⟨fl (encS true) v1.Sectors,1⟩,some ⟨fl (enc_TWrite true) v1.Cache,2⟩]) ok_spec_l03Copy (law_spec_l03Copy e1) (.cons (DFL.agg (.cons (.lst ekS) (.cons (.lst ek_TWrite) .nil))) .nil) (ek_TDisk.own _) rfl ?_)
 refine rl.run 2 rfl (rl.done (RW.seq (RW.seq ?_)))
 obtain ⟨y2,ey2,h2⟩:=bindS h1
 refine RW.cutq (σ:=Bool) (fun y2=>[(1,.j x1),(2,.j x2),(3,.str x3),(4,.ptr 0 0),(8,.ptr 1 0),(10,.ptr 2 0),(37,.bool y2)]) (fun y2=>[some ⟨[L_S x0.Sectors,L_TWrite x0.Cache],0⟩,some ⟨[.nils,.nils],0⟩,some ⟨[.sl 3 0 v1.Sectors.length,.sl 4 0 v1.Cache.length],0⟩,some ⟨fl (encS true) v1.Sectors,1⟩,some ⟨fl (enc_TWrite true) v1.Cache,2⟩]) (fun y=>y2 = y) (fun _ _ _ _ g h=>RW.gh g h) ?_ ?_
 ·refine RW.reg ?_
  refine rl.run 1 rfl ?_
  obtain ⟨v3,e3,h3⟩:=bindS ey2
  refine rl.call rfl rfl rfl (CallW.val (r':=.bool v3) ok_spec_l01In (law_spec_l01In e3) (.cons .int (.cons .int (.cons .int .nil))) .refl ?_)
  cases hb : v3
  ·have h4:=iteBF h3 hb
   refine rl.run 15 rfl (rl.done ?_)
   cases h4
   exact ⟨_,rfl,(Gh.ren0 [0,1,4,2,3] (.cells rfl rfl (.keep (ekS.rlst) (.keep (ek_TWrite.rlst) .nil)) (.cells rfl rfl (.keep .nils (.keep .nils .nil)) (.cells rfl rfl (.slq rfl rfl (.slq rfl rfl .nil)) (.same rfl (ekS.fref _ _) (.same rfl (ek_TWrite.fref _ _) .nil))))) rfl (.cons rfl (.dat .int) (.cons rfl (.dat .int) (.cons rfl (.dat .str) (.cons rfl (.ptr rfl) (.cons rfl (.ptr rfl) (.cons rfl (.ptr rfl) (.cons rfl (.dat .bool) .nil))))))))⟩
  ·have h5:=iteBT h3 hb
   refine rl.run 7 rfl ?_
   obtain ⟨v4,e4,h6⟩:=bindS h5
   refine rl.call rfl rfl rfl (CallW.val (r':=.bool v4) ok_spec_l01In (law_spec_l01In e4) (.cons .int (.cons .int (.cons .int .nil))) .refl ?_)
   cases hb : v4
   ·have h7:=iteBF h6 hb
    refine rl.run 7 rfl (rl.done ?_)
    cases h7
    exact ⟨_,rfl,(Gh.ren0 [0,1,4,2,3] (.cells rfl rfl (.keep (ekS.rlst) (.keep (ek_TWrite.rlst) .nil)) (.cells rfl rfl (.keep .nils (.keep .nils .nil)) (.cells rfl rfl (.slq rfl rfl (.slq rfl rfl .nil)) (.same rfl (ekS.fref _ _) (.same rfl (ek_TWrite.fref _ _) .nil))))) rfl (.cons rfl (.dat .int) (.cons rfl (.dat .int) (.cons rfl (.dat .str) (.cons rfl (.ptr rfl) (.cons rfl (.ptr rfl) (.cons rfl (.ptr rfl) (.cons rfl (.dat .bool) .nil))))))))⟩
   ·have h8:=iteBT h6 hb
    refine rl.run 4 rfl ?_
    obtain ⟨v5,e5,h9⟩:=bindS h8
    refine rl.call rfl rfl rfl (CallW.val (r':=.bool v5) ok_spec_DiskOk (law_spec_DiskOk e5) (.cons (DFL.agg (.cons (.lst ekS) (.cons (.lst ek_TWrite) .nil))) .nil) .refl ?_)
    cases hb : v5
    ·have h10:=iteBF h9 hb
     refine rl.run 2 rfl (rl.done ?_)
     cases h10
     exact ⟨_,rfl,(Gh.ren0 [0,1,4,2,3] (.cells rfl rfl (.keep (ekS.rlst) (.keep (ek_TWrite.rlst) .nil)) (.cells rfl rfl (.keep .nils (.keep .nils .nil)) (.cells rfl rfl (.slq rfl rfl (.slq rfl rfl .nil)) (.same rfl (ekS.fref _ _) (.same rfl (ek_TWrite.fref _ _) .nil))))) rfl (.cons rfl (.dat .int) (.cons rfl (.dat .int) (.cons rfl (.dat .str) (.cons rfl (.ptr rfl) (.cons rfl (.ptr rfl) (.cons rfl (.ptr rfl) (.cons rfl (.dat .bool) .nil))))))))⟩
    ·have h11:=iteBT h9 hb
     refine rl.run 2 rfl (rl.done ?_)
     cases h11
     exact ⟨_,rfl,(Gh.ren0 [0,1,4,2,3] (.cells rfl rfl (.keep (ekS.rlst) (.keep (ek_TWrite.rlst) .nil)) (.cells rfl rfl (.keep .nils (.keep .nils .nil)) (.cells rfl rfl (.slq rfl rfl (.slq rfl rfl .nil)) (.same rfl (ekS.fref _ _) (.same rfl (ek_TWrite.fref _ _) .nil))))) rfl (.cons rfl (.dat .int) (.cons rfl (.dat .int) (.cons rfl (.dat .str) (.cons rfl (.ptr rfl) (.cons rfl (.ptr rfl) (.cons rfl (.ptr rfl) (.cons rfl (.dat .bool) .nil))))))))⟩
 ·intro y hC
  subst hC
  cases hb : y2
  ·have h12:=iteBF h2 hb
   refine RW.cond_f rfl (RW.skip (RW.seq (RW.sreg (rl.run 1 rfl (rl.done ?_)))))
   obtain ⟨y28,ey28,h14⟩:=bindS h12
   refine RW.cutq (σ:=(List (List UInt8)) × (List TWrite)) (fun y7=>[(8,.ptr 0 0),(10,.ptr 1 0)]) (fun y7=>[some ⟨[.nils,.nils],0⟩,some ⟨[.sl 2 0 y7.1.length,.sl 3 0 y7.2.length],0⟩,some ⟨fl (encS true) y7.1,1⟩,some ⟨fl (enc_TWrite true) y7.2,2⟩]) (fun y=>y28 = .inr y) (fun _ _ _ _ g h=>RW.gh g h) ?_ ?_
   ·refine RW.blk ?_
    refine RW.iter (σ:=Int × (List (List UInt8)) × (List TWrite)) ey28 (fun s6=>[(1,.j x1),(2,.j x2),(3,.str x3),(4,.ptr 0 0),(8,.ptr 1 0),(10,.ptr 2 0),(11,.j s6.1)]) (fun s6=>[some ⟨[L_S x0.Sectors,L_TWrite x0.Cache],0⟩,some ⟨[.nils,.nils],0⟩,some ⟨[.sl 3 0 s6.2.1.length,.sl 4 0 s6.2.2.length],0⟩,some ⟨fl (encS true) s6.2.1,1⟩,some ⟨fl (enc_TWrite true) s6.2.2,2⟩]) (Gh.ren0 [0,1,2,3,4] (.cells rfl rfl (.keep (ekS.rlst) (.keep (ek_TWrite.rlst) .nil)) (.cells rfl rfl (.keep .nils (.keep .nils .nil)) (.cells rfl rfl (.slq rfl rfl (.slq rfl rfl .nil)) (.same rfl (ekS.fref _ _) (.same rfl (ek_TWrite.fref _ _) .nil))))) rfl (.cons rfl (.dat .int) (.cons rfl (.dat .int) (.cons rfl (.dat .str) (.cons rfl (.ptr rfl) (.cons rfl (.ptr rfl) (.cons rfl (.ptr rfl) (.cons rfl (.dat .int) .nil)))))))) (fun s6 B o hS13 hB13 hE13=>?_)
    unfold S_spec_WriteBytes_1 at hS13
    refine RW.seq (RW.sreg (rl.run 3 rfl ?_))
    refine rl.gen rfl rfl fun b hb=>?_
    cases b
    ·have h15:=iteBF hS13 hb
     refine rl.done (RW.cond_f rfl (RW.exit (blkA_eq ?_)))
     cases h15
     exact ⟨_,(hE13 _ rfl).symm,(Gh.ren0 [1,2,3,4] (.cells rfl rfl (.keep .nils (.keep .nils .nil)) (.cells rfl rfl (.slq rfl rfl (.slq rfl rfl .nil)) (.same rfl (ekS.fref _ _) (.same rfl (ek_TWrite.fref _ _) .nil)))) rfl (.cons rfl (.ptr rfl) (.cons rfl (.ptr rfl) .nil)))⟩
    ·have h16:=iteBT hS13 hb
     refine rl.done (RW.cond_t rfl (RW.skip (RW.blk (RW.sreg (rl.run 7 rfl (rl.done (RW.sreg (rl.run 5 rfl (rl.done ?_)))))))))
     refine RW.kp [1,2,3,4,8,10,11,12,13] [(1,.j x1),(2,.j x2),(3,.str x3),(4,.ptr 0 0),(8,.ptr 1 0),(10,.ptr 2 0),(11,.j s6.1),(12,.j (w64 (x1 + (w64 (Int.tdiv (w64 (x2 + s6.1)) 32))))),(13,.j (Int.tmod (w64 (x2 + s6.1)) 32))] [some ⟨[L_S x0.Sectors,L_TWrite x0.Cache],0⟩,some ⟨[.nils,.nils],0⟩,some ⟨[.sl 3 0 s6.2.1.length,.sl 4 0 s6.2.2.length],0⟩,some ⟨fl (encS true) s6.2.1,1⟩,some ⟨fl (enc_TWrite true) s6.2.2,2⟩] rfl rfl ?_
     refine RW.sreg (rl.run 3 rfl (rl.done (RW.seq (RW.sreg (rl.run 5 rfl ?_)))))
     refine rl.gen rfl rfl fun b hb=>?_
     cases b
     ·have h17:=iteBF h16 hb
      refine rl.done (RW.cond_f rfl (RW.skip (RW.sreg (rl.run 2 rfl ?_))))
      obtain ⟨v8,e8,h18⟩:=bindS h17
      refine rl.call rfl rfl rfl (CallW.val (r':=.tup [.str v8.1,.bool v8.2]) ok_spec_ReadSector (law_spec_ReadSector e8) (.cons (DFL.agg (.cons (.slq ekS rfl rfl) (.cons (.slq ek_TWrite rfl rfl) .nil))) (.cons .int .nil)) (FlL.tup (.cons .refl (.cons .refl .nil))) ?_)
      refine rl.run 5 rfl (rl.done ?_)
      refine RW.kp [1,2,3,4,8,10,11,12,13,14,15,16] [(1,.j x1),(2,.j x2),(3,.str x3),(4,.ptr 0 0),(8,.ptr 1 0),(10,.ptr 2 0),(11,.j s6.1),(12,.j (w64 (x1 + (w64 (Int.tdiv (w64 (x2 + s6.1)) 32))))),(13,.j (Int.tmod (w64 (x2 + s6.1)) 32)),(14,.j (w64 (32 - (Int.tmod (w64 (x2 + s6.1)) 32)))),(15,.str v8.1),(16,.bool v8.2)] [some ⟨[L_S x0.Sectors,L_TWrite x0.Cache],0⟩,some ⟨[.nils,.nils],0⟩,some ⟨[.sl 3 0 s6.2.1.length,.sl 4 0 s6.2.2.length],0⟩,some ⟨fl (encS true) s6.2.1,1⟩,some ⟨fl (enc_TWrite true) s6.2.2,2⟩] rfl rfl ?_
      refine RW.seq (RW.seq ?_)
      obtain ⟨y9,ey9,h19⟩:=bindS h18
      refine RW.cutq (σ:=Bool) (fun y9=>[(1,.j x1),(2,.j x2),(3,.str x3),(4,.ptr 0 0),(8,.ptr 1 0),(10,.ptr 2 0),(11,.j s6.1),(12,.j (w64 (x1 + (w64 (Int.tdiv (w64 (x2 + s6.1)) 32))))),(13,.j (Int.tmod (w64 (x2 + s6.1)) 32)),(14,.j (w64 (32 - (Int.tmod (w64 (x2 + s6.1)) 32)))),(15,.str v8.1),(77,.bool y9)]) (fun y9=>[some ⟨[L_S x0.Sectors,L_TWrite x0.Cache],0⟩,some ⟨[.nils,.nils],0⟩,some ⟨[.sl 3 0 s6.2.1.length,.sl 4 0 s6.2.2.length],0⟩,some ⟨fl (encS true) s6.2.1,1⟩,some ⟨fl (enc_TWrite true) s6.2.2,2⟩]) (fun y=>y9 = y) (fun _ _ _ _ g h=>RW.gh g h) ?_ ?_
      ·refine RW.reg ?_
       refine rl.run 3 rfl ?_
       cases hb : (!v8.2)
       ·have h20:=iteBF ey9 hb
        refine rl.run 2 rfl ?_
        refine rl.gen rfl rfl fun b hb=>?_
        cases b
        ·have h21:=iteBF h20 hb
         refine rl.run 1 rfl (rl.done ?_)
         cases h21
         exact ⟨_,rfl,(Gh.ren0 [0,1,2,3,4] (.cells rfl rfl (.keep (ekS.rlst) (.keep (ek_TWrite.rlst) .nil)) (.cells rfl rfl (.keep .nils (.keep .nils .nil)) (.cells rfl rfl (.slq rfl rfl (.slq rfl rfl .nil)) (.same rfl (ekS.fref _ _) (.same rfl (ek_TWrite.fref _ _) .nil))))) rfl (.cons rfl (.dat .int) (.cons rfl (.dat .int) (.cons rfl (.dat .str) (.cons rfl (.ptr rfl) (.cons rfl (.ptr rfl) (.cons rfl (.ptr rfl) (.cons rfl (.dat .int) (.cons rfl (.dat .int) (.cons rfl (.dat .int) (.cons rfl (.dat .int) (.cons rfl (.dat .str) (.cons rfl (.dat .bool) .nil)))))))))))))⟩
        ·have h22:=iteBT h20 hb
         refine rl.run 1 rfl (rl.done ?_)
         cases h22
         exact ⟨_,rfl,(Gh.ren0 [0,1,2,3,4] (.cells rfl rfl (.keep (ekS.rlst) (.keep (ek_TWrite.rlst) .nil)) (.cells rfl rfl (.keep .nils (.keep .nils .nil)) (.cells rfl rfl (.slq rfl rfl (.slq rfl rfl .nil)) (.same rfl (ekS.fref _ _) (.same rfl (ek_TWrite.fref _ _) .nil))))) rfl (.cons rfl (.dat .int) (.cons rfl (.dat .int) (.cons rfl (.dat .str) (.cons rfl (.ptr rfl) (.cons rfl (.ptr rfl) (.cons rfl (.ptr rfl) (.cons rfl (.dat .int) (.cons rfl (.dat .int) (.cons rfl (.dat .int) (.cons rfl (.dat .int) (.cons rfl (.dat .str) (.cons rfl (.dat .bool) .nil)))))))))))))⟩
       ·have h23:=iteBT ey9 hb
        refine rl.run 4 rfl (rl.done ?_)
        cases h23
        exact ⟨_,rfl,(Gh.ren0 [0,1,2,3,4] (.cells rfl rfl (.keep (ekS.rlst) (.keep (ek_TWrite.rlst) .nil)) (.cells rfl rfl (.keep .nils (.keep .nils .nil)) (.cells rfl rfl (.slq rfl rfl (.slq rfl rfl .nil)) (.same rfl (ekS.fref _ _) (.same rfl (ek_TWrite.fref _ _) .nil))))) rfl (.cons rfl (.dat .int) (.cons rfl (.dat .int) (.cons rfl (.dat .str) (.cons rfl (.ptr rfl) (.cons rfl (.ptr rfl) (.cons rfl (.ptr rfl) (.cons rfl (.dat .int) (.cons rfl (.dat .int) (.cons rfl (.dat .int) (.cons rfl (.dat .int) (.cons rfl (.dat .str) (.cons rfl (.dat .bool) .nil)))))))))))))⟩
      ·intro y hC
       subst hC
       cases hb : y9
       ·have h24:=iteBF h19 hb
        refine RW.cond_f rfl (RW.skip ?_)
        refine RW.sdrwF [⟨[.nils,.nils],0⟩] ?_
        refine rdraw.op rfl rfl (rdraw.op rfl rfl (rdraw.op rfl rfl (rdraw.op rfl rfl ?_)))
        obtain ⟨v10,e10,h25⟩:=bindS h24
        refine rdraw.op rfl (x_sls rfl rfl rfl abnd_hi e10) ?_
        refine rdraw.op rfl rfl (rdraw.op rfl rfl (rdraw.op rfl rfl (rdraw.op rfl rfl (rdraw.op rfl rfl ?_))))
        obtain ⟨v11,e11,h26⟩:=bindS h25
        refine rdraw.op rfl (x_sls rfl rfl rfl abnd_both e11) ?_
        obtain ⟨v12,e12,h27⟩:=bindS h26
        refine rdraw.op rfl (x_cat rfl rfl e12) ?_
        refine rdraw.op rfl rfl (rdraw.op rfl rfl (rdraw.op rfl rfl (rdraw.op rfl rfl ?_)))
        obtain ⟨v13,e13,h28⟩:=bindS h27
        refine rdraw.op rfl (x_sls rfl rfl rfl abnd_lo e13) ?_
        obtain ⟨v14,e14,h29⟩:=bindS h28
        refine rdraw.op rfl (x_cat rfl rfl e14) ?_
        obtain ⟨v15,e15,h30⟩:=bindS h29
        refine rdraw.ccall rfl rfl rfl (CallW.own (r':=.tup [.agg [.sl 6 0 v15.1.Sectors.length,.sl 7 0 v15.1.Cache.length],.bool v15.2]) (H':=[some ⟨[L_S x0.Sectors,L_TWrite x0.Cache],0⟩,some ⟨[.nils,.nils],0⟩,some ⟨[.sl 3 0 s6.2.1.length,.sl 4 0 s6.2.2.length],0⟩,some ⟨fl (encS true) s6.2.1,1⟩,some ⟨fl (enc_TWrite true) s6.2.2,2⟩,some ⟨[.nils,.nils],0⟩,some ⟨fl (encS true) v15.1.Sectors,1⟩,some ⟨fl (enc_TWrite true) v15.1.Cache,2⟩]) ok_spec_WriteSector (law_spec_WriteSector e15) (.cons (DFL.agg (.cons (.slq ekS rfl rfl) (.cons (.slq ek_TWrite rfl rfl) .nil))) (.cons .int (.cons .str .nil))) (fac (ek_TDisk.own _) (fac .bool fan)) rfl ?_)
        refine rdraw.op rfl rfl (rdraw.op rfl rfl (rdraw.op rfl rfl ?_))
        refine rdraw.flt rfl (.cons rfl .nil) ?_
        refine rdraw.chnB rfl rfl (.here (.rx rfl) (.skip rfl (.skip rfl (.skip rfl (.skip rfl (.skip rfl (.skip rfl (.skip rfl (.skip rfl (.skip rfl (.skip rfl (.skip rfl (.skip rfl (.skip rfl (.skip rfl (.skip rfl (.skip rfl (.skip rfl (.skip rfl (.skip rfl (.skip rfl .nil))))))))))))))))))))) ?_
        refine rdraw.op rfl rfl (rdraw.done ?_)
        refine RW.kp [1,2,3,4,8,10,11,14,17,18] [(1,.j x1),(2,.j x2),(3,.str x3),(4,.ptr 0 0),(8,.ptr 1 0),(10,.ptr 2 0),(11,.j s6.1),(14,.j (w64 (32 - (Int.tmod (w64 (x2 + s6.1)) 32)))),(17,.ptr 5 0),(18,.bool v15.2)] [some ⟨[L_S x0.Sectors,L_TWrite x0.Cache],0⟩,some ⟨[.nils,.nils],0⟩,some ⟨[.sl 3 0 s6.2.1.length,.sl 4 0 s6.2.2.length],0⟩,some ⟨fl (encS true) s6.2.1,1⟩,some ⟨fl (enc_TWrite true) s6.2.2,2⟩,some ⟨[.sl 6 0 v15.1.Sectors.length,.sl 7 0 v15.1.Cache.length],0⟩,some ⟨fl (encS true) v15.1.Sectors,1⟩,some ⟨fl (enc_TWrite true) v15.1.Cache,2⟩] rfl rfl ?_
        refine RW.seq (RW.sreg (rl.run 2 rfl (rl.done ?_)))
        cases hb : (!v15.2)
        ·have h31:=iteBF h30 hb
         refine RW.cond_f rfl (RW.skip (RW.sreg (rl.run 2 rfl (rl.done (RW.reg (rl.run 4 rfl (rl.done ?_)))))))
         cases h31
         exact hB13 _ rfl _ _ (Gh.ren0 [0,1,2,6,7] (.cells rfl rfl (.keep (ekS.rlst) (.keep (ek_TWrite.rlst) .nil)) (.cells rfl rfl (.keep .nils (.keep .nils .nil)) (.cells rfl rfl (.slq rfl rfl (.slq rfl rfl .nil)) (.same rfl (ekS.fref _ _) (.same rfl (ek_TWrite.fref _ _) .nil))))) rfl (.cons rfl (.dat .int) (.cons rfl (.dat .int) (.cons rfl (.dat .str) (.cons rfl (.ptr rfl) (.cons rfl (.ptr rfl) (.cons rfl (.ptr rfl) (.cons rfl (.dat .int) .nil))))))))
        ·have h32:=iteBT h30 hb
         refine RW.cond_t rfl (RW.sreg (rl.run 1 rfl ?_))
         obtain ⟨v16,e16,h33⟩:=bindS h32
         refine rl.call rfl rfl rfl (CallW.own (r':=.agg [.sl 8 0 v16.Sectors.length,.sl 9 0 v16.Cache.length]) (H':=[some ⟨[L_S x0.Sectors,L_TWrite x0.Cache],0⟩,some ⟨[.nils,.nils],0⟩,some ⟨[.sl 3 0 s6.2.1.length,.sl 4 0 s6.2.2.length],0⟩,some ⟨fl (encS true) s6.2.1,1⟩,some ⟨fl (enc_TWrite true) s6.2.2,2⟩,some ⟨[.sl 6 0 v15.1.Sectors.length,.sl 7 0 v15.1.Cache.length],0⟩,some ⟨fl (encS true) v15.1.Sectors,1⟩,some ⟨fl (enc_TWrite true) v15.1.Cache,2⟩,some ⟨fl (encS true) v16.Sectors,1⟩,some ⟨fl (enc_TWrite true) v16.Cache,2⟩]) ok_spec_l03Copy (law_spec_l03Copy e16) (.cons (DFL.agg (.cons (.lst ekS) (.cons (.lst ek_TWrite) .nil))) .nil) (ek_TDisk.own _) rfl ?_)
         refine rl.run 2 rfl (rl.done ?_)
         refine RW.kp [8,9] [(8,.ptr 1 0),(9,.bool false)] [some ⟨[L_S x0.Sectors,L_TWrite x0.Cache],0⟩,some ⟨[.sl 8 0 v16.Sectors.length,.sl 9 0 v16.Cache.length],0⟩,some ⟨[.sl 3 0 s6.2.1.length,.sl 4 0 s6.2.2.length],0⟩,some ⟨fl (encS true) s6.2.1,1⟩,some ⟨fl (enc_TWrite true) s6.2.2,2⟩,some ⟨[.sl 6 0 v15.1.Sectors.length,.sl 7 0 v15.1.Cache.length],0⟩,some ⟨fl (encS true) v15.1.Sectors,1⟩,some ⟨fl (enc_TWrite true) v15.1.Cache,2⟩,some ⟨fl (encS true) v16.Sectors,1⟩,some ⟨fl (enc_TWrite true) v16.Cache,2⟩] rfl rfl ?_
         refine RW.ret ?_
         cases h33
         have h34:=elimL h14 (hE13 _ rfl)
         cases h34
         exact RRet.mk rfl (OutT.tup (.cons (OutL.agg (.cons (OutR.ownq ekS rfl rfl) rfl (.cons (OutR.ownq ek_TWrite rfl rfl) rfl .nil))) (.cons .bool .nil))) (by first | decide | simp)
       ·have h35:=iteBT h19 hb
        refine RW.cond_t rfl (RW.sreg (rl.run 1 rfl ?_))
        obtain ⟨v17,e17,h36⟩:=bindS h35
        refine rl.call rfl rfl rfl (CallW.own (r':=.agg [.sl 5 0 v17.Sectors.length,.sl 6 0 v17.Cache.length]) (H':=[some ⟨[L_S x0.Sectors,L_TWrite x0.Cache],0⟩,some ⟨[.nils,.nils],0⟩,some ⟨[.sl 3 0 s6.2.1.length,.sl 4 0 s6.2.2.length],0⟩,some ⟨fl (encS true) s6.2.1,1⟩,some ⟨fl (enc_TWrite true) s6.2.2,2⟩,some ⟨fl (encS true) v17.Sectors,1⟩,some ⟨fl (enc_TWrite true) v17.Cache,2⟩]) ok_spec_l03Copy (law_spec_l03Copy e17) (.cons (DFL.agg (.cons (.lst ekS) (.cons (.lst ek_TWrite) .nil))) .nil) (ek_TDisk.own _) rfl ?_)
        refine rl.run 2 rfl (rl.done ?_)
        refine RW.kp [8,9] [(8,.ptr 1 0),(9,.bool false)] [some ⟨[L_S x0.Sectors,L_TWrite x0.Cache],0⟩,some ⟨[.sl 5 0 v17.Sectors.length,.sl 6 0 v17.Cache.length],0⟩,some ⟨[.sl 3 0 s6.2.1.length,.sl 4 0 s6.2.2.length],0⟩,some ⟨fl (encS true) s6.2.1,1⟩,some ⟨fl (enc_TWrite true) s6.2.2,2⟩,some ⟨fl (encS true) v17.Sectors,1⟩,some ⟨fl (enc_TWrite true) v17.Cache,2⟩] rfl rfl ?_
        refine RW.ret ?_
        cases h36
        have h37:=elimL h14 (hE13 _ rfl)
        cases h37
        exact RRet.mk rfl (OutT.tup (.cons (OutL.agg (.cons (OutR.ownq ekS rfl rfl) rfl (.cons (OutR.ownq ek_TWrite rfl rfl) rfl .nil))) (.cons .bool .nil))) (by first | decide | simp)
     ·have h38:=iteBT h16 hb
      refine rl.done (RW.cond_t rfl (RW.reg (rl.run 5 rfl (rl.done (RW.sreg (rl.run 2 rfl ?_))))))
      obtain ⟨v18,e18,h39⟩:=bindS h38
      refine rl.call rfl rfl rfl (CallW.val (r':=.tup [.str v18.1,.bool v18.2]) ok_spec_ReadSector (law_spec_ReadSector e18) (.cons (DFL.agg (.cons (.slq ekS rfl rfl) (.cons (.slq ek_TWrite rfl rfl) .nil))) (.cons .int .nil)) (FlL.tup (.cons .refl (.cons .refl .nil))) ?_)
      refine rl.run 5 rfl (rl.done ?_)
      refine RW.kp [1,2,3,4,8,10,11,12,13,14,15,16] [(1,.j x1),(2,.j x2),(3,.str x3),(4,.ptr 0 0),(8,.ptr 1 0),(10,.ptr 2 0),(11,.j s6.1),(12,.j (w64 (x1 + (w64 (Int.tdiv (w64 (x2 + s6.1)) 32))))),(13,.j (Int.tmod (w64 (x2 + s6.1)) 32)),(14,.j (w64 ((x3.length : Int) - s6.1))),(15,.str v18.1),(16,.bool v18.2)] [some ⟨[L_S x0.Sectors,L_TWrite x0.Cache],0⟩,some ⟨[.nils,.nils],0⟩,some ⟨[.sl 3 0 s6.2.1.length,.sl 4 0 s6.2.2.length],0⟩,some ⟨fl (encS true) s6.2.1,1⟩,some ⟨fl (enc_TWrite true) s6.2.2,2⟩] rfl rfl ?_
      refine RW.seq (RW.seq ?_)
      obtain ⟨y19,ey19,h40⟩:=bindS h39
      refine RW.cutq (σ:=Bool) (fun y19=>[(1,.j x1),(2,.j x2),(3,.str x3),(4,.ptr 0 0),(8,.ptr 1 0),(10,.ptr 2 0),(11,.j s6.1),(12,.j (w64 (x1 + (w64 (Int.tdiv (w64 (x2 + s6.1)) 32))))),(13,.j (Int.tmod (w64 (x2 + s6.1)) 32)),(14,.j (w64 ((x3.length : Int) - s6.1))),(15,.str v18.1),(77,.bool y19)]) (fun y19=>[some ⟨[L_S x0.Sectors,L_TWrite x0.Cache],0⟩,some ⟨[.nils,.nils],0⟩,some ⟨[.sl 3 0 s6.2.1.length,.sl 4 0 s6.2.2.length],0⟩,some ⟨fl (encS true) s6.2.1,1⟩,some ⟨fl (enc_TWrite true) s6.2.2,2⟩]) (fun y=>y19 = y) (fun _ _ _ _ g h=>RW.gh g h) ?_ ?_
      ·refine RW.reg ?_
       refine rl.run 3 rfl ?_
       cases hb : (!v18.2)
       ·have h41:=iteBF ey19 hb
        refine rl.run 2 rfl ?_
        refine rl.gen rfl rfl fun b hb=>?_
        cases b
        ·have h42:=iteBF h41 hb
         refine rl.run 1 rfl (rl.done ?_)
         cases h42
         exact ⟨_,rfl,(Gh.ren0 [0,1,2,3,4] (.cells rfl rfl (.keep (ekS.rlst) (.keep (ek_TWrite.rlst) .nil)) (.cells rfl rfl (.keep .nils (.keep .nils .nil)) (.cells rfl rfl (.slq rfl rfl (.slq rfl rfl .nil)) (.same rfl (ekS.fref _ _) (.same rfl (ek_TWrite.fref _ _) .nil))))) rfl (.cons rfl (.dat .int) (.cons rfl (.dat .int) (.cons rfl (.dat .str) (.cons rfl (.ptr rfl) (.cons rfl (.ptr rfl) (.cons rfl (.ptr rfl) (.cons rfl (.dat .int) (.cons rfl (.dat .int) (.cons rfl (.dat .int) (.cons rfl (.dat .int) (.cons rfl (.dat .str) (.cons rfl (.dat .bool) .nil)))))))))))))⟩
        ·have h43:=iteBT h41 hb
         refine rl.run 1 rfl (rl.done ?_)
         cases h43
         exact ⟨_,rfl,(Gh.ren0 [0,1,2,3,4] (.cells rfl rfl (.keep (ekS.rlst) (.keep (ek_TWrite.rlst) .nil)) (.cells rfl rfl (.keep .nils (.keep .nils .nil)) (.cells rfl rfl (.slq rfl rfl (.slq rfl rfl .nil)) (.same rfl (ekS.fref _ _) (.same rfl (ek_TWrite.fref _ _) .nil))))) rfl (.cons rfl (.dat .int) (.cons rfl (.dat .int) (.cons rfl (.dat .str) (.cons rfl (.ptr rfl) (.cons rfl (.ptr rfl) (.cons rfl (.ptr rfl) (.cons rfl (.dat .int) (.cons rfl (.dat .int) (.cons rfl (.dat .int) (.cons rfl (.dat .int) (.cons rfl (.dat .str) (.cons rfl (.dat .bool) .nil)))))))))))))⟩
       ·have h44:=iteBT ey19 hb
        refine rl.run 4 rfl (rl.done ?_)
        cases h44
        exact ⟨_,rfl,(Gh.ren0 [0,1,2,3,4] (.cells rfl rfl (.keep (ekS.rlst) (.keep (ek_TWrite.rlst) .nil)) (.cells rfl rfl (.keep .nils (.keep .nils .nil)) (.cells rfl rfl (.slq rfl rfl (.slq rfl rfl .nil)) (.same rfl (ekS.fref _ _) (.same rfl (ek_TWrite.fref _ _) .nil))))) rfl (.cons rfl (.dat .int) (.cons rfl (.dat .int) (.cons rfl (.dat .str) (.cons rfl (.ptr rfl) (.cons rfl (.ptr rfl) (.cons rfl (.ptr rfl) (.cons rfl (.dat .int) (.cons rfl (.dat .int) (.cons rfl (.dat .int) (.cons rfl (.dat .int) (.cons rfl (.dat .str) (.cons rfl (.dat .bool) .nil)))))))))))))⟩
      ·intro y hC
       subst hC
       cases hb : y19
       ·have h45:=iteBF h40 hb
        refine RW.cond_f rfl (RW.skip ?_)
        refine RW.sdrwF [⟨[.nils,.nils],0⟩] ?_
        refine rdraw.op rfl rfl (rdraw.op rfl rfl (rdraw.op rfl rfl (rdraw.op rfl rfl ?_)))
        obtain ⟨v20,e20,h46⟩:=bindS h45
        refine rdraw.op rfl (x_sls rfl rfl rfl abnd_hi e20) ?_
        refine rdraw.op rfl rfl (rdraw.op rfl rfl (rdraw.op rfl rfl (rdraw.op rfl rfl (rdraw.op rfl rfl ?_))))
        obtain ⟨v21,e21,h47⟩:=bindS h46
        refine rdraw.op rfl (x_sls rfl rfl rfl abnd_both e21) ?_
        obtain ⟨v22,e22,h48⟩:=bindS h47
        refine rdraw.op rfl (x_cat rfl rfl e22) ?_
        refine rdraw.op rfl rfl (rdraw.op rfl rfl (rdraw.op rfl rfl (rdraw.op rfl rfl ?_)))
        obtain ⟨v23,e23,h49⟩:=bindS h48
        refine rdraw.op rfl (x_sls rfl rfl rfl abnd_lo e23) ?_
        obtain ⟨v24,e24,h50⟩:=bindS h49
        refine rdraw.op rfl (x_cat rfl rfl e24) ?_
        obtain ⟨v25,e25,h51⟩:=bindS h50
        refine rdraw.ccall rfl rfl rfl (CallW.own (r':=.tup [.agg [.sl 6 0 v25.1.Sectors.length,.sl 7 0 v25.1.Cache.length],.bool v25.2]) (H':=[some ⟨[L_S x0.Sectors,L_TWrite x0.Cache],0⟩,some ⟨[.nils,.nils],0⟩,some ⟨[.sl 3 0 s6.2.1.length,.sl 4 0 s6.2.2.length],0⟩,some ⟨fl (encS true) s6.2.1,1⟩,some ⟨fl (enc_TWrite true) s6.2.2,2⟩,some ⟨[.nils,.nils],0⟩,some ⟨fl (encS true) v25.1.Sectors,1⟩,some ⟨fl (enc_TWrite true) v25.1.Cache,2⟩]) ok_spec_WriteSector (law_spec_WriteSector e25) (.cons (DFL.agg (.cons (.slq ekS rfl rfl) (.cons (.slq ek_TWrite rfl rfl) .nil))) (.cons .int (.cons .str .nil))) (fac (ek_TDisk.own _) (fac .bool fan)) rfl ?_)
        refine rdraw.op rfl rfl (rdraw.op rfl rfl (rdraw.op rfl rfl ?_))
        refine rdraw.flt rfl (.cons rfl .nil) ?_
        refine rdraw.chnB rfl rfl (.here (.rx rfl) (.skip rfl (.skip rfl (.skip rfl (.skip rfl (.skip rfl (.skip rfl (.skip rfl (.skip rfl (.skip rfl (.skip rfl (.skip rfl (.skip rfl (.skip rfl (.skip rfl (.skip rfl (.skip rfl (.skip rfl (.skip rfl (.skip rfl (.skip rfl .nil))))))))))))))))))))) ?_
        refine rdraw.op rfl rfl (rdraw.done ?_)
        refine RW.kp [1,2,3,4,8,10,11,14,17,18] [(1,.j x1),(2,.j x2),(3,.str x3),(4,.ptr 0 0),(8,.ptr 1 0),(10,.ptr 2 0),(11,.j s6.1),(14,.j (w64 ((x3.length : Int) - s6.1))),(17,.ptr 5 0),(18,.bool v25.2)] [some ⟨[L_S x0.Sectors,L_TWrite x0.Cache],0⟩,some ⟨[.nils,.nils],0⟩,some ⟨[.sl 3 0 s6.2.1.length,.sl 4 0 s6.2.2.length],0⟩,some ⟨fl (encS true) s6.2.1,1⟩,some ⟨fl (enc_TWrite true) s6.2.2,2⟩,some ⟨[.sl 6 0 v25.1.Sectors.length,.sl 7 0 v25.1.Cache.length],0⟩,some ⟨fl (encS true) v25.1.Sectors,1⟩,some ⟨fl (enc_TWrite true) v25.1.Cache,2⟩] rfl rfl ?_
        refine RW.seq (RW.sreg (rl.run 2 rfl (rl.done ?_)))
        cases hb : (!v25.2)
        ·have h52:=iteBF h51 hb
         refine RW.cond_f rfl (RW.skip (RW.sreg (rl.run 2 rfl (rl.done (RW.reg (rl.run 4 rfl (rl.done ?_)))))))
         cases h52
         exact hB13 _ rfl _ _ (Gh.ren0 [0,1,2,6,7] (.cells rfl rfl (.keep (ekS.rlst) (.keep (ek_TWrite.rlst) .nil)) (.cells rfl rfl (.keep .nils (.keep .nils .nil)) (.cells rfl rfl (.slq rfl rfl (.slq rfl rfl .nil)) (.same rfl (ekS.fref _ _) (.same rfl (ek_TWrite.fref _ _) .nil))))) rfl (.cons rfl (.dat .int) (.cons rfl (.dat .int) (.cons rfl (.dat .str) (.cons rfl (.ptr rfl) (.cons rfl (.ptr rfl) (.cons rfl (.ptr rfl) (.cons rfl (.dat .int) .nil))))))))
        ·have h53:=iteBT h51 hb
         refine RW.cond_t rfl (RW.sreg (rl.run 1 rfl ?_))
         obtain ⟨v26,e26,h54⟩:=bindS h53
         refine rl.call rfl rfl rfl (CallW.own (r':=.agg [.sl 8 0 v26.Sectors.length,.sl 9 0 v26.Cache.length]) (H':=[some ⟨[L_S x0.Sectors,L_TWrite x0.Cache],0⟩,some ⟨[.nils,.nils],0⟩,some ⟨[.sl 3 0 s6.2.1.length,.sl 4 0 s6.2.2.length],0⟩,some ⟨fl (encS true) s6.2.1,1⟩,some ⟨fl (enc_TWrite true) s6.2.2,2⟩,some ⟨[.sl 6 0 v25.1.Sectors.length,.sl 7 0 v25.1.Cache.length],0⟩,some ⟨fl (encS true) v25.1.Sectors,1⟩,some ⟨fl (enc_TWrite true) v25.1.Cache,2⟩,some ⟨fl (encS true) v26.Sectors,1⟩,some ⟨fl (enc_TWrite true) v26.Cache,2⟩]) ok_spec_l03Copy (law_spec_l03Copy e26) (.cons (DFL.agg (.cons (.lst ekS) (.cons (.lst ek_TWrite) .nil))) .nil) (ek_TDisk.own _) rfl ?_)
         refine rl.run 2 rfl (rl.done ?_)
         refine RW.kp [8,9] [(8,.ptr 1 0),(9,.bool false)] [some ⟨[L_S x0.Sectors,L_TWrite x0.Cache],0⟩,some ⟨[.sl 8 0 v26.Sectors.length,.sl 9 0 v26.Cache.length],0⟩,some ⟨[.sl 3 0 s6.2.1.length,.sl 4 0 s6.2.2.length],0⟩,some ⟨fl (encS true) s6.2.1,1⟩,some ⟨fl (enc_TWrite true) s6.2.2,2⟩,some ⟨[.sl 6 0 v25.1.Sectors.length,.sl 7 0 v25.1.Cache.length],0⟩,some ⟨fl (encS true) v25.1.Sectors,1⟩,some ⟨fl (enc_TWrite true) v25.1.Cache,2⟩,some ⟨fl (encS true) v26.Sectors,1⟩,some ⟨fl (enc_TWrite true) v26.Cache,2⟩] rfl rfl ?_
         refine RW.ret ?_
         cases h54
         have h55:=elimL h14 (hE13 _ rfl)
         cases h55
         exact RRet.mk rfl (OutT.tup (.cons (OutL.agg (.cons (OutR.ownq ekS rfl rfl) rfl (.cons (OutR.ownq ek_TWrite rfl rfl) rfl .nil))) (.cons .bool .nil))) (by first | decide | simp)
       ·have h56:=iteBT h40 hb
        refine RW.cond_t rfl (RW.sreg (rl.run 1 rfl ?_))
        obtain ⟨v27,e27,h57⟩:=bindS h56
        refine rl.call rfl rfl rfl (CallW.own (r':=.agg [.sl 5 0 v27.Sectors.length,.sl 6 0 v27.Cache.length]) (H':=[some ⟨[L_S x0.Sectors,L_TWrite x0.Cache],0⟩,some ⟨[.nils,.nils],0⟩,some ⟨[.sl 3 0 s6.2.1.length,.sl 4 0 s6.2.2.length],0⟩,some ⟨fl (encS true) s6.2.1,1⟩,some ⟨fl (enc_TWrite true) s6.2.2,2⟩,some ⟨fl (encS true) v27.Sectors,1⟩,some ⟨fl (enc_TWrite true) v27.Cache,2⟩]) ok_spec_l03Copy (law_spec_l03Copy e27) (.cons (DFL.agg (.cons (.lst ekS) (.cons (.lst ek_TWrite) .nil))) .nil) (ek_TDisk.own _) rfl ?_)
        refine rl.run 2 rfl (rl.done ?_)
        refine RW.kp [8,9] [(8,.ptr 1 0),(9,.bool false)] [some ⟨[L_S x0.Sectors,L_TWrite x0.Cache],0⟩,some ⟨[.sl 5 0 v27.Sectors.length,.sl 6 0 v27.Cache.length],0⟩,some ⟨[.sl 3 0 s6.2.1.length,.sl 4 0 s6.2.2.length],0⟩,some ⟨fl (encS true) s6.2.1,1⟩,some ⟨fl (enc_TWrite true) s6.2.2,2⟩,some ⟨fl (encS true) v27.Sectors,1⟩,some ⟨fl (enc_TWrite true) v27.Cache,2⟩] rfl rfl ?_
        refine RW.ret ?_
        cases h57
        have h58:=elimL h14 (hE13 _ rfl)
        cases h58
        exact RRet.mk rfl (OutT.tup (.cons (OutL.agg (.cons (OutR.ownq ekS rfl rfl) rfl (.cons (OutR.ownq ek_TWrite rfl rfl) rfl .nil))) (.cons .bool .nil))) (by first | decide | simp)
   ·intro y7 hC
    have h14:=elimR h14 hC
    refine RW.sreg (rl.run 3 rfl (rl.done (RW.ret ?_)))
    cases h14
    exact RRet.mk rfl (OutT.tup (.cons (OutL.agg (.cons (OutR.ownq ekS rfl rfl) rfl (.cons (OutR.ownq ek_TWrite rfl rfl) rfl .nil))) (.cons .bool .nil))) (by first | decide | simp)
  ·have h59:=iteBT h2 hb
   refine RW.cond_t rfl (RW.sreg (rl.run 3 rfl (rl.done (RW.ret ?_))))
   cases h59
   exact RRet.mk rfl (OutT.tup (.cons (OutL.agg (.cons (OutR.ownq ekS rfl rfl) rfl (.cons (OutR.ownq ek_TWrite rfl rfl) rfl .nil))) (.cons .bool .nil))) (by first | decide | simp)
theorem law_spec_l01New_w {x0 : List Int} {B0_ o0_ : Nat} {r : TL01Cur} (hF : F_spec_l01New_w x0 = some r) : ACalls Try.prog 0 47 [pvB B0_ o0_ x0] [] (.ptr 0 0) [some ⟨[pvB B0_ o0_ x0,.j r.mI,.j r.mH],0⟩]:=by
 refine ACalls.of_m k_spec_l01New rfl ?_
 unfold F_spec_l01New_w at hF
 refine RW.sreg (rl.run 1 rfl (rl.done (RW.sreg (rl.run 4 rfl (rl.done (RW.seq (RW.sreg (rl.run 1 rfl (rl.done ?_)))))))))
 obtain ⟨y5,ey5,h2⟩:=bindS hF
 refine RW.cutq (σ:=Int) (fun y2=>[(0,pvB B0_ o0_ x0),(3,.j y2)]) (fun y2=>[]) (fun y=>y5 = y) (fun _ _ _ _ g h=>RW.gh g h) ?_ ?_
 ·refine RW.blk ?_
  refine RW.iter (σ:=Int × Int) ey5 (fun s1=>[(0,pvB B0_ o0_ x0),(3,.j s1.1),(4,.j s1.2)]) (fun s1=>[]) (Gh.ren0 [] .nil rfl (.cons rfl (.dat (.pv ekB.rlst)) (.cons rfl (.dat .int) (.cons rfl (.dat .int) .nil)))) (fun s1 B o hS1 hB1 hE1=>?_)
  unfold S_spec_l01New_w_1 at hS1
  refine RW.seq (RW.seq ?_)
  obtain ⟨y3,ey3,h3⟩:=bindS hS1
  refine RW.cutq (σ:=Bool) (fun y3=>[(0,pvB B0_ o0_ x0),(3,.j s1.1),(4,.j s1.2),(15,.bool y3)]) (fun y3=>[]) (fun y=>y3 = y) (fun _ _ _ _ g h=>RW.gh g h) ?_ ?_
  ·refine RW.reg ?_
   refine rl.run 3 rfl ?_
   refine rl.gen rfl rfl fun b hb=>?_
   cases b
   ·have h4:=iteBF ey3 hb
    refine rl.run 4 rfl (rl.done ?_)
    cases h4
    exact ⟨_,rfl,(Gh.ren0 [] .nil rfl (.cons rfl (.dat (.pv ekB.rlst)) (.cons rfl (.dat .int) (.cons rfl (.dat .int) (.cons rfl (.dat .bool) .nil)))))⟩
   ·have h5:=iteBT ey3 hb
    refine rl.run 2 rfl ?_
    refine rl.gen rfl rfl fun b hb=>?_
    cases b
    ·have h6:=iteBF h5 hb
     refine rl.run 1 rfl (rl.done ?_)
     cases h6
     exact ⟨_,rfl,(Gh.ren0 [] .nil rfl (.cons rfl (.dat (.pv ekB.rlst)) (.cons rfl (.dat .int) (.cons rfl (.dat .int) (.cons rfl (.dat .bool) .nil)))))⟩
    ·have h7:=iteBT h5 hb
     refine rl.run 1 rfl (rl.done ?_)
     cases h7
     exact ⟨_,rfl,(Gh.ren0 [] .nil rfl (.cons rfl (.dat (.pv ekB.rlst)) (.cons rfl (.dat .int) (.cons rfl (.dat .int) (.cons rfl (.dat .bool) .nil)))))⟩
  ·intro y hC
   subst hC
   cases hb : y3
   ·have h8:=iteBF h3 hb
    refine RW.cond_f rfl (RW.exit (blkA_eq ?_))
    cases h8
    exact ⟨_,(hE1 _ rfl).symm,(Gh.ren0 [] .nil rfl (.cons rfl (.dat (.pv ekB.rlst)) (.cons rfl (.dat .int) .nil)))⟩
   ·have h9:=iteBT h3 hb
    refine RW.cond_t rfl (RW.skip (RW.seq (RW.blk (RW.reg (rl.run 4 rfl ?_)))))
    obtain ⟨v4,e4,h10⟩:=bindS h9
    refine rl.op (x_ia_pv (enc:=encB) (o:=false) rfl rfl rfl e4) ?_
    refine rl.op (x_ld_el (off':=0) ekB rfl e4 rfl rfl rfl) ?_
    refine rl.run 5 rfl (rl.done (RW.reg (rl.run 3 rfl (rl.done ?_))))
    cases h10
    exact hB1 _ rfl _ _ (Gh.ren0 [] .nil rfl (.cons rfl (.dat (.pv ekB.rlst)) (.cons rfl (.dat .int) (.cons rfl (.dat .int) .nil))))
 ·intro y2 hC
  subst hC
  refine RW.sreg (rl.run 5 rfl (rl.done (RW.ret ?_)))
  cases h2
  exact RRetM.mk [0] Gh.refl rfl (.cells rfl rfl (.keep (.pv ekB.rlst) (.keep .int (.keep .int .nil))) .nil) rfl rfl rfl (.ptr rfl)
theorem law_spec_l01Byte_w {x0 : TL01Cur} {B0_ o0_ : Nat} {r : Int × TL01Cur} (hF : F_spec_l01Byte_w x0 = some r) : ACalls Try.prog 0 71 [.ptr 0 0] [some ⟨[pvB B0_ o0_ x0.mB,.j x0.mI,.j x0.mH],0⟩] (.j r.1) [some ⟨[pvB B0_ o0_ x0.mB,.j r.2.mI,.j r.2.mH],0⟩]:=by
 refine ACalls.of_s k_spec_l01Byte rfl ?_
 unfold F_spec_l01Byte_w at hF
 refine RW.sreg (rl.run 1 rfl (rl.done (RW.sreg (rl.run 10 rfl (rl.done (RW.sdrw (rdraw.op rfl rfl (rdraw.op rfl rfl (rdraw.op rfl rfl (rdraw.op rfl rfl (rdraw.op rfl rfl ?_)))))))))))
 refine rdraw.op rfl rfl (rdraw.op rfl rfl (rdraw.op rfl rfl (rdraw.op rfl rfl (rdraw.op rfl rfl (rdraw.op rfl rfl (rdraw.op rfl rfl (rdraw.op rfl rfl (rdraw.done ?_))))))))
 refine RW.kp [0,3] [(0,.ptr 0 0),(3,.j (andv .i64 (xorv .i64 (shrv .i64 (w64 ((w64 (x0.mH * 6364136223846793005)) + 1442695040888963407)) 33) (shrv .i64 (w64 ((w64 (x0.mH * 6364136223846793005)) + 1442695040888963407)) 45)) 255))] [some ⟨[pvB B0_ o0_ x0.mB,.j x0.mI,.j (w64 ((w64 (x0.mH * 6364136223846793005)) + 1442695040888963407))],0⟩] rfl rfl ?_
 refine RW.seq (RW.sdrw (rdraw.op rfl rfl (rdraw.op rfl rfl (rdraw.op rfl rfl (rdraw.op rfl rfl (rdraw.op rfl rfl (rdraw.op rfl rfl (rdraw.op rfl rfl (rdraw.op rfl rfl (rdraw.op rfl rfl ?_))))))))))
 refine rdraw.gen rfl rfl fun b hb=>?_
 cases b
 ·have h1:=iteBF hF hb
  refine rdraw.done (RW.cond_f rfl (RW.skip (RW.sreg (rl.run 2 rfl (rl.done ?_)))))
  refine RW.kp [2] [(2,.j (andv .i64 (xorv .i64 (shrv .i64 (w64 ((w64 (x0.mH * 6364136223846793005)) + 1442695040888963407)) 33) (shrv .i64 (w64 ((w64 (x0.mH * 6364136223846793005)) + 1442695040888963407)) 45)) 255))] [some ⟨[pvB B0_ o0_ x0.mB,.j x0.mI,.j (w64 ((w64 (x0.mH * 6364136223846793005)) + 1442695040888963407))],0⟩] rfl rfl ?_
  refine RW.ret ?_
  cases h1
  exact RRetS.mk rfl .int (Gh.renN [0] (.cells rfl rfl (.keep (.pv ekB.rlst) (.keep .int (.keep .int .nil))) .nil) rfl rfl rfl .nil)
 ·have h2:=iteBT hF hb
  refine rdraw.done (RW.cond_t rfl (RW.sdrw (rdraw.op rfl rfl (rdraw.op rfl rfl (rdraw.op rfl rfl (rdraw.op rfl rfl (rdraw.op rfl rfl (rdraw.op rfl rfl (rdraw.op rfl rfl (rdraw.op rfl rfl (rdraw.op rfl rfl ?_)))))))))))
  obtain ⟨v1,e1,h3⟩:=bindS h2
  refine rdraw.op rfl (x_ia_lst (enc:=encB) (o:=false) rfl rfl rfl e1) ?_
  refine rdraw.op rfl (x_ld_el (off':=0) ekB rfl e1 rfl rfl rfl) ?_
  refine rdraw.op rfl rfl (rdraw.op rfl rfl (rdraw.op rfl rfl (rdraw.op rfl rfl (rdraw.done ?_))))
  refine RW.kp [0,3] [(0,.ptr 0 0),(3,.j (andv .i64 (w64 ((andv .i64 (xorv .i64 (shrv .i64 (w64 ((w64 (x0.mH * 6364136223846793005)) + 1442695040888963407)) 33) (shrv .i64 (w64 ((w64 (x0.mH * 6364136223846793005)) + 1442695040888963407)) 45)) 255) + (w64 v1))) 255))] [some ⟨[pvB B0_ o0_ x0.mB,.j x0.mI,.j (w64 ((w64 (x0.mH * 6364136223846793005)) + 1442695040888963407))],0⟩] rfl rfl ?_
  refine RW.reg (rl.run 9 rfl (rl.done (RW.sreg (rl.run 2 rfl (rl.done ?_)))))
  refine RW.kp [2] [(2,.j (andv .i64 (w64 ((andv .i64 (xorv .i64 (shrv .i64 (w64 ((w64 (x0.mH * 6364136223846793005)) + 1442695040888963407)) 33) (shrv .i64 (w64 ((w64 (x0.mH * 6364136223846793005)) + 1442695040888963407)) 45)) 255) + (w64 v1))) 255))] [some ⟨[pvB B0_ o0_ x0.mB,.j (w64 (x0.mI + 1)),.j (w64 ((w64 (x0.mH * 6364136223846793005)) + 1442695040888963407))],0⟩] rfl rfl ?_
  refine RW.ret ?_
  cases h3
  exact RRetS.mk rfl .int (Gh.renN [0] (.cells rfl rfl (.keep (.pv ekB.rlst) (.keep .int (.keep .int .nil))) .nil) rfl rfl rfl .nil)
theorem law_spec_l01Below_w {x0 : TL01Cur} {x1 : Int} {B0_ o0_ : Nat} {r : Int × TL01Cur} (hF : F_spec_l01Below_w x0 x1 = some r) : ACalls Try.prog 0 72 [.ptr 0 0,.j x1] [some ⟨[pvB B0_ o0_ x0.mB,.j x0.mI,.j x0.mH],0⟩] (.j r.1) [some ⟨[pvB B0_ o0_ x0.mB,.j r.2.mI,.j r.2.mH],0⟩]:=by
 refine ACalls.of_s k_spec_l01Below rfl ?_
 unfold F_spec_l01Below_w at hF
 refine RW.sreg (rl.run 1 rfl (rl.done (RW.seq (RW.sreg (rl.run 1 rfl ?_)))))
 refine rl.gen rfl rfl fun b hb=>?_
 cases b
 ·have h1:=iteBF hF hb
  refine rl.done (RW.cond_f rfl (RW.skip (RW.seq (RW.sreg (rl.run 1 rfl ?_)))))
  refine rl.gen rfl rfl fun b hb=>?_
  cases b
  ·have h2:=iteBF h1 hb
   refine rl.done (RW.cond_f rfl (RW.skip (RW.sreg (rl.run 1 rfl ?_))))
   obtain ⟨v1,e1,h3⟩:=bindS h2
   refine rl.call rfl rfl rfl (CallW.embN (r0:=.j v1.1) (H':=[some ⟨[pvB B0_ o0_ x0.mB,.j v1.2.mI,.j v1.2.mH],0⟩]) [⟨[pvB B0_ o0_ x0.mB,.j x0.mI,.j x0.mH],0⟩] [⟨[pvB B0_ o0_ x0.mB,.j v1.2.mI,.j v1.2.mH],0⟩] [] [0] [pvB B0_ o0_ x0.mB] ok_spec_l01Byte (law_spec_l01Byte_w e1) (.cons rfl (fac (.pv ekB.rlst) (fac .int (fac .int fan))) (fac (.inr (.head _)) (fac (.inl .int) (fac (.inl .int) fan))) .nil) .nil (.blk 0 0 0 0 0 rfl rfl rfl rfl scalB .nil) rfl (.cons (.ptr rfl) .nil) .int rfl ?_)
   refine rl.run 1 rfl (rl.done (RW.sreg (rl.run 1 rfl ?_)))
   obtain ⟨v2,e2,h4⟩:=bindS h3
   refine rl.call rfl rfl rfl (CallW.embN (r0:=.j v2.1) (H':=[some ⟨[pvB B0_ o0_ x0.mB,.j v2.2.mI,.j v2.2.mH],0⟩]) [⟨[pvB B0_ o0_ x0.mB,.j v1.2.mI,.j v1.2.mH],0⟩] [⟨[pvB B0_ o0_ x0.mB,.j v2.2.mI,.j v2.2.mH],0⟩] [] [0] [pvB B0_ o0_ x0.mB] ok_spec_l01Byte (law_spec_l01Byte_w e2) (.cons rfl (fac (.pv ekB.rlst) (fac .int (fac .int fan))) (fac (.inr (.head _)) (fac (.inl .int) (fac (.inl .int) fan))) .nil) .nil (.blk 0 0 0 0 0 rfl rfl rfl rfl scalB .nil) rfl (.cons (.ptr rfl) .nil) .int rfl ?_)
   refine rl.run 1 rfl (rl.done (RW.sreg (rl.run 1 rfl ?_)))
   obtain ⟨v3,e3,h5⟩:=bindS h4
   refine rl.call rfl rfl rfl (CallW.embN (r0:=.j v3.1) (H':=[some ⟨[pvB B0_ o0_ x0.mB,.j v3.2.mI,.j v3.2.mH],0⟩]) [⟨[pvB B0_ o0_ x0.mB,.j v2.2.mI,.j v2.2.mH],0⟩] [⟨[pvB B0_ o0_ x0.mB,.j v3.2.mI,.j v3.2.mH],0⟩] [] [0] [pvB B0_ o0_ x0.mB] ok_spec_l01Byte (law_spec_l01Byte_w e3) (.cons rfl (fac (.pv ekB.rlst) (fac .int (fac .int fan))) (fac (.inr (.head _)) (fac (.inl .int) (fac (.inl .int) fan))) .nil) .nil (.blk 0 0 0 0 0 rfl rfl rfl rfl scalB .nil) rfl (.cons (.ptr rfl) .nil) .int rfl ?_)
   refine rl.run 1 rfl (rl.done ?_)
   refine RW.kp [0,1,5,6,7] [(0,.ptr 0 0),(1,.j x1),(5,.j v1.1),(6,.j v2.1),(7,.j v3.1)] [some ⟨[pvB B0_ o0_ x0.mB,.j v3.2.mI,.j v3.2.mH],0⟩] rfl rfl ?_
   refine RW.sreg (rl.run 1 rfl ?_)
   obtain ⟨v4,e4,h6⟩:=bindS h5
   refine rl.call rfl rfl rfl (CallW.embN (r0:=.j v4.1) (H':=[some ⟨[pvB B0_ o0_ x0.mB,.j v4.2.mI,.j v4.2.mH],0⟩]) [⟨[pvB B0_ o0_ x0.mB,.j v3.2.mI,.j v3.2.mH],0⟩] [⟨[pvB B0_ o0_ x0.mB,.j v4.2.mI,.j v4.2.mH],0⟩] [] [0] [pvB B0_ o0_ x0.mB] ok_spec_l01Byte (law_spec_l01Byte_w e4) (.cons rfl (fac (.pv ekB.rlst) (fac .int (fac .int fan))) (fac (.inr (.head _)) (fac (.inl .int) (fac (.inl .int) fan))) .nil) .nil (.blk 0 0 0 0 0 rfl rfl rfl rfl scalB .nil) rfl (.cons (.ptr rfl) .nil) .int rfl ?_)
   refine rl.run 1 rfl (rl.done (RW.sreg (rl.run 11 rfl ?_)))
   obtain ⟨v5,e5,h7⟩:=bindS h6
   refine rl.op (x_rem rfl rfl e5) ?_
   refine rl.run 1 rfl (rl.done ?_)
   refine RW.kp [4] [(4,.j v5)] [some ⟨[pvB B0_ o0_ x0.mB,.j v4.2.mI,.j v4.2.mH],0⟩] rfl rfl ?_
   refine RW.ret ?_
   cases h7
   exact RRetS.mk rfl .int (Gh.renN [0] (.cells rfl rfl (.keep (.pv ekB.rlst) (.keep .int (.keep .int .nil))) .nil) rfl rfl rfl .nil)
  ·have h8:=iteBT h1 hb
   refine rl.done (RW.cond_t rfl (RW.sreg (rl.run 1 rfl ?_)))
   obtain ⟨v6,e6,h9⟩:=bindS h8
   refine rl.call rfl rfl rfl (CallW.embN (r0:=.j v6.1) (H':=[some ⟨[pvB B0_ o0_ x0.mB,.j v6.2.mI,.j v6.2.mH],0⟩]) [⟨[pvB B0_ o0_ x0.mB,.j x0.mI,.j x0.mH],0⟩] [⟨[pvB B0_ o0_ x0.mB,.j v6.2.mI,.j v6.2.mH],0⟩] [] [0] [pvB B0_ o0_ x0.mB] ok_spec_l01Byte (law_spec_l01Byte_w e6) (.cons rfl (fac (.pv ekB.rlst) (fac .int (fac .int fan))) (fac (.inr (.head _)) (fac (.inl .int) (fac (.inl .int) fan))) .nil) .nil (.blk 0 0 0 0 0 rfl rfl rfl rfl scalB .nil) rfl (.cons (.ptr rfl) .nil) .int rfl ?_)
   refine rl.run 1 rfl ?_
   obtain ⟨v7,e7,h10⟩:=bindS h9
   refine rl.op (x_rem rfl rfl e7) ?_
   refine rl.run 1 rfl (rl.done (RW.ret ?_))
   cases h10
   exact RRetS.mk rfl .int (Gh.renN [0] (.cells rfl rfl (.keep (.pv ekB.rlst) (.keep .int (.keep .int .nil))) .nil) rfl rfl rfl .nil)
 ·have h11:=iteBT hF hb
  refine rl.done (RW.cond_t rfl (RW.sreg (rl.run 1 rfl (rl.done (RW.ret ?_)))))
  cases h11
  exact RRetS.mk rfl .int (Gh.renN [0] (.cells rfl rfl (.keep (.pv ekB.rlst) (.keep .int (.keep .int .nil))) .nil) rfl rfl rfl .nil)
theorem law_spec_DrawPlaces {x0 : List Int} {r : List Int} (hF : F_spec_DrawPlaces x0 = some r) : PCalls Try.prog 20 [L_B x0] (.lst true 1 (fl (encI true) r) r.length):=by
 refine PCalls.of_r k_spec_DrawPlaces rfl ?_
 unfold F_spec_DrawPlaces at hF
 refine RW.sreg (rl.run 1 rfl (rl.done ?_))
 refine RW.pin 0 rfl fun B1 o1=>?_
 refine RW.sreg (rl.run 1 rfl ?_)
 obtain ⟨v2,e2,h1⟩:=bindS hF
 refine rl.call rfl rfl rfl (CallW.embN (r0:=.ptr 0 0) (H':=[some ⟨[pvB B1 o1 x0,.j v2.mI,.j v2.mH],0⟩]) [] [] [⟨[pvB B1 o1 x0,.j v2.mI,.j v2.mH],0⟩] [] [pvB B1 o1 x0] ok_spec_l01New (law_spec_l01New_w e2) .nil (.cons (fac (.inr (.head _)) (fac (.inl .int) (fac (.inl .int) fan))) .nil) (.arg 0 rfl scalB .nil) rfl (.cons (.dat (.pv ekB.rlst)) .nil) (.ptr rfl) rfl ?_)
 refine rl.run 1 rfl (rl.done (RW.sreg (rl.run 1 rfl ?_)))
 obtain ⟨v3,e3,h2⟩:=bindS h1
 refine rl.call rfl rfl rfl (CallW.embN (r0:=.j v3.1) (H':=[some ⟨[pvB B1 o1 x0,.j v3.2.mI,.j v3.2.mH],0⟩]) [⟨[pvB B1 o1 x0,.j v2.mI,.j v2.mH],0⟩] [⟨[pvB B1 o1 x0,.j v3.2.mI,.j v3.2.mH],0⟩] [] [0] [pvB B1 o1 x0] ok_spec_l01Byte (law_spec_l01Byte_w e3) (.cons rfl (fac (.pv ekB.rlst) (fac .int (fac .int fan))) (fac (.inr (.head _)) (fac (.inl .int) (fac (.inl .int) fan))) .nil) .nil (.blk 0 0 0 0 0 rfl rfl rfl rfl scalB .nil) rfl (.cons (.ptr rfl) .nil) .int rfl ?_)
 refine rl.done (RW.sreg (rl.run 2 rfl (rl.done (RW.seq (RW.sreg (rl.run 1 rfl (rl.done ?_)))))))
 refine RW.gh (Gh.nil_t 4 1 rfl) ?_
 obtain ⟨y8,ey8,h4⟩:=bindS h2
 refine RW.cutq (σ:=(List Int)) (fun y5=>[(4,.sl 0 0 y5.length)]) (fun y5=>[some ⟨fl (encI true) y5,1⟩]) (fun y=>y8 = y) (fun _ _ _ _ g h=>RW.gh g h) ?_ ?_
 ·refine RW.blk ?_
  refine RW.iter (σ:=Int × Int × Int × (List Int)) ey8 (fun s4=>[(3,.ptr 0 0),(4,.sl 1 0 s4.2.2.2.length),(5,.j s4.1)]) (fun s4=>[some ⟨[pvB B1 o1 x0,.j s4.2.1,.j s4.2.2.1],0⟩,some ⟨fl (encI true) s4.2.2.2,1⟩]) (Gh.ren0 [0,1] (.cells rfl rfl (.keep (.pv ekB.rlst) (.keep .int (.keep .int .nil))) (.same rfl (ekI.fref _ _) .nil)) rfl (.cons rfl (.ptr rfl) (.cons rfl (.slq rfl rfl) (.cons rfl (.dat .int) .nil)))) (fun s4 B o hS3 hB3 hE3=>?_)
  unfold S_spec_DrawPlaces_1 at hS3
  refine RW.seq (RW.sreg (rl.run 1 rfl ?_))
  refine rl.gen rfl rfl fun b hb=>?_
  cases b
  ·have h5:=iteBF hS3 hb
   refine rl.done (RW.cond_f rfl (RW.exit (blkA_eq ?_)))
   cases h5
   exact ⟨_,(hE3 _ rfl).symm,(Gh.ren0 [1] (.same rfl (ekI.fref _ _) .nil) rfl (.cons rfl (.slq rfl rfl) .nil))⟩
  ·have h6:=iteBT hS3 hb
   refine rl.done (RW.cond_t rfl (RW.skip (RW.seq (RW.blk (RW.reg (rl.run 2 rfl ?_))))))
   obtain ⟨v6,e6,h7⟩:=bindS h6
   refine rl.call rfl rfl rfl (CallW.embN (r0:=.j v6.1) (H':=[some ⟨[pvB B1 o1 x0,.j v6.2.mI,.j v6.2.mH],0⟩,some ⟨fl (encI true) s4.2.2.2,1⟩]) [⟨[pvB B1 o1 x0,.j s4.2.1,.j s4.2.2.1],0⟩] [⟨[pvB B1 o1 x0,.j v6.2.mI,.j v6.2.mH],0⟩] [] [0] [pvB B1 o1 x0] ok_spec_l01Below (law_spec_l01Below_w e6) (.cons rfl (fac (.pv ekB.rlst) (fac .int (fac .int fan))) (fac (.inr (.head _)) (fac (.inl .int) (fac (.inl .int) fan))) .nil) .nil (.blk 0 0 0 0 0 rfl rfl rfl rfl scalB .nil) rfl (.cons (.ptr rfl) (.cons (.dat .int) .nil)) .int rfl ?_)
   refine rl.run 1 rfl ?_
   obtain ⟨v7,e7,h8⟩:=bindS h7
   refine rl.op (x_app rfl rfl (rapp_sl (l:=s4.2.2.2) (m:=[v6.1]) (o:=true) ekI rfl rfl (acont_slq (m:=[v6.1]) (o:=true) fkI rfl rfl) rfl (fkI.fst _ _) e7)) ?_
   refine rl.run 1 rfl (rl.done (RW.reg (rl.run 3 rfl (rl.done ?_))))
   cases h8
   exact hB3 _ rfl _ _ (Gh.ren0 [0,3] (.cells rfl rfl (.keep (.pv ekB.rlst) (.keep .int (.keep .int .nil))) (.same rfl (ekI.fref _ _) .nil)) rfl (.cons rfl (.ptr rfl) (.cons rfl (.slq rfl rfl) (.cons rfl (.dat .int) .nil))))
 ·intro y5 hC
  subst hC
  refine RW.sreg (rl.run 2 rfl (rl.done (RW.ret ?_)))
  cases h4
  exact RRet.mk rfl (OutR.ownq ekI rfl rfl) (by first | decide | simp)
theorem law_impl_DiskOk_2_w {x0 : TWrite} {x1 : TDisk} {r : Bool} (hF : F_impl_DiskOk_2_w x0 x1 = some r) : ACalls Try.prog 1 102 [.agg (enc_TWrite false x0),.ptr 0 0] [some ⟨[L_S x1.Sectors,L_TWrite x1.Cache],0⟩] (.bool r) [some ⟨[L_S x1.Sectors,L_TWrite x1.Cache],0⟩]:=by
 refine ACalls.of_s k_impl_DiskOk_2 rfl ?_
 unfold F_impl_DiskOk_2_w at hF
 refine RW.sreg (rl.run 2 rfl (rl.done (RW.sreg (rl.run 6 rfl ?_))))
 obtain ⟨v1,e1,h1⟩:=bindS hF
 refine rl.call rfl rfl rfl (CallW.val (r':=.bool v1) ok_impl_in (law_impl_in e1) (.cons .int (.cons .int (.cons .int .nil))) .refl ?_)
 cases hb : v1
 ·have h2:=iteBF h1 hb
  refine rl.run 8 rfl (rl.done ?_)
  refine RW.kp [3] [(3,.bool true)] [some ⟨[L_S x1.Sectors,L_TWrite x1.Cache],0⟩,some ⟨[.j x0.At,.str x0.Text],0⟩] rfl rfl ?_
  refine RW.ret ?_
  cases h2
  exact RRetS.mk rfl .bool (Gh.renN [0] (.cells rfl rfl (.keep (ekS.rlst) (.keep (ek_TWrite.rlst) .nil)) .nil) rfl rfl rfl .nil)
 ·have h3:=iteBT h1 hb
  refine rl.run 8 rfl (rl.done ?_)
  refine RW.kp [3] [(3,.bool ((x0.Text.length : Int) != 32))] [some ⟨[L_S x1.Sectors,L_TWrite x1.Cache],0⟩,some ⟨[.j x0.At,.str x0.Text],0⟩] rfl rfl ?_
  refine RW.ret ?_
  cases h3
  exact RRetS.mk rfl .bool (Gh.renN [0] (.cells rfl rfl (.keep (ekS.rlst) (.keep (ek_TWrite.rlst) .nil)) .nil) rfl rfl rfl .nil)
theorem law_slices_IndexFunc_Write_DiskOk_2 {x0 : List TWrite} {x1 : TDisk} {r : Int} (hF : F_slices_IndexFunc_Write_DiskOk_2 x0 x1 = some r) : ACalls Try.prog 1 146 [L_TWrite x0,.fn 102 [.ptr 0 0]] [some ⟨[L_S x1.Sectors,L_TWrite x1.Cache],0⟩] (.j r) [some ⟨[L_S x1.Sectors,L_TWrite x1.Cache],0⟩]:=by
 refine ACalls.of_s k_slices_IndexFunc_Write rfl ?_
 unfold F_slices_IndexFunc_Write_DiskOk_2 at hF
 refine RW.sreg (rl.run 1 rfl (rl.done (RW.seq (RW.sreg (rl.run 3 rfl (rl.done ?_))))))
 obtain ⟨y5,ey5,h2⟩:=bindS hF
 refine RW.cutq (σ:=Unit) (fun y2=>[]) (fun y2=>[some ⟨[L_S x1.Sectors,L_TWrite x1.Cache],0⟩]) (fun y=>y5 = .inr y) (fun _ _ _ _ g h=>RW.gh g h) ?_ ?_
 ·refine RW.blk ?_
  refine RW.iter (σ:=Int) ey5 (fun s1=>[(0,L_TWrite x0),(1,.fn 102 [.ptr 0 0]),(7,.j (x0.length : Int)),(8,.j s1)]) (fun s1=>[some ⟨[L_S x1.Sectors,L_TWrite x1.Cache],0⟩]) (Gh.renN [0] (.cells rfl rfl (.keep (ekS.rlst) (.keep (ek_TWrite.rlst) .nil)) .nil) rfl rfl rfl (.cons rfl (.dat (ek_TWrite.rlst)) (.cons rfl (RnL.fn (.cons (.ptr rfl) .nil)) (.cons rfl (.dat .int) (.cons rfl (.dat .int) .nil))))) (fun s1 B o hS1 hB1 hE1=>?_)
  unfold S_slices_IndexFunc_Write_DiskOk_2_1 at hS1
  refine RW.sreg ?_
  refine rl.gen rfl rfl fun b hb=>?_
  cases b
  ·have h3:=iteBF hS1 hb
   refine rl.done (RW.seq (RW.cond_f rfl (RW.exit (blkA_eq ?_))))
   cases h3
   exact ⟨_,(hE1 _ rfl).symm,(Gh.renN [0] (.cells rfl rfl (.keep (ekS.rlst) (.keep (ek_TWrite.rlst) .nil)) .nil) rfl rfl rfl .nil)⟩
  ·have h4:=iteBT hS1 hb
   refine rl.done (RW.seq (RW.cond_t rfl (RW.skip (RW.seq (RW.blk (RW.sreg (rl.run 2 rfl (rl.done (RW.sreg (rl.run 3 rfl ?_))))))))))
   obtain ⟨v3,e3,h5⟩:=bindS h4
   refine rl.op (x_ia_lst (enc:=enc_TWrite) (o:=false) rfl rfl rfl e3) ?_
   refine rl.op (x_ld_ela (off':=0) (vs:=(enc_TWrite false v3)) ek_TWrite rfl e3 rfl rfl rfl) ?_
   obtain ⟨v4,e4,h6⟩:=bindS h5
   refine rl.call rfl rfl rfl (CallW.embR [0] ok_impl_DiskOk_2 (law_impl_DiskOk_2_w e4) (.cells rfl rfl (.keep (ekS.rlst) (.keep (ek_TWrite.rlst) .nil)) .nil) rfl rfl (.cons (.dat (ek_TWrite.rrec)) (.cons (.ptr rfl) .nil)) .bool ?_)
   cases hb : v4
   ·have h7:=iteBF h6 hb
    refine rl.done (RW.cond_f rfl (RW.skip (RW.reg (rl.run 2 rfl (rl.done ?_)))))
    cases h7
    exact hB1 _ rfl _ _ (Gh.renN [0] (.cells rfl rfl (.keep (ekS.rlst) (.keep (ek_TWrite.rlst) .nil)) .nil) rfl rfl rfl (.cons rfl (.dat (ek_TWrite.rlst)) (.cons rfl (RnL.fn (.cons (.ptr rfl) .nil)) (.cons rfl (.dat .int) (.cons rfl (.dat .int) .nil)))))
   ·have h8:=iteBT h6 hb
    refine rl.done (RW.cond_t rfl (RW.sreg (rl.run 2 rfl (rl.done ?_))))
    refine RW.kp [4] [(4,.j s1)] [some ⟨[L_S x1.Sectors,L_TWrite x1.Cache],0⟩] rfl rfl ?_
    refine RW.ret ?_
    cases h8
    have h9:=elimL h2 (hE1 _ rfl)
    cases h9
    exact RRetS.mk rfl .int (Gh.renN [0] (.cells rfl rfl (.keep (ekS.rlst) (.keep (ek_TWrite.rlst) .nil)) .nil) rfl rfl rfl .nil)
 ·intro y2 hC
  have h2:=elimR h2 hC
  refine RW.sreg (rl.run 1 rfl (rl.done (RW.ret ?_)))
  cases h2
  exact RRetS.mk rfl .int (Gh.renN [0] (.cells rfl rfl (.keep (ekS.rlst) (.keep (ek_TWrite.rlst) .nil)) .nil) rfl rfl rfl .nil)
theorem law_slices_ContainsFunc_Write_DiskOk_2 {x0 : List TWrite} {x1 : TDisk} {r : Bool} (hF : F_slices_ContainsFunc_Write_DiskOk_2 x0 x1 = some r) : ACalls Try.prog 1 101 [L_TWrite x0,.fn 102 [.ptr 0 0]] [some ⟨[L_S x1.Sectors,L_TWrite x1.Cache],0⟩] (.bool r) [some ⟨[L_S x1.Sectors,L_TWrite x1.Cache],0⟩]:=by
 refine ACalls.of_s k_slices_ContainsFunc_Write rfl ?_
 unfold F_slices_ContainsFunc_Write_DiskOk_2 at hF
 refine RW.sreg (rl.run 1 rfl (rl.done (RW.sreg (rl.run 2 rfl ?_))))
 obtain ⟨v1,e1,h1⟩:=bindS hF
 refine rl.call rfl rfl rfl (CallW.embR [0] ok_slices_IndexFunc_Write (law_slices_IndexFunc_Write_DiskOk_2 e1) (.cells rfl rfl (.keep (ekS.rlst) (.keep (ek_TWrite.rlst) .nil)) .nil) rfl rfl (.cons (.dat (ek_TWrite.rlst)) (.cons (RnL.fn (.cons (.ptr rfl) .nil)) .nil)) .int ?_)
 refine rl.run 2 rfl (rl.done (RW.ret ?_))
 cases h1
 exact RRetS.mk rfl .bool (Gh.renN [0] (.cells rfl rfl (.keep (ekS.rlst) (.keep (ek_TWrite.rlst) .nil)) .nil) rfl rfl rfl .nil)
theorem law_impl_DiskOk_1 {x0 : List UInt8} {r : Bool} (hF : F_impl_DiskOk_1 x0 = some r) : PCalls Try.prog 100 [.str x0] (.bool r):=by
 refine PCalls.of_r k_impl_DiskOk_1 rfl ?_
 unfold F_impl_DiskOk_1 at hF
 refine RW.sreg (rl.run 1 rfl (rl.done (RW.sreg (rl.run 4 rfl (rl.done (RW.ret ?_))))))
 cases hF
 exact RRet.mk rfl .bool (by first | decide | simp)
theorem law_slices_IndexFunc_string_DiskOk_1 {x0 : List (List UInt8)} {r : Int} (hF : F_slices_IndexFunc_string_DiskOk_1 x0 = some r) : PCalls Try.prog 145 [L_S x0,.fn 100 []] (.j r):=by
 refine PCalls.of_r k_slices_IndexFunc_string rfl ?_
 unfold F_slices_IndexFunc_string_DiskOk_1 at hF
 refine RW.sreg (rl.run 1 rfl (rl.done (RW.seq (RW.sreg (rl.run 3 rfl (rl.done ?_))))))
 obtain ⟨y5,ey5,h2⟩:=bindS hF
 refine RW.cutq (σ:=Unit) (fun y2=>[]) (fun y2=>[]) (fun y=>y5 = .inr y) (fun _ _ _ _ g h=>RW.gh g h) ?_ ?_
 ·refine RW.blk ?_
  refine RW.iter (σ:=Int) ey5 (fun s1=>[(0,L_S x0),(1,.fn 100 []),(7,.j (x0.length : Int)),(8,.j s1)]) (fun s1=>[]) (Gh.ren0 [] .nil rfl (.cons rfl (.dat (ekS.rlst)) (.cons rfl (RnL.fn .nil) (.cons rfl (.dat .int) (.cons rfl (.dat .int) .nil))))) (fun s1 B o hS1 hB1 hE1=>?_)
  unfold S_slices_IndexFunc_string_DiskOk_1_1 at hS1
  refine RW.sreg ?_
  refine rl.gen rfl rfl fun b hb=>?_
  cases b
  ·have h3:=iteBF hS1 hb
   refine rl.done (RW.seq (RW.cond_f rfl (RW.exit (blkA_eq ?_))))
   cases h3
   exact ⟨_,(hE1 _ rfl).symm,(Gh.ren0 [] .nil rfl .nil)⟩
  ·have h4:=iteBT hS1 hb
   refine rl.done (RW.seq (RW.cond_t rfl (RW.skip (RW.seq (RW.blk (RW.sreg (rl.run 2 rfl (rl.done (RW.sreg (rl.run 3 rfl ?_))))))))))
   obtain ⟨v3,e3,h5⟩:=bindS h4
   refine rl.op (x_ia_lst (enc:=encS) (o:=false) rfl rfl rfl e3) ?_
   refine rl.op (x_ld_el (off':=0) ekS rfl e3 rfl rfl rfl) ?_
   obtain ⟨v4,e4,h6⟩:=bindS h5
   refine rl.call rfl rfl rfl (CallW.val (r':=.bool v4) ok_impl_DiskOk_1 (law_impl_DiskOk_1 e4) (.cons .str .nil) .refl ?_)
   cases hb : v4
   ·have h7:=iteBF h6 hb
    refine rl.done (RW.cond_f rfl (RW.skip (RW.reg (rl.run 2 rfl (rl.done ?_)))))
    cases h7
    exact hB1 _ rfl _ _ (Gh.ren0 [] .nil rfl (.cons rfl (.dat (ekS.rlst)) (.cons rfl (RnL.fn .nil) (.cons rfl (.dat .int) (.cons rfl (.dat .int) .nil)))))
   ·have h8:=iteBT h6 hb
    refine rl.done (RW.cond_t rfl (RW.sreg (rl.run 2 rfl (rl.done ?_))))
    refine RW.kp [4] [(4,.j s1)] [] rfl rfl ?_
    refine RW.ret ?_
    cases h8
    have h9:=elimL h2 (hE1 _ rfl)
    cases h9
    exact RRet.mk rfl .int (by first | decide | simp)
 ·intro y2 hC
  have h2:=elimR h2 hC
  refine RW.sreg (rl.run 1 rfl (rl.done (RW.ret ?_)))
  cases h2
  exact RRet.mk rfl .int (by first | decide | simp)
theorem law_slices_ContainsFunc_string_DiskOk_1 {x0 : List (List UInt8)} {r : Bool} (hF : F_slices_ContainsFunc_string_DiskOk_1 x0 = some r) : PCalls Try.prog 99 [L_S x0,.fn 100 []] (.bool r):=by
 refine PCalls.of_r k_slices_ContainsFunc_string rfl ?_
 unfold F_slices_ContainsFunc_string_DiskOk_1 at hF
 refine RW.sreg (rl.run 1 rfl (rl.done (RW.sreg (rl.run 2 rfl ?_))))
 obtain ⟨v1,e1,h1⟩:=bindS hF
 refine rl.call rfl rfl rfl (CallW.val (r':=.j v1) ok_slices_IndexFunc_string (law_slices_IndexFunc_string_DiskOk_1 e1) (.cons (.lst ekS) (.cons .fn .nil)) .refl ?_)
 refine rl.run 2 rfl (rl.done (RW.ret ?_))
 cases h1
 exact RRet.mk rfl .bool (by first | decide | simp)
theorem law_impl_DiskOk {x0 : TDisk} {r : Bool} (hF : F_impl_DiskOk x0 = some r) : PCalls Try.prog 53 [.agg (enc_TDisk false x0)] (.bool r):=by
 refine PCalls.of_r k_impl_DiskOk rfl ?_
 unfold F_impl_DiskOk at hF
 refine RW.sreg (rl.run 2 rfl (rl.done (RW.seq (RW.seq ?_))))
 obtain ⟨y1,ey1,h1⟩:=bindS hF
 refine RW.cutq (σ:=Bool) (fun y1=>[(1,.ptr 0 0),(13,.bool y1)]) (fun y1=>[some ⟨[L_S x0.Sectors,L_TWrite x0.Cache],0⟩]) (fun y=>y1 = y) (fun _ _ _ _ g h=>RW.gh g h) ?_ ?_
 ·refine RW.reg ?_
  refine rl.run 3 rfl ?_
  obtain ⟨v2,e2,h2⟩:=bindS ey1
  refine rl.call rfl rfl rfl (CallW.val (r':=.bool v2) ok_impl_in (law_impl_in e2) (.cons .int (.cons .int (.cons .int .nil))) .refl ?_)
  cases hb : v2
  ·have h3:=iteBF h2 hb
   refine rl.run 7 rfl (rl.done ?_)
   cases h3
   exact ⟨_,rfl,(Gh.ren0 [0] (.cells rfl rfl (.keep (ekS.rlst) (.keep (ek_TWrite.rlst) .nil)) .nil) rfl (.cons rfl (.ptr rfl) (.cons rfl (.dat .bool) .nil)))⟩
  ·have h4:=iteBT h2 hb
   refine rl.run 5 rfl ?_
   refine rl.gen rfl rfl fun b hb=>?_
   cases b
   ·have h5:=iteBF h4 hb
    refine rl.run 1 rfl (rl.done ?_)
    cases h5
    exact ⟨_,rfl,(Gh.ren0 [0] (.cells rfl rfl (.keep (ekS.rlst) (.keep (ek_TWrite.rlst) .nil)) .nil) rfl (.cons rfl (.ptr rfl) (.cons rfl (.dat .bool) .nil)))⟩
   ·have h6:=iteBT h4 hb
    refine rl.run 1 rfl (rl.done ?_)
    cases h6
    exact ⟨_,rfl,(Gh.ren0 [0] (.cells rfl rfl (.keep (ekS.rlst) (.keep (ek_TWrite.rlst) .nil)) .nil) rfl (.cons rfl (.ptr rfl) (.cons rfl (.dat .bool) .nil)))⟩
 ·intro y hC
  subst hC
  cases hb : y1
  ·have h7:=iteBF h1 hb
   refine RW.cond_f rfl (RW.skip (RW.seq (RW.sreg (rl.run 2 rfl ?_))))
   obtain ⟨v3,e3,h8⟩:=bindS h7
   refine rl.call rfl rfl rfl (CallW.val (r':=.bool v3) ok_slices_ContainsFunc_string (law_slices_ContainsFunc_string_DiskOk_1 e3) (.cons (.lst ekS) (.cons .fn .nil)) .refl ?_)
   cases hb : v3
   ·have h9:=iteBF h8 hb
    refine rl.done (RW.cond_f rfl (RW.skip (RW.sreg (rl.run 3 rfl ?_))))
    obtain ⟨v4,e4,h10⟩:=bindS h9
    refine rl.call rfl rfl rfl (CallW.embR [0] ok_slices_ContainsFunc_Write (law_slices_ContainsFunc_Write_DiskOk_2 e4) (.cells rfl rfl (.keep (ekS.rlst) (.keep (ek_TWrite.rlst) .nil)) .nil) rfl rfl (.cons (.dat (ek_TWrite.rlst)) (.cons (RnL.fn (.cons (.ptr rfl) .nil)) .nil)) .bool ?_)
    refine rl.run 2 rfl (rl.done (RW.ret ?_))
    cases h10
    exact RRet.mk rfl .bool (by first | decide | simp)
   ·have h11:=iteBT h8 hb
    refine rl.done (RW.cond_t rfl (RW.sreg (rl.run 1 rfl (rl.done (RW.ret ?_)))))
    cases h11
    exact RRet.mk rfl .bool (by first | decide | simp)
  ·have h12:=iteBT h1 hb
   refine RW.cond_t rfl (RW.sreg (rl.run 1 rfl (rl.done (RW.ret ?_))))
   cases h12
   exact RRet.mk rfl .bool (by first | decide | simp)
theorem law_slices_Clone_string {x0 : List (List UInt8)} {r : List (List UInt8)} (hF : F_slices_Clone_string x0 = some r) : PCalls Try.prog 103 [L_S x0] (.lst true 1 (fl (encS true) r) r.length):=clone_law fkS k_slices_Clone_string rfl hF
theorem law_slices_Clone_Write {x0 : List TWrite} {r : List TWrite} (hF : F_slices_Clone_Write x0 = some r) : PCalls Try.prog 104 [L_TWrite x0] (.lst true 2 (fl (enc_TWrite true) r) r.length):=clone_law fk_TWrite k_slices_Clone_Write rfl hF
theorem law_impl_cloneDisk {x0 : TDisk} {r : TDisk} (hF : F_impl_cloneDisk x0 = some r) : PCalls Try.prog 54 [.agg (enc_TDisk false x0)] (.agg (enc_TDisk true r)):=by
 refine PCalls.of_r k_impl_cloneDisk rfl ?_
 unfold F_impl_cloneDisk at hF
 refine RW.sreg (rl.run 2 rfl (rl.done (RW.sdrw (rdraw.op rfl rfl (rdraw.op rfl rfl ?_)))))
 obtain ⟨v1,e1,h1⟩:=bindS hF
 refine rdraw.ccall rfl rfl rfl (CallW.own (r':=.sl 2 0 v1.length) (H':=[some ⟨[L_S x0.Sectors,L_TWrite x0.Cache],0⟩,some ⟨[.nils,.nils],0⟩,some ⟨fl (encS true) v1,1⟩]) ok_slices_Clone_string (law_slices_Clone_string e1) (.cons (.lst ekS) .nil) (.lst (ekS.fown _)) rfl ?_)
 refine rdraw.opA rfl rfl (.here (.rx rfl) .nil) ?_
 refine rdraw.opA rfl rfl (.here (.rx rfl) .nil) ?_
 obtain ⟨v2,e2,h2⟩:=bindS h1
 refine rdraw.ccall rfl rfl rfl (CallW.own (r':=.sl 3 0 v2.length) (H':=[some ⟨[L_S x0.Sectors,L_TWrite x0.Cache],0⟩,some ⟨[.nils,.nils],0⟩,some ⟨fl (encS true) v1,1⟩,some ⟨fl (enc_TWrite true) v2,2⟩]) ok_slices_Clone_Write (law_slices_Clone_Write e2) (.cons (.lst ek_TWrite) .nil) (.lst (ek_TWrite.fown _)) rfl ?_)
 refine rdraw.op rfl rfl ?_
 refine rdraw.chn rfl rfl ?_
 refine rdraw.done (RW.ret ?_)
 cases h2
 exact RRet.mk rfl (OutL.agg (.cons (OutR.ownq ekS rfl rfl) rfl (.cons (OutR.ownq ek_TWrite rfl rfl) rfl .nil))) (by first | decide | simp)
end Go.Proofs.Ytldndhdohlfpgaa.V
