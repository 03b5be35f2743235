/- What a call comes to. -/
import Derived.Test.YtldndhdohlfpgaaXD0
namespace Go.Proofs.Ytldndhdohlfpgaa.V
open Go Go.Proofs Go.RowKit
set_option maxRecDepth 100000
set_option maxHeartbeats 2000000 in
theorem law_impl_CrashDisk {x0 : TDisk} {x1 : List Int} {x2 : Int} {r : TDisk} (hF : F_impl_CrashDisk x0 x1 x2 = some r) : PCalls Try.prog 21 [.agg (enc_TDisk false x0),L_I x1,.j x2] (.agg (enc_TDisk true r)):=by
 refine PCalls.of_r k_impl_CrashDisk rfl ?_
 unfold F_impl_CrashDisk at hF
 refine RW.sreg (rl.run 2 rfl (rl.done (RW.sreg (rl.run 1 rfl ?_))))
 obtain ⟨v1,e1,h1⟩:=bindS hF
 refine rl.call rfl rfl rfl (CallW.own (r':=.agg [.sl 2 0 v1.Sectors.length,.sl 3 0 v1.Cache.length]) (H':=[some ⟨[L_S x0.Sectors,L_TWrite x0.Cache],0⟩,some ⟨[.nils,.nils],0⟩,some ⟨fl (encS true) v1.Sectors,1⟩,some ⟨fl (enc_TWrite true) v1.Cache,2⟩]) ok_impl_cloneDisk (law_impl_cloneDisk e1) (.cons (DFL.agg (.cons (.lst ekS) (.cons (.lst ek_TWrite) .nil))) .nil) (ek_TDisk.own _) rfl ?_)
 refine rl.run 2 rfl (rl.done (RW.seq (RW.sreg (rl.run 1 rfl ?_))))
 obtain ⟨v2,e2,h2⟩:=bindS h1
 refine rl.call rfl rfl rfl (CallW.val (r':=.bool v2) ok_impl_DiskOk (law_impl_DiskOk e2) (.cons (DFL.agg (.cons (.lst ekS) (.cons (.lst ek_TWrite) .nil))) .nil) .refl ?_)
 cases hb : v2
 ·have h3:=iteBF h2 hb
  refine rl.run 1 rfl (rl.done (RW.cond_t rfl (RW.sreg (rl.run 2 rfl (rl.done ?_)))))
  refine RW.kp [6] [(6,.ptr 1 0)] [some ⟨[L_S x0.Sectors,L_TWrite x0.Cache],0⟩,some ⟨[.sl 2 0 v1.Sectors.length,.sl 3 0 v1.Cache.length],0⟩,some ⟨fl (encS true) v1.Sectors,1⟩,some ⟨fl (enc_TWrite true) v1.Cache,2⟩,some ⟨[.sl 2 0 v1.Sectors.length,.sl 3 0 v1.Cache.length],0⟩] rfl rfl ?_
  refine RW.ret ?_
  cases h3
  exact RRet.mk rfl (OutL.agg (.cons (OutR.ownq ekS rfl rfl) rfl (.cons (OutR.ownq ek_TWrite rfl rfl) rfl .nil))) (by first | decide | simp)
 ·have h4:=iteBT h2 hb
  refine rl.run 1 rfl (rl.done (RW.cond_f rfl (RW.skip (RW.sreg (rl.run 2 rfl (rl.done (RW.seq (RW.sreg (rl.run 4 rfl (rl.done ?_))))))))))
  refine RW.gh (Gh.nil_t 8 2 rfl) ?_
  obtain ⟨y9,ey9,h6⟩:=bindS h4
  refine RW.cutq (σ:=(List TWrite)) (fun y4=>[(2,.j x2),(6,.ptr 0 0),(7,.ptr 1 0),(8,.sl 2 0 y4.length)]) (fun y4=>[some ⟨[.nils,.nils],0⟩,some ⟨[.sl 3 0 v1.Sectors.length,.sl 4 0 v1.Cache.length],0⟩,some ⟨fl (enc_TWrite true) y4,2⟩,some ⟨fl (encS true) v1.Sectors,1⟩,some ⟨fl (enc_TWrite true) v1.Cache,2⟩]) (fun y=>y9 = y) (fun _ _ _ _ g h=>RW.gh g h) ?_ ?_
  ·refine RW.blk ?_
   refine RW.iter (σ:=Int × (List TWrite)) ey9 (fun s3=>[(1,L_I x1),(2,.j x2),(6,.ptr 0 0),(7,.ptr 1 0),(8,.sl 2 0 s3.2.length),(22,L_TWrite x0.Cache),(23,.j (x0.Cache.length : Int)),(24,.j s3.1)]) (fun s3=>[some ⟨[.nils,.nils],0⟩,some ⟨[.sl 3 0 v1.Sectors.length,.sl 4 0 v1.Cache.length],0⟩,some ⟨fl (enc_TWrite true) s3.2,2⟩,some ⟨fl (encS true) v1.Sectors,1⟩,some ⟨fl (enc_TWrite true) v1.Cache,2⟩]) (Gh.ren0 [1,4,5,2,3] (.cells rfl rfl (.keep .nils (.keep .nils .nil)) (.cells rfl rfl (.slq rfl rfl (.slq rfl rfl .nil)) (.same rfl (ek_TWrite.fref _ _) (.same rfl (ekS.fref _ _) (.same rfl (ek_TWrite.fref _ _) .nil))))) rfl (.cons rfl (.dat (ekI.rlst)) (.cons rfl (.dat .int) (.cons rfl (.ptr rfl) (.cons rfl (.ptr rfl) (.cons rfl (.slq rfl rfl) (.cons rfl (.dat (ek_TWrite.rlst)) (.cons rfl (.dat .int) (.cons rfl (.dat .int) .nil))))))))) (fun s3 B o hS5 hB5 hE5=>?_)
   unfold S_impl_CrashDisk_1 at hS5
   refine RW.sreg ?_
   refine rl.gen rfl rfl fun b hb=>?_
   cases b
   ·have h7:=iteBF hS5 hb
    refine rl.done (RW.seq (RW.cond_f rfl (RW.exit (blkA_eq ?_))))
    cases h7
    exact ⟨_,(hE5 _ rfl).symm,(Gh.ren0 [0,1,2,3,4] (.cells rfl rfl (.keep .nils (.keep .nils .nil)) (.cells rfl rfl (.slq rfl rfl (.slq rfl rfl .nil)) (.same rfl (ek_TWrite.fref _ _) (.same rfl (ekS.fref _ _) (.same rfl (ek_TWrite.fref _ _) .nil))))) rfl (.cons rfl (.dat .int) (.cons rfl (.ptr rfl) (.cons rfl (.ptr rfl) (.cons rfl (.slq rfl rfl) .nil)))))⟩
   ·have h8:=iteBT hS5 hb
    refine rl.done (RW.seq (RW.cond_t rfl (RW.skip (RW.seq (RW.blk (RW.sreg (rl.run 1 rfl ?_)))))))
    obtain ⟨v5,e5,h9⟩:=bindS h8
    refine rl.op (x_ia_lst (enc:=enc_TWrite) (o:=false) rfl rfl rfl e5) ?_
    refine rl.op (x_ld_ela (off':=0) (vs:=(enc_TWrite false v5)) ek_TWrite rfl e5 rfl rfl rfl) ?_
    refine rl.run 3 rfl (rl.done (RW.seq ?_))
    obtain ⟨y6,ey6,h10⟩:=bindS h9
    refine RW.cutq (σ:=Bool) (fun y6=>[(1,L_I x1),(2,.j x2),(6,.ptr 0 0),(7,.ptr 1 0),(8,.sl 2 0 s3.2.length),(10,.ptr 3 0),(22,L_TWrite x0.Cache),(23,.j (x0.Cache.length : Int)),(24,.j s3.1),(40,.bool y6)]) (fun y6=>[some ⟨[.nils,.nils],0⟩,some ⟨[.sl 4 0 v1.Sectors.length,.sl 5 0 v1.Cache.length],0⟩,some ⟨fl (enc_TWrite true) s3.2,2⟩,some ⟨[.j v5.At,.str v5.Text],0⟩,some ⟨fl (encS true) v1.Sectors,1⟩,some ⟨fl (enc_TWrite true) v1.Cache,2⟩]) (fun y=>y6 = y) (fun _ _ _ _ g h=>RW.gh g h) ?_ ?_
    ·refine RW.reg ?_
     refine rl.run 3 rfl ?_
     refine rl.gen rfl rfl fun b hb=>?_
     cases b
     ·have h11:=iteBF ey6 hb
      refine rl.run 8 rfl (rl.done ?_)
      cases h11
      exact ⟨_,rfl,(Gh.ren0 [0,1,2,5,3,4] (.cells rfl rfl (.keep .nils (.keep .nils .nil)) (.cells rfl rfl (.slq rfl rfl (.slq rfl rfl .nil)) (.same rfl (ek_TWrite.fref _ _) (.cells rfl rfl (.keep .int (.keep .str .nil)) (.same rfl (ekS.fref _ _) (.same rfl (ek_TWrite.fref _ _) .nil)))))) rfl (.cons rfl (.dat (ekI.rlst)) (.cons rfl (.dat .int) (.cons rfl (.ptr rfl) (.cons rfl (.ptr rfl) (.cons rfl (.slq rfl rfl) (.cons rfl (.ptr rfl) (.cons rfl (.dat (ek_TWrite.rlst)) (.cons rfl (.dat .int) (.cons rfl (.dat .int) (.cons rfl (.dat .bool) .nil)))))))))))⟩
     ·have h12:=iteBT ey6 hb
      refine rl.run 3 rfl ?_
      obtain ⟨v7,e7,h13⟩:=bindS h12
      refine rl.gop rfl (x_ia_lst (enc:=encI) (o:=false) rfl rfl rfl e7) ?_
      refine rl.gop rfl (x_ld_el (off':=0) ekI rfl e7 rfl rfl rfl) ?_
      refine rl.run 1 rfl ?_
      refine rl.gen rfl rfl fun b hb=>?_
      cases b
      ·have h14:=iteBF h13 hb
       refine rl.run 1 rfl (rl.done ?_)
       cases h14
       exact ⟨_,rfl,(Gh.ren0 [0,1,2,5,3,4] (.cells rfl rfl (.keep .nils (.keep .nils .nil)) (.cells rfl rfl (.slq rfl rfl (.slq rfl rfl .nil)) (.same rfl (ek_TWrite.fref _ _) (.cells rfl rfl (.keep .int (.keep .str .nil)) (.same rfl (ekS.fref _ _) (.same rfl (ek_TWrite.fref _ _) .nil)))))) rfl (.cons rfl (.dat (ekI.rlst)) (.cons rfl (.dat .int) (.cons rfl (.ptr rfl) (.cons rfl (.ptr rfl) (.cons rfl (.slq rfl rfl) (.cons rfl (.ptr rfl) (.cons rfl (.dat (ek_TWrite.rlst)) (.cons rfl (.dat .int) (.cons rfl (.dat .int) (.cons rfl (.dat .bool) .nil)))))))))))⟩
      ·have h15:=iteBT h13 hb
       refine rl.run 1 rfl (rl.done ?_)
       cases h15
       exact ⟨_,rfl,(Gh.ren0 [0,1,2,5,3,4] (.cells rfl rfl (.keep .nils (.keep .nils .nil)) (.cells rfl rfl (.slq rfl rfl (.slq rfl rfl .nil)) (.same rfl (ek_TWrite.fref _ _) (.cells rfl rfl (.keep .int (.keep .str .nil)) (.same rfl (ekS.fref _ _) (.same rfl (ek_TWrite.fref _ _) .nil)))))) rfl (.cons rfl (.dat (ekI.rlst)) (.cons rfl (.dat .int) (.cons rfl (.ptr rfl) (.cons rfl (.ptr rfl) (.cons rfl (.slq rfl rfl) (.cons rfl (.ptr rfl) (.cons rfl (.dat (ek_TWrite.rlst)) (.cons rfl (.dat .int) (.cons rfl (.dat .int) (.cons rfl (.dat .bool) .nil)))))))))))⟩
    ·intro y hC
     subst hC
     cases hb : y6
     ·have h16:=iteBF h10 hb
      refine RW.cond_f rfl (RW.skip (RW.reg (rl.run 2 rfl (rl.done ?_))))
      cases h16
      exact hB5 _ rfl _ _ (Gh.ren0 [0,1,2,4,5] (.cells rfl rfl (.keep .nils (.keep .nils .nil)) (.cells rfl rfl (.slq rfl rfl (.slq rfl rfl .nil)) (.same rfl (ek_TWrite.fref _ _) (.same rfl (ekS.fref _ _) (.same rfl (ek_TWrite.fref _ _) .nil))))) rfl (.cons rfl (.dat (ekI.rlst)) (.cons rfl (.dat .int) (.cons rfl (.ptr rfl) (.cons rfl (.ptr rfl) (.cons rfl (.slq rfl rfl) (.cons rfl (.dat (ek_TWrite.rlst)) (.cons rfl (.dat .int) (.cons rfl (.dat .int) .nil)))))))))
     ·have h17:=iteBT h10 hb
      refine RW.cond_t rfl (RW.reg (rl.run 3 rfl ?_))
      obtain ⟨v8,e8,h18⟩:=bindS h17
      refine rl.op (x_app rfl rfl (rapp_sl (l:=s3.2) (m:=[v5]) (o:=true) ek_TWrite rfl rfl (acont_slq (m:=[v5]) (o:=true) fk_TWrite rfl rfl) rfl (fk_TWrite.fst _ _) e8)) ?_
      refine rl.run 1 rfl (rl.done (RW.reg (rl.run 2 rfl (rl.done ?_))))
      cases h18
      exact hB5 _ rfl _ _ (Gh.ren0 [0,1,7,4,5] (.cells rfl rfl (.keep .nils (.keep .nils .nil)) (.cells rfl rfl (.slq rfl rfl (.slq rfl rfl .nil)) (.same rfl (ek_TWrite.fref _ _) (.same rfl (ekS.fref _ _) (.same rfl (ek_TWrite.fref _ _) .nil))))) rfl (.cons rfl (.dat (ekI.rlst)) (.cons rfl (.dat .int) (.cons rfl (.ptr rfl) (.cons rfl (.ptr rfl) (.cons rfl (.slq rfl rfl) (.cons rfl (.dat (ek_TWrite.rlst)) (.cons rfl (.dat .int) (.cons rfl (.dat .int) .nil)))))))))
  ·intro y4 hC
   subst hC
   refine RW.seq (RW.sreg (rl.run 3 rfl (rl.done ?_)))
   obtain ⟨y25,ey25,h20⟩:=bindS h6
   refine RW.cutq (σ:=(List (List UInt8))) (fun y11=>[(6,.ptr 0 0),(7,.ptr 1 0)]) (fun y11=>[some ⟨[.nils,.nils],0⟩,some ⟨[.sl 2 0 y11.length,.sl 3 0 v1.Cache.length],0⟩,some ⟨fl (encS true) y11,1⟩,some ⟨fl (enc_TWrite true) v1.Cache,2⟩]) (fun y=>y25 = y) (fun _ _ _ _ g h=>RW.gh g h) ?_ ?_
   ·refine RW.blk ?_
    refine RW.iter (σ:=Int × (List (List UInt8))) ey25 (fun s10=>[(2,.j x2),(6,.ptr 0 0),(7,.ptr 1 0),(8,.sl 2 0 y9.length),(46,.sl 2 0 y9.length),(47,.j (y9.length : Int)),(48,.j s10.1)]) (fun s10=>[some ⟨[.nils,.nils],0⟩,some ⟨[.sl 3 0 s10.2.length,.sl 4 0 v1.Cache.length],0⟩,some ⟨fl (enc_TWrite true) y9,2⟩,some ⟨fl (encS true) s10.2,1⟩,some ⟨fl (enc_TWrite true) v1.Cache,2⟩]) (Gh.ren0 [0,1,2,3,4] (.cells rfl rfl (.keep .nils (.keep .nils .nil)) (.cells rfl rfl (.slq rfl rfl (.slq rfl rfl .nil)) (.same rfl (ek_TWrite.fref _ _) (.same rfl (ekS.fref _ _) (.same rfl (ek_TWrite.fref _ _) .nil))))) rfl (.cons rfl (.dat .int) (.cons rfl (.ptr rfl) (.cons rfl (.ptr rfl) (.cons rfl (.slq rfl rfl) (.cons rfl (.slq rfl rfl) (.cons rfl (.dat .int) (.cons rfl (.dat .int) .nil)))))))) (fun s10 B o hS19 hB19 hE19=>?_)
    unfold S_impl_CrashDisk_2 at hS19
    refine RW.sreg ?_
    refine rl.gen rfl rfl fun b hb=>?_
    cases b
    ·have h21:=iteBF hS19 hb
     refine rl.done (RW.seq (RW.cond_f rfl (RW.exit (blkA_eq ?_))))
     cases h21
     exact ⟨_,(hE19 _ rfl).symm,(Gh.ren0 [0,1,3,4] (.cells rfl rfl (.keep .nils (.keep .nils .nil)) (.cells rfl rfl (.slq rfl rfl (.slq rfl rfl .nil)) (.same rfl (ekS.fref _ _) (.same rfl (ek_TWrite.fref _ _) .nil)))) rfl (.cons rfl (.ptr rfl) (.cons rfl (.ptr rfl) .nil)))⟩
    ·have h22:=iteBT hS19 hb
     refine rl.done (RW.seq (RW.cond_t rfl (RW.skip (RW.seq (RW.blk (RW.sreg (rl.run 1 rfl ?_)))))))
     obtain ⟨v12,e12,h23⟩:=bindS h22
     refine rl.op (x_ia_sl rfl rfl rfl rfl e12) ?_
     refine rl.op (x_ld_sla (o:=true) (off':=0) (vs:=(enc_TWrite false v12)) ek_TWrite rfl rfl e12 rfl rfl rfl) ?_
     refine rl.run 3 rfl (rl.done (RW.sreg (rl.run 1 rfl (rl.done (RW.seq (RW.sreg (rl.run 4 rfl ?_)))))))
     refine rl.gen rfl rfl fun b hb=>?_
     cases b
     ·have h24:=iteBF h23 hb
      refine rl.done (RW.cond_f rfl (RW.skip (RW.drw (rdraw.op rfl rfl (rdraw.op rfl rfl (rdraw.op rfl rfl (rdraw.op rfl rfl (rdraw.op rfl rfl (rdraw.op rfl rfl (rdraw.op rfl rfl ?_))))))))))
      obtain ⟨v13,e13,h25⟩:=bindS h24
      refine rdraw.op rfl (x_sls rfl rfl rfl abnd_hi e13) ?_
      refine rdraw.op rfl rfl (rdraw.op rfl rfl (rdraw.op rfl rfl (rdraw.op rfl rfl ?_)))
      obtain ⟨v14,e14,h26⟩:=bindS h25
      refine rdraw.op rfl (x_ia_sl rfl rfl rfl rfl e14) ?_
      refine rdraw.op rfl (x_ld_sl (o:=true) (off':=0) ekS rfl rfl e14 rfl rfl rfl) ?_
      refine rdraw.op rfl rfl ?_
      obtain ⟨v15,e15,h27⟩:=bindS h26
      refine rdraw.op rfl (x_sls rfl rfl rfl abnd_lo e15) ?_
      obtain ⟨v16,e16,h28⟩:=bindS h27
      refine rdraw.op rfl (x_cat rfl rfl e16) ?_
      obtain ⟨v17,e17,h29⟩:=bindS h28
      refine rdraw.op rfl (x_ia_sl rfl rfl rfl rfl e17) ?_
      obtain ⟨v18,e18,h30⟩:=bindS h29
      refine rdraw.chn rfl (x_st_sl' (off':=0) (o:=true) (e':=v16) ekS e17 rfl rfl rfl rfl rfl rfl rfl rfl rfl e18) ?_
      refine rdraw.done (RW.reg (rl.run 2 rfl (rl.done ?_)))
      cases h30
      exact hB19 _ rfl _ _ (Gh.ren0 [0,1,2,3,4] (.cells rfl rfl (.keep .nils (.keep .nils .nil)) (.cells rfl rfl (.slq rfl (set'_len e18) (.slq rfl rfl .nil)) (.same rfl (ek_TWrite.fref _ _) (.same rfl (ekS.fref _ _) (.same rfl (ek_TWrite.fref _ _) .nil))))) rfl (.cons rfl (.dat .int) (.cons rfl (.ptr rfl) (.cons rfl (.ptr rfl) (.cons rfl (.slq rfl rfl) (.cons rfl (.slq rfl rfl) (.cons rfl (.dat .int) (.cons rfl (.dat .int) .nil))))))))
     ·have h31:=iteBT h23 hb
      refine rl.done (RW.cond_t rfl (RW.reg (rl.run 6 rfl (rl.done (RW.drw (rdraw.op rfl rfl (rdraw.op rfl rfl (rdraw.op rfl rfl (rdraw.op rfl rfl (rdraw.op rfl rfl (rdraw.op rfl rfl ?_)))))))))))
      refine rdraw.op rfl rfl ?_
      obtain ⟨v19,e19,h32⟩:=bindS h31
      refine rdraw.op rfl (x_sls rfl rfl rfl abnd_hi e19) ?_
      refine rdraw.op rfl rfl (rdraw.op rfl rfl (rdraw.op rfl rfl (rdraw.op rfl rfl ?_)))
      obtain ⟨v20,e20,h33⟩:=bindS h32
      refine rdraw.op rfl (x_ia_sl rfl rfl rfl rfl e20) ?_
      refine rdraw.op rfl (x_ld_sl (o:=true) (off':=0) ekS rfl rfl e20 rfl rfl rfl) ?_
      refine rdraw.op rfl rfl ?_
      obtain ⟨v21,e21,h34⟩:=bindS h33
      refine rdraw.op rfl (x_sls rfl rfl rfl abnd_lo e21) ?_
      obtain ⟨v22,e22,h35⟩:=bindS h34
      refine rdraw.op rfl (x_cat rfl rfl e22) ?_
      obtain ⟨v23,e23,h36⟩:=bindS h35
      refine rdraw.op rfl (x_ia_sl rfl rfl rfl rfl e23) ?_
      obtain ⟨v24,e24,h37⟩:=bindS h36
      refine rdraw.chn rfl (x_st_sl' (off':=0) (o:=true) (e':=v22) ekS e23 rfl rfl rfl rfl rfl rfl rfl rfl rfl e24) ?_
      refine rdraw.done (RW.reg (rl.run 2 rfl (rl.done ?_)))
      cases h37
      exact hB19 _ rfl _ _ (Gh.ren0 [0,1,2,3,4] (.cells rfl rfl (.keep .nils (.keep .nils .nil)) (.cells rfl rfl (.slq rfl (set'_len e24) (.slq rfl rfl .nil)) (.same rfl (ek_TWrite.fref _ _) (.same rfl (ekS.fref _ _) (.same rfl (ek_TWrite.fref _ _) .nil))))) rfl (.cons rfl (.dat .int) (.cons rfl (.ptr rfl) (.cons rfl (.ptr rfl) (.cons rfl (.slq rfl rfl) (.cons rfl (.slq rfl rfl) (.cons rfl (.dat .int) (.cons rfl (.dat .int) .nil))))))))
   ·intro y11 hC
    subst hC
    refine RW.sreg (rl.run 2 rfl (rl.done (RW.sreg (rl.run 2 rfl (rl.done (RW.ret ?_))))))
    cases h20
    exact RRet.mk rfl (OutL.agg (.cons (OutR.ownq ekS rfl rfl) rfl (.cons (OutR.nil (enc:=enc_TWrite)) rfl .nil))) (by first | decide | simp)
theorem law_spec_l03Keep_w {x0 : TL01Cur} {B0_ o0_ : Nat} {r : (List Int) × TL01Cur} (hF : F_spec_l03Keep_w x0 = some r) : ACalls Try.prog 0 73 [.ptr 0 0] [some ⟨[pvB B0_ o0_ x0.mB,.j x0.mI,.j x0.mH],0⟩] (.sl 1 0 r.1.length) [some ⟨[pvB B0_ o0_ x0.mB,.j r.2.mI,.j r.2.mH],0⟩,some ⟨fl (encI true) r.1,1⟩]:=by
 refine ACalls.of_m k_spec_l03Keep rfl ?_
 unfold F_spec_l03Keep_w at hF
 refine RW.sreg (rl.run 1 rfl (rl.done (RW.sreg (rl.run 2 rfl (rl.done (RW.seq (RW.sreg (rl.run 1 rfl (rl.done ?_)))))))))
 refine RW.gh (Gh.nil_t 3 1 rfl) ?_
 obtain ⟨y6,ey6,h2⟩:=bindS hF
 refine RW.cutq (σ:=Int × Int × (List Int)) (fun y2=>[(3,.sl 1 0 y2.2.2.length)]) (fun y2=>[some ⟨[pvB B0_ o0_ x0.mB,.j y2.1,.j y2.2.1],0⟩,some ⟨fl (encI true) y2.2.2,1⟩]) (fun y=>y6 = y) (fun _ _ _ _ g h=>RW.gh g h) ?_ ?_
 ·refine RW.blk ?_
  refine RW.iter (σ:=Int × Int × Int × (List Int)) ey6 (fun s1=>[(0,.ptr 0 0),(3,.sl 1 0 s1.2.2.2.length),(4,.j s1.1)]) (fun s1=>[some ⟨[pvB B0_ o0_ x0.mB,.j s1.2.1,.j s1.2.2.1],0⟩,some ⟨fl (encI true) s1.2.2.2,1⟩]) (Gh.renN [0,1] (.cells rfl rfl (.keep (.pv ekB.rlst) (.keep .int (.keep .int .nil))) (.same rfl (ekI.fref _ _) .nil)) rfl rfl rfl (.cons rfl (.ptr rfl) (.cons rfl (.slq rfl rfl) (.cons rfl (.dat .int) .nil)))) (fun s1 B o hS1 hB1 hE1=>?_)
  unfold S_spec_l03Keep_w_1 at hS1
  refine RW.seq (RW.sreg (rl.run 2 rfl ?_))
  obtain ⟨v3,e3,h3⟩:=bindS hS1
  refine rl.call rfl rfl rfl (CallW.embN (r0:=.j v3.1) (H':=[some ⟨[pvB B0_ o0_ x0.mB,.j v3.2.mI,.j v3.2.mH],0⟩,some ⟨fl (encI true) s1.2.2.2,1⟩]) [⟨[pvB B0_ o0_ x0.mB,.j s1.2.1,.j s1.2.2.1],0⟩] [⟨[pvB B0_ o0_ x0.mB,.j v3.2.mI,.j v3.2.mH],0⟩] [] [0] [pvB B0_ o0_ x0.mB] ok_spec_l01Below (law_spec_l01Below_w e3) (.cons rfl (fac (.pv ekB.rlst) (fac .int (fac .int fan))) (fac (.inr (.head _)) (fac (.inl .int) (fac (.inl .int) fan))) .nil) .nil (.blk 0 0 0 0 0 rfl rfl rfl rfl scalB .nil) rfl (.cons (.ptr rfl) (.cons (.dat .int) .nil)) .int rfl ?_)
  refine rl.gen rfl rfl fun b hb=>?_
  cases b
  ·have h4:=iteBF h3 hb
   refine rl.done (RW.cond_f rfl (RW.exit (blkA_eq ?_)))
   cases h4
   exact ⟨_,(hE1 _ rfl).symm,(Gh.renN [0,1] (.cells rfl rfl (.keep (.pv ekB.rlst) (.keep .int (.keep .int .nil))) (.same rfl (ekI.fref _ _) .nil)) rfl rfl rfl (.cons rfl (.slq rfl rfl) .nil))⟩
  ·have h5:=iteBT h3 hb
   refine rl.done (RW.cond_t rfl (RW.skip (RW.seq (RW.blk (RW.reg (rl.run 2 rfl ?_))))))
   obtain ⟨v4,e4,h6⟩:=bindS h5
   refine rl.call rfl rfl rfl (CallW.embN (r0:=.j v4.1) (H':=[some ⟨[pvB B0_ o0_ x0.mB,.j v4.2.mI,.j v4.2.mH],0⟩,some ⟨fl (encI true) s1.2.2.2,1⟩]) [⟨[pvB B0_ o0_ x0.mB,.j v3.2.mI,.j v3.2.mH],0⟩] [⟨[pvB B0_ o0_ x0.mB,.j v4.2.mI,.j v4.2.mH],0⟩] [] [0] [pvB B0_ o0_ x0.mB] ok_spec_l01Below (law_spec_l01Below_w e4) (.cons rfl (fac (.pv ekB.rlst) (fac .int (fac .int fan))) (fac (.inr (.head _)) (fac (.inl .int) (fac (.inl .int) fan))) .nil) .nil (.blk 0 0 0 0 0 rfl rfl rfl rfl scalB .nil) rfl (.cons (.ptr rfl) (.cons (.dat .int) .nil)) .int rfl ?_)
   refine rl.run 2 rfl ?_
   obtain ⟨v5,e5,h7⟩:=bindS h6
   refine rl.op (x_app rfl rfl (rapp_sl (l:=s1.2.2.2) (m:=[w64 (v4.1 - 1)]) (o:=true) ekI rfl rfl (acont_slq (m:=[w64 (v4.1 - 1)]) (o:=true) fkI rfl rfl) rfl (fkI.fst _ _) e5)) ?_
   refine rl.run 1 rfl (rl.done (RW.reg (rl.run 3 rfl (rl.done ?_))))
   cases h7
   exact hB1 _ rfl _ _ (Gh.renN [0,3] (.cells rfl rfl (.keep (.pv ekB.rlst) (.keep .int (.keep .int .nil))) (.same rfl (ekI.fref _ _) .nil)) rfl rfl rfl (.cons rfl (.ptr rfl) (.cons rfl (.slq rfl rfl) (.cons rfl (.dat .int) .nil))))
 ·intro y2 hC
  subst hC
  refine RW.sreg (rl.run 2 rfl (rl.done (RW.ret ?_)))
  cases h2
  exact RRetM.mk [0,1] Gh.refl rfl (.cells rfl rfl (.keep (.pv ekB.rlst) (.keep .int (.keep .int .nil))) (.same rfl (ekI.fref _ _) .nil)) rfl rfl rfl (.slq rfl rfl)
theorem law_spec_DrawKeep {x0 : List Int} {r : List Int} (hF : F_spec_DrawKeep x0 = some r) : PCalls Try.prog 22 [L_B x0] (.lst true 1 (fl (encI true) r) r.length):=by
 refine PCalls.of_r k_spec_DrawKeep rfl ?_
 unfold F_spec_DrawKeep at hF
 refine RW.sreg (rl.run 1 rfl (rl.done ?_))
 refine RW.pin 0 rfl fun B1 o1=>?_
 refine RW.sreg (rl.run 1 rfl ?_)
 obtain ⟨v2,e2,h1⟩:=bindS hF
 refine rl.call rfl rfl rfl (CallW.embN (r0:=.ptr 0 0) (H':=[some ⟨[pvB B1 o1 x0,.j v2.mI,.j v2.mH],0⟩]) [] [] [⟨[pvB B1 o1 x0,.j v2.mI,.j v2.mH],0⟩] [] [pvB B1 o1 x0] ok_spec_l01New (law_spec_l01New_w e2) .nil (.cons (fac (.inr (.head _)) (fac (.inl .int) (fac (.inl .int) fan))) .nil) (.arg 0 rfl scalB .nil) rfl (.cons (.dat (.pv ekB.rlst)) .nil) (.ptr rfl) rfl ?_)
 obtain ⟨v3,e3,h2⟩:=bindS h1
 refine rl.call rfl rfl rfl (CallW.embN (r0:=.sl 1 0 v3.1.length) (H':=[some ⟨[pvB B1 o1 x0,.j v3.2.mI,.j v3.2.mH],0⟩,some ⟨fl (encI true) v3.1,1⟩]) [⟨[pvB B1 o1 x0,.j v2.mI,.j v2.mH],0⟩] [⟨[pvB B1 o1 x0,.j v3.2.mI,.j v3.2.mH],0⟩] [⟨fl (encI true) v3.1,1⟩] [0] [pvB B1 o1 x0] ok_spec_l03Keep (law_spec_l03Keep_w e3) (.cons rfl (fac (.pv ekB.rlst) (fac .int (fac .int fan))) (fac (.inr (.head _)) (fac (.inl .int) (fac (.inl .int) fan))) .nil) (.own (ekI.fown _) .nil) (.blk 0 0 0 0 0 rfl rfl rfl rfl scalB .nil) rfl (.cons (.ptr rfl) .nil) (.sl rfl) rfl ?_)
 refine rl.run 1 rfl (rl.done (RW.ret ?_))
 cases h2
 exact RRet.mk rfl (OutR.ownq ekI rfl rfl) (by first | decide | simp)
set_option maxHeartbeats 2000000 in
theorem law_spec_SectorText {x0 : TDisk} {x1 : Int} {x2 : Int} {r : (List UInt8) × Bool} (hF : F_spec_SectorText x0 x1 x2 = some r) : PCalls Try.prog 24 [.agg (enc_TDisk false x0),.j x1,.j x2] (.tup [.str r.1,.bool r.2]):=by
 refine PCalls.of_r k_spec_SectorText rfl ?_
 unfold F_spec_SectorText at hF
 refine RW.sreg (rl.run 3 rfl (rl.done (RW.seq (RW.sreg (rl.run 1 rfl ?_)))))
 obtain ⟨v1,e1,h1⟩:=bindS hF
 refine rl.call rfl rfl rfl (CallW.val (r':=.bool v1) ok_spec_l01In (law_spec_l01In e1) (.cons .int (.cons .int (.cons .int .nil))) .refl ?_)
 cases hb : v1
 ·have h2:=iteBF h1 hb
  refine rl.run 1 rfl (rl.done (RW.cond_t rfl (RW.sreg (rl.run 2 rfl (rl.done (RW.ret ?_))))))
  cases h2
  exact RRet.mk rfl (OutT.tup (.cons .str (.cons .bool .nil))) (by first | decide | simp)
 ·have h3:=iteBT h1 hb
  refine rl.run 1 rfl (rl.done (RW.cond_f rfl (RW.skip (RW.sreg (rl.run 1 rfl (rl.done (RW.seq (RW.sreg (rl.run 1 rfl (rl.done ?_))))))))))
  obtain ⟨y7,ey7,h5⟩:=bindS h3
  refine RW.cutq (σ:=(List UInt8)) (fun y3=>[(8,.str y3)]) (fun y3=>[]) (fun y=>y7 = .inr y) (fun _ _ _ _ g h=>RW.gh g h) ?_ ?_
  ·refine RW.blk ?_
   refine RW.iter (σ:=(List UInt8) × Int) ey7 (fun s2=>[(1,.j x1),(2,.j x2),(3,.ptr 0 0),(8,.str s2.1),(9,.j s2.2)]) (fun s2=>[some ⟨[L_S x0.Sectors,L_TWrite x0.Cache],0⟩]) (Gh.ren0 [0] (.cells rfl rfl (.keep (ekS.rlst) (.keep (ek_TWrite.rlst) .nil)) .nil) rfl (.cons rfl (.dat .int) (.cons rfl (.dat .int) (.cons rfl (.ptr rfl) (.cons rfl (.dat .str) (.cons rfl (.dat .int) .nil)))))) (fun s2 B o hS4 hB4 hE4=>?_)
   unfold S_spec_SectorText_1 at hS4
   refine RW.seq (RW.sreg (rl.run 2 rfl ?_))
   refine rl.gen rfl rfl fun b hb=>?_
   cases b
   ·have h6:=iteBF hS4 hb
    refine rl.done (RW.cond_f rfl (RW.exit (blkA_eq ?_)))
    cases h6
    exact ⟨_,(hE4 _ rfl).symm,(Gh.ren0 [] .nil rfl (.cons rfl (.dat .str) .nil))⟩
   ·have h7:=iteBT hS4 hb
    refine rl.done (RW.cond_t rfl (RW.skip (RW.seq (RW.blk (RW.seq (RW.seq ?_))))))
    obtain ⟨y4,ey4,h8⟩:=bindS h7
    refine RW.cutq (σ:=Bool) (fun y4=>[(1,.j x1),(2,.j x2),(3,.ptr 0 0),(8,.str s2.1),(9,.j s2.2),(28,.bool y4)]) (fun y4=>[some ⟨[L_S x0.Sectors,L_TWrite x0.Cache],0⟩]) (fun y=>y4 = y) (fun _ _ _ _ g h=>RW.gh g h) ?_ ?_
    ·refine RW.reg ?_
     refine rl.run 1 rfl ?_
     refine rl.gen rfl rfl fun b hb=>?_
     cases b
     ·have h9:=iteBF ey4 hb
      refine rl.run 5 rfl ?_
      refine rl.gen rfl rfl fun b hb=>?_
      cases b
      ·have h10:=iteBF h9 hb
       refine rl.run 1 rfl (rl.done ?_)
       cases h10
       exact ⟨_,rfl,(Gh.ren0 [0] (.cells rfl rfl (.keep (ekS.rlst) (.keep (ek_TWrite.rlst) .nil)) .nil) rfl (.cons rfl (.dat .int) (.cons rfl (.dat .int) (.cons rfl (.ptr rfl) (.cons rfl (.dat .str) (.cons rfl (.dat .int) (.cons rfl (.dat .bool) .nil)))))))⟩
      ·have h11:=iteBT h9 hb
       refine rl.run 1 rfl (rl.done ?_)
       cases h11
       exact ⟨_,rfl,(Gh.ren0 [0] (.cells rfl rfl (.keep (ekS.rlst) (.keep (ek_TWrite.rlst) .nil)) .nil) rfl (.cons rfl (.dat .int) (.cons rfl (.dat .int) (.cons rfl (.ptr rfl) (.cons rfl (.dat .str) (.cons rfl (.dat .int) (.cons rfl (.dat .bool) .nil)))))))⟩
     ·have h12:=iteBT ey4 hb
      refine rl.run 7 rfl (rl.done ?_)
      cases h12
      exact ⟨_,rfl,(Gh.ren0 [0] (.cells rfl rfl (.keep (ekS.rlst) (.keep (ek_TWrite.rlst) .nil)) .nil) rfl (.cons rfl (.dat .int) (.cons rfl (.dat .int) (.cons rfl (.ptr rfl) (.cons rfl (.dat .str) (.cons rfl (.dat .int) (.cons rfl (.dat .bool) .nil)))))))⟩
    ·intro y hC
     subst hC
     cases hb : y4
     ·have h13:=iteBF h8 hb
      refine RW.cond_f rfl (RW.skip (RW.sreg (rl.run 4 rfl ?_)))
      obtain ⟨v5,e5,h14⟩:=bindS h13
      refine rl.call rfl rfl rfl (CallW.val (r':=.tup [.str v5.1,.bool v5.2]) ok_spec_ReadSector (law_spec_ReadSector e5) (.cons (DFL.agg (.cons (.lst ekS) (.cons (.lst ek_TWrite) .nil))) (.cons .int .nil)) (FlL.tup (.cons .refl (.cons .refl .nil))) ?_)
      refine rl.run 5 rfl (rl.done (RW.seq (RW.sreg (rl.run 2 rfl (rl.done ?_)))))
      refine RW.kp [1,2,3,8,9,10,38] [(1,.j x1),(2,.j x2),(3,.ptr 0 0),(8,.str s2.1),(9,.j s2.2),(10,.str v5.1),(38,.bool (!v5.2))] [some ⟨[L_S x0.Sectors,L_TWrite x0.Cache],0⟩] rfl rfl ?_
      cases hb : (!v5.2)
      ·have h15:=iteBF h14 hb
       refine RW.cond_f rfl (RW.skip (RW.reg (rl.run 2 rfl ?_)))
       obtain ⟨v6,e6,h16⟩:=bindS h15
       refine rl.op (x_cat rfl rfl e6) ?_
       refine rl.run 1 rfl (rl.done (RW.reg (rl.run 3 rfl (rl.done ?_))))
       cases h16
       exact hB4 _ rfl _ _ (Gh.ren0 [0] (.cells rfl rfl (.keep (ekS.rlst) (.keep (ek_TWrite.rlst) .nil)) .nil) rfl (.cons rfl (.dat .int) (.cons rfl (.dat .int) (.cons rfl (.ptr rfl) (.cons rfl (.dat .str) (.cons rfl (.dat .int) .nil))))))
      ·have h17:=iteBT h14 hb
       refine RW.cond_t rfl (RW.sreg (rl.run 2 rfl (rl.done (RW.ret ?_))))
       cases h17
       have h18:=elimL h5 (hE4 _ rfl)
       cases h18
       exact RRet.mk rfl (OutT.tup (.cons .str (.cons .bool .nil))) (by first | decide | simp)
     ·have h19:=iteBT h8 hb
      refine RW.cond_t rfl (RW.sreg (rl.run 2 rfl (rl.done (RW.ret ?_))))
      cases h19
      have h20:=elimL h5 (hE4 _ rfl)
      cases h20
      exact RRet.mk rfl (OutT.tup (.cons .str (.cons .bool .nil))) (by first | decide | simp)
  ·intro y3 hC
   have h5:=elimR h5 hC
   refine RW.sreg (rl.run 3 rfl (rl.done (RW.ret ?_)))
   cases h5
   exact RRet.mk rfl (OutT.tup (.cons .str (.cons .bool .nil))) (by first | decide | simp)
set_option maxHeartbeats 2000000 in
theorem law_spec_ReadVar {x0 : List UInt8} {x1 : Int} {r : Int × Int × Bool} (hF : F_spec_ReadVar x0 x1 = some r) : PCalls Try.prog 110 [.str x0,.j x1] (.tup [.j r.1,.j r.2.1,.bool r.2.2]):=by
 refine PCalls.of_r k_spec_ReadVar rfl ?_
 unfold F_spec_ReadVar at hF
 refine RW.sreg (rl.run 3 rfl (rl.done (RW.seq (RW.sreg (rl.run 3 rfl ?_)))))
 obtain ⟨v1,e1,h1⟩:=bindS hF
 refine rl.call rfl rfl rfl (CallW.val (r':=.bool v1) ok_spec_l01In (law_spec_l01In e1) (.cons .int (.cons .int (.cons .int .nil))) .refl ?_)
 cases hb : v1
 ·have h2:=iteBF h1 hb
  refine rl.run 1 rfl (rl.done (RW.cond_t rfl (RW.sreg (rl.run 3 rfl (rl.done (RW.ret ?_))))))
  cases h2
  exact RRet.mk rfl (OutT.tup (.cons .int (.cons .int (.cons .bool .nil)))) (by first | decide | simp)
 ·have h3:=iteBT h1 hb
  refine rl.run 1 rfl (rl.done (RW.cond_f rfl (RW.skip (RW.sreg (rl.run 1 rfl (rl.done (RW.sreg (rl.run 1 rfl (rl.done (RW.seq (RW.sreg ?_)))))))))))
  refine rl.run 2 rfl (rl.done ?_)
  obtain ⟨y10,ey10,h5⟩:=bindS h3
  refine RW.cutq (σ:=Unit) (fun y3=>[]) (fun y3=>[]) (fun y=>y10 = .inr y) (fun _ _ _ _ g h=>RW.gh g h) ?_ ?_
  ·refine RW.blk ?_
   refine RW.iter (σ:=Int × Int × Int) ey10 (fun s2=>[(0,.str x0),(1,.j x1),(7,.j s2.1),(8,.j s2.2.1),(9,.j s2.2.2)]) (fun s2=>[]) (Gh.ren0 [] .nil rfl (.cons rfl (.dat .str) (.cons rfl (.dat .int) (.cons rfl (.dat .int) (.cons rfl (.dat .int) (.cons rfl (.dat .int) .nil)))))) (fun s2 B o hS4 hB4 hE4=>?_)
   unfold S_spec_ReadVar_1 at hS4
   refine RW.seq (RW.seq ?_)
   obtain ⟨y4,ey4,h6⟩:=bindS hS4
   refine RW.cutq (σ:=Bool) (fun y4=>[(0,.str x0),(1,.j x1),(7,.j s2.1),(8,.j s2.2.1),(9,.j s2.2.2),(25,.bool y4)]) (fun y4=>[]) (fun y=>y4 = y) (fun _ _ _ _ g h=>RW.gh g h) ?_ ?_
   ·refine RW.reg ?_
    refine rl.run 3 rfl ?_
    refine rl.gen rfl rfl fun b hb=>?_
    cases b
    ·have h7:=iteBF ey4 hb
     refine rl.run 6 rfl (rl.done ?_)
     cases h7
     exact ⟨_,rfl,(Gh.ren0 [] .nil rfl (.cons rfl (.dat .str) (.cons rfl (.dat .int) (.cons rfl (.dat .int) (.cons rfl (.dat .int) (.cons rfl (.dat .int) (.cons rfl (.dat .bool) .nil)))))))⟩
    ·have h8:=iteBT ey4 hb
     refine rl.run 4 rfl ?_
     refine rl.gen rfl rfl fun b hb=>?_
     cases b
     ·have h9:=iteBF h8 hb
      refine rl.run 1 rfl (rl.done ?_)
      cases h9
      exact ⟨_,rfl,(Gh.ren0 [] .nil rfl (.cons rfl (.dat .str) (.cons rfl (.dat .int) (.cons rfl (.dat .int) (.cons rfl (.dat .int) (.cons rfl (.dat .int) (.cons rfl (.dat .bool) .nil)))))))⟩
     ·have h10:=iteBT h8 hb
      refine rl.run 1 rfl (rl.done ?_)
      cases h10
      exact ⟨_,rfl,(Gh.ren0 [] .nil rfl (.cons rfl (.dat .str) (.cons rfl (.dat .int) (.cons rfl (.dat .int) (.cons rfl (.dat .int) (.cons rfl (.dat .int) (.cons rfl (.dat .bool) .nil)))))))⟩
   ·intro y hC
    subst hC
    cases hb : y4
    ·have h11:=iteBF h6 hb
     refine RW.cond_f rfl (RW.exit (blkA_eq ?_))
     cases h11
     exact ⟨_,(hE4 _ rfl).symm,(Gh.ren0 [] .nil rfl .nil)⟩
    ·have h12:=iteBT h6 hb
     refine RW.cond_t rfl (RW.skip (RW.seq (RW.blk (RW.sreg (rl.run 3 rfl ?_)))))
     obtain ⟨v5,e5,h13⟩:=bindS h12
     refine rl.op (x_idx rfl rfl e5) ?_
     refine rl.run 6 rfl (rl.done (RW.sreg (rl.run 3 rfl (rl.done ?_))))
     refine RW.kp [0,1,7,8,9] [(0,.str x0),(1,.j x1),(7,.j (w64 (s2.1 + (w64 ((Int.tmod (w64 (v5.toNat : Int)) 128) * s2.2.1))))),(8,.j (w64 (s2.2.1 * 128))),(9,.j s2.2.2)] [] rfl rfl ?_
     refine RW.sreg (rl.run 2 rfl ?_)
     obtain ⟨v6,e6,h14⟩:=bindS h13
     refine rl.op (x_idx rfl rfl e6) ?_
     refine rl.gen rfl rfl fun b hb=>?_
     cases b
     ·have h15:=iteBF h14 hb
      refine rl.done (RW.cond_f rfl (RW.skip (RW.reg (rl.run 3 rfl (rl.done ?_)))))
      cases h15
      exact hB4 _ rfl _ _ (Gh.ren0 [] .nil rfl (.cons rfl (.dat .str) (.cons rfl (.dat .int) (.cons rfl (.dat .int) (.cons rfl (.dat .int) (.cons rfl (.dat .int) .nil))))))
     ·have h16:=iteBT h14 hb
      refine rl.done (RW.cond_t rfl (RW.seq (RW.seq ?_)))
      obtain ⟨y7,ey7,h17⟩:=bindS h16
      refine RW.cutq (σ:=Bool) (fun y7=>[(7,.j (w64 (s2.1 + (w64 ((Int.tmod (w64 (v5.toNat : Int)) 128) * s2.2.1))))),(9,.j s2.2.2),(54,.bool y7)]) (fun y7=>[]) (fun y=>y7 = y) (fun _ _ _ _ g h=>RW.gh g h) ?_ ?_
      ·refine RW.drw ?_
       refine rdraw.op rfl rfl ?_
       refine rdraw.gen rfl rfl fun b hb=>?_
       cases b
       ·have h18:=iteBF ey7 hb
        refine rdraw.op rfl rfl (rdraw.op rfl rfl ?_)
        obtain ⟨v8,e8,h19⟩:=bindS h18
        refine rdraw.call rfl rfl rfl (CallW.val (r':=.str v8) ok_spec_l01Var (law_spec_l01Var e8) (.cons .int .nil) .refl ⟨rfl,?_⟩)
        refine rdraw.op rfl rfl (rdraw.op rfl rfl (rdraw.op rfl rfl (rdraw.op rfl rfl ?_)))
        obtain ⟨v9,e9,h20⟩:=bindS h19
        refine rdraw.op rfl (x_sls rfl rfl rfl abnd_both e9) ?_
        refine rdraw.gen rfl rfl fun b hb=>?_
        cases b
        ·have h21:=iteBF h20 hb
         refine rdraw.op rfl rfl (rdraw.done ?_)
         cases h21
         exact ⟨_,rfl,(Gh.ren0 [] .nil rfl (.cons rfl (.dat .int) (.cons rfl (.dat .int) (.cons rfl (.dat .bool) .nil))))⟩
        ·have h22:=iteBT h20 hb
         refine rdraw.op rfl rfl (rdraw.done ?_)
         cases h22
         exact ⟨_,rfl,(Gh.ren0 [] .nil rfl (.cons rfl (.dat .int) (.cons rfl (.dat .int) (.cons rfl (.dat .bool) .nil))))⟩
       ·have h23:=iteBT ey7 hb
        refine rdraw.op rfl rfl (rdraw.off rfl (rdraw.off rfl (rdraw.off rfl (rdraw.off rfl (rdraw.off rfl (rdraw.off rfl (rdraw.off rfl (rdraw.off rfl (rdraw.op rfl rfl (rdraw.done ?_))))))))))
        cases h23
        exact ⟨_,rfl,(Gh.ren0 [] .nil rfl (.cons rfl (.dat .int) (.cons rfl (.dat .int) (.cons rfl (.dat .bool) .nil))))⟩
      ·intro y hC
       subst hC
       cases hb : y7
       ·have h24:=iteBF h17 hb
        refine RW.cond_f rfl (RW.skip (RW.sreg (rl.run 6 rfl (rl.done (RW.ret ?_)))))
        cases h24
        have h25:=elimL h5 (hE4 _ rfl)
        cases h25
        exact RRet.mk rfl (OutT.tup (.cons .int (.cons .int (.cons .bool .nil)))) (by first | decide | simp)
       ·have h26:=iteBT h17 hb
        refine RW.cond_t rfl (RW.sreg (rl.run 3 rfl (rl.done (RW.ret ?_))))
        cases h26
        have h27:=elimL h5 (hE4 _ rfl)
        cases h27
        exact RRet.mk rfl (OutT.tup (.cons .int (.cons .int (.cons .bool .nil)))) (by first | decide | simp)
  ·intro y3 hC
   have h5:=elimR h5 hC
   refine RW.sreg (rl.run 3 rfl (rl.done (RW.ret ?_)))
   cases h5
   exact RRet.mk rfl (OutT.tup (.cons .int (.cons .int (.cons .bool .nil)))) (by first | decide | simp)
theorem law_spec_ReadShort {x0 : List UInt8} {x1 : Int} {r : (List UInt8) × Int × Bool} (hF : F_spec_ReadShort x0 x1 = some r) : PCalls Try.prog 74 [.str x0,.j x1] (.tup [.str r.1,.j r.2.1,.bool r.2.2]):=by
 refine PCalls.of_r k_spec_ReadShort rfl ?_
 unfold F_spec_ReadShort at hF
 refine RW.sreg (rl.run 3 rfl (rl.done (RW.sreg (rl.run 2 rfl ?_))))
 obtain ⟨v1,e1,h1⟩:=bindS hF
 refine rl.call rfl rfl rfl (CallW.val (r':=.tup [.j v1.1,.j v1.2.1,.bool v1.2.2]) ok_spec_ReadVar (law_spec_ReadVar e1) (.cons .str (.cons .int .nil)) (FlL.tup (.cons .refl (.cons .refl (.cons .refl .nil)))) ?_)
 refine rl.run 7 rfl (rl.done ?_)
 refine RW.kp [0,7,8,9] [(0,.str x0),(7,.j v1.1),(8,.j v1.2.1),(9,.bool v1.2.2)] [] rfl rfl ?_
 refine RW.seq (RW.seq ?_)
 obtain ⟨y2,ey2,h2⟩:=bindS h1
 refine RW.cutq (σ:=Bool) (fun y2=>[(0,.str x0),(7,.j v1.1),(8,.j v1.2.1),(30,.bool y2)]) (fun y2=>[]) (fun y=>y2 = y) (fun _ _ _ _ g h=>RW.gh g h) ?_ ?_
 ·refine RW.reg ?_
  refine rl.run 3 rfl ?_
  cases hb : (!v1.2.2)
  ·have h3:=iteBF ey2 hb
   refine rl.run 1 rfl ?_
   refine rl.gen rfl rfl fun b hb=>?_
   cases b
   ·have h4:=iteBF h3 hb
    refine rl.run 7 rfl ?_
    refine rl.gen rfl rfl fun b hb=>?_
    cases b
    ·have h5:=iteBF h4 hb
     refine rl.run 1 rfl (rl.done ?_)
     cases h5
     exact ⟨_,rfl,(Gh.ren0 [] .nil rfl (.cons rfl (.dat .str) (.cons rfl (.dat .int) (.cons rfl (.dat .int) (.cons rfl (.dat .bool) .nil)))))⟩
    ·have h6:=iteBT h4 hb
     refine rl.run 1 rfl (rl.done ?_)
     cases h6
     exact ⟨_,rfl,(Gh.ren0 [] .nil rfl (.cons rfl (.dat .str) (.cons rfl (.dat .int) (.cons rfl (.dat .int) (.cons rfl (.dat .bool) .nil)))))⟩
   ·have h7:=iteBT h3 hb
    refine rl.run 9 rfl (rl.done ?_)
    cases h7
    exact ⟨_,rfl,(Gh.ren0 [] .nil rfl (.cons rfl (.dat .str) (.cons rfl (.dat .int) (.cons rfl (.dat .int) (.cons rfl (.dat .bool) .nil)))))⟩
  ·have h8:=iteBT ey2 hb
   refine rl.run 11 rfl (rl.done ?_)
   cases h8
   exact ⟨_,rfl,(Gh.ren0 [] .nil rfl (.cons rfl (.dat .str) (.cons rfl (.dat .int) (.cons rfl (.dat .int) (.cons rfl (.dat .bool) .nil)))))⟩
 ·intro y hC
  subst hC
  cases hb : y2
  ·have h9:=iteBF h2 hb
   refine RW.cond_f rfl (RW.skip (RW.sreg (rl.run 5 rfl ?_)))
   obtain ⟨v3,e3,h10⟩:=bindS h9
   refine rl.op (x_sls rfl rfl rfl abnd_both e3) ?_
   refine rl.run 6 rfl (rl.done ?_)
   refine RW.kp [4,5,6] [(4,.str v3),(5,.j (w64 (v1.2.1 + v1.1))),(6,.bool true)] [] rfl rfl ?_
   refine RW.ret ?_
   cases h10
   exact RRet.mk rfl (OutT.tup (.cons .str (.cons .int (.cons .bool .nil)))) (by first | decide | simp)
  ·have h11:=iteBT h2 hb
   refine RW.cond_t rfl (RW.sreg (rl.run 3 rfl (rl.done (RW.ret ?_))))
   cases h11
   exact RRet.mk rfl (OutT.tup (.cons .str (.cons .int (.cons .bool .nil)))) (by first | decide | simp)
theorem law_spec_Unsealed {x0 : List UInt8} {r : (List UInt8) × Bool} (hF : F_spec_Unsealed x0 = some r) : PCalls Try.prog 75 [.str x0] (.tup [.str r.1,.bool r.2]):=by
 refine PCalls.of_r k_spec_Unsealed rfl ?_
 unfold F_spec_Unsealed at hF
 refine RW.sreg (rl.run 2 rfl (rl.done (RW.sreg (rl.run 4 rfl (rl.done (RW.seq (RW.seq ?_)))))))
 obtain ⟨y1,ey1,h1⟩:=bindS hF
 refine RW.cutq (σ:=Bool) (fun y1=>[(0,.str x0),(4,.j (w64 ((x0.length : Int) - 4))),(24,.bool y1)]) (fun y1=>[]) (fun y=>y1 = y) (fun _ _ _ _ g h=>RW.gh g h) ?_ ?_
 ·refine RW.drw ?_
  refine rdraw.op rfl rfl ?_
  refine rdraw.gen rfl rfl fun b hb=>?_
  cases b
  ·have h2:=iteBF ey1 hb
   refine rdraw.op rfl rfl (rdraw.op rfl rfl ?_)
   refine rdraw.gen rfl rfl fun b hb=>?_
   cases b
   ·have h3:=iteBF h2 hb
    refine rdraw.op rfl rfl (rdraw.op rfl rfl (rdraw.op rfl rfl (rdraw.op rfl rfl ?_)))
    obtain ⟨v2,e2,h4⟩:=bindS h3
    refine rdraw.op rfl (x_sls rfl rfl rfl abnd_lo e2) ?_
    refine rdraw.op rfl rfl (rdraw.op rfl rfl ?_)
    obtain ⟨v3,e3,h5⟩:=bindS h4
    refine rdraw.op rfl (x_sls rfl rfl rfl abnd_hi e3) ?_
    obtain ⟨v4,e4,h6⟩:=bindS h5
    refine rdraw.call rfl rfl rfl (CallW.val (r':=.int .u32 v4) ok_spec_SumOf (law_spec_SumOf e4) (.cons .str .nil) .refl ⟨rfl,?_⟩)
    obtain ⟨v5,e5,h7⟩:=bindS h6
    refine rdraw.call rfl rfl rfl (CallW.val (r':=.str v5) ok_spec_l02Four (law_spec_l02Four e5) (.cons .int .nil) .refl ⟨rfl,?_⟩)
    refine rdraw.gen rfl rfl fun b hb=>?_
    cases b
    ·have h8:=iteBF h7 hb
     refine rdraw.op rfl rfl (rdraw.done ?_)
     cases h8
     exact ⟨_,rfl,(Gh.ren0 [] .nil rfl (.cons rfl (.dat .str) (.cons rfl (.dat .int) (.cons rfl (.dat .bool) .nil))))⟩
    ·have h9:=iteBT h7 hb
     refine rdraw.op rfl rfl (rdraw.done ?_)
     cases h9
     exact ⟨_,rfl,(Gh.ren0 [] .nil rfl (.cons rfl (.dat .str) (.cons rfl (.dat .int) (.cons rfl (.dat .bool) .nil))))⟩
   ·have h10:=iteBT h2 hb
    refine rdraw.op rfl rfl (rdraw.op rfl rfl (rdraw.off rfl (rdraw.off rfl (rdraw.off rfl (rdraw.off rfl (rdraw.off rfl (rdraw.off rfl (rdraw.off rfl (rdraw.off rfl (rdraw.off rfl (rdraw.op rfl rfl ?_)))))))))))
    refine rdraw.done ?_
    cases h10
    exact ⟨_,rfl,(Gh.ren0 [] .nil rfl (.cons rfl (.dat .str) (.cons rfl (.dat .int) (.cons rfl (.dat .bool) .nil))))⟩
  ·have h11:=iteBT ey1 hb
   refine rdraw.op rfl rfl (rdraw.off rfl (rdraw.off rfl (rdraw.op rfl rfl (rdraw.op rfl rfl (rdraw.off rfl (rdraw.off rfl (rdraw.off rfl (rdraw.off rfl (rdraw.off rfl (rdraw.off rfl (rdraw.off rfl ?_)))))))))))
   refine rdraw.off rfl (rdraw.off rfl (rdraw.op rfl rfl (rdraw.done ?_)))
   cases h11
   exact ⟨_,rfl,(Gh.ren0 [] .nil rfl (.cons rfl (.dat .str) (.cons rfl (.dat .int) (.cons rfl (.dat .bool) .nil))))⟩
 ·intro y hC
  subst hC
  cases hb : y1
  ·have h12:=iteBF h1 hb
   refine RW.cond_f rfl (RW.skip (RW.sreg (rl.run 2 rfl ?_)))
   obtain ⟨v6,e6,h13⟩:=bindS h12
   refine rl.op (x_sls rfl rfl rfl abnd_hi e6) ?_
   refine rl.run 2 rfl (rl.done (RW.ret ?_))
   cases h13
   exact RRet.mk rfl (OutT.tup (.cons .str (.cons .bool .nil))) (by first | decide | simp)
  ·have h14:=iteBT h1 hb
   refine RW.cond_t rfl (RW.sreg (rl.run 2 rfl (rl.done (RW.ret ?_))))
   cases h14
   exact RRet.mk rfl (OutT.tup (.cons .str (.cons .bool .nil))) (by first | decide | simp)
theorem law_spec_l06Var_w {x0 : TL06Cur} {r : Int × TL06Cur} (hF : F_spec_l06Var_w x0 = some r) : ACalls Try.prog 0 76 [.ptr 0 0] [some ⟨[.str x0.mText,.j x0.mAt,.bool x0.mBad],0⟩] (.j r.1) [some ⟨[.str r.2.mText,.j r.2.mAt,.bool r.2.mBad],0⟩]:=by
 refine ACalls.of_s k_spec_l06Var rfl ?_
 unfold F_spec_l06Var_w at hF
 refine RW.sreg (rl.run 1 rfl (rl.done (RW.sdrw (rdraw.op rfl rfl (rdraw.op rfl rfl (rdraw.op rfl rfl (rdraw.op rfl rfl (rdraw.op rfl rfl (rdraw.op rfl rfl (rdraw.op rfl rfl (rdraw.op rfl rfl ?_)))))))))))
 obtain ⟨v1,e1,h1⟩:=bindS hF
 refine rdraw.call rfl rfl rfl (CallW.val (r':=.tup [.j v1.1,.j v1.2.1,.bool v1.2.2]) ok_spec_ReadVar (law_spec_ReadVar e1) (.cons .str (.cons .int .nil)) (FlL.tup (.cons .refl (.cons .refl (.cons .refl .nil)))) ⟨rfl,?_⟩)
 refine rdraw.op rfl rfl (rdraw.op rfl rfl (rdraw.op rfl rfl (rdraw.op rfl rfl (rdraw.op rfl rfl (rdraw.op rfl rfl (rdraw.op rfl rfl (rdraw.done ?_)))))))
 refine RW.kp [0,3,4,5] [(0,.ptr 0 0),(3,.j v1.1),(4,.j v1.2.1),(5,.bool v1.2.2)] [some ⟨[.str x0.mText,.j x0.mAt,.bool x0.mBad],0⟩] rfl rfl ?_
 refine RW.seq (RW.sreg (rl.run 5 rfl ?_))
 cases hb : x0.mBad
 ·have h2:=iteBF h1 hb
  refine rl.run 3 rfl (rl.done ?_)
  cases hb : (!v1.2.2)
  ·have h3:=iteBF h2 hb
   refine RW.cond_f rfl (RW.skip (RW.sreg (rl.run 5 rfl (rl.done ?_))))
   refine RW.kp [3] [(3,.j v1.1)] [some ⟨[.str x0.mText,.j v1.2.1,.bool false],0⟩] rfl rfl ?_
   refine RW.sreg (rl.run 2 rfl (rl.done (RW.ret ?_)))
   cases h3
   exact RRetS.mk rfl .int (Gh.renN [0] (.cells rfl rfl (.keep .str (.keep .int (.keep .bool .nil))) .nil) rfl rfl rfl .nil)
  ·have h4:=iteBT h2 hb
   refine RW.cond_t rfl (RW.sreg (rl.run 4 rfl (rl.done ?_)))
   refine RW.kp [] [] [some ⟨[.str x0.mText,.j x0.mAt,.bool true],0⟩] rfl rfl ?_
   refine RW.sreg (rl.run 1 rfl (rl.done (RW.ret ?_)))
   cases h4
   exact RRetS.mk rfl .int (Gh.renN [0] (.cells rfl rfl (.keep .str (.keep .int (.keep .bool .nil))) .nil) rfl rfl rfl .nil)
 ·have h5:=iteBT h1 hb
  refine rl.run 3 rfl (rl.done (RW.cond_t rfl (RW.sreg (rl.run 4 rfl (rl.done ?_)))))
  refine RW.kp [] [] [some ⟨[.str x0.mText,.j x0.mAt,.bool true],0⟩] rfl rfl ?_
  refine RW.sreg (rl.run 1 rfl (rl.done (RW.ret ?_)))
  cases h5
  exact RRetS.mk rfl .int (Gh.renN [0] (.cells rfl rfl (.keep .str (.keep .int (.keep .bool .nil))) .nil) rfl rfl rfl .nil)
set_option maxHeartbeats 2000000 in
theorem law_spec_ReadCheck {x0 : List UInt8} {r : TCheck × Bool} (hF : F_spec_ReadCheck x0 = some r) : PCalls Try.prog 25 [.str x0] (.tup [.agg (enc_TCheck true r.1),.bool r.2]):=by
 refine PCalls.of_r k_spec_ReadCheck rfl ?_
 unfold F_spec_ReadCheck at hF
 refine RW.sreg (rl.run 2 rfl (rl.done (RW.sreg (rl.run 1 rfl ?_))))
 obtain ⟨v1,e1,h1⟩:=bindS hF
 refine rl.call rfl rfl rfl (CallW.val (r':=.tup [.str v1.1,.j v1.2.1,.bool v1.2.2]) ok_spec_ReadShort (law_spec_ReadShort e1) (.cons .str (.cons .int .nil)) (FlL.tup (.cons .refl (.cons .refl (.cons .refl .nil)))) ?_)
 refine rl.run 7 rfl (rl.done (RW.sreg (rl.run 1 rfl ?_)))
 obtain ⟨v2,e2,h2⟩:=bindS h1
 refine rl.call rfl rfl rfl (CallW.val (r':=.tup [.str v2.1,.bool v2.2]) ok_spec_Unsealed (law_spec_Unsealed e2) (.cons .str .nil) (FlL.tup (.cons .refl (.cons .refl .nil))) ?_)
 refine rl.run 5 rfl (rl.done ?_)
 refine RW.kp [0,2,5,6,7,8] [(0,.str x0),(2,.ptr 0 0),(5,.j v1.2.1),(6,.bool v1.2.2),(7,.str v2.1),(8,.bool v2.2)] [some ⟨[.j 0,.j 0,.j 0,.j 0,.nils],0⟩] rfl rfl ?_
 refine RW.seq (RW.sreg (rl.run 3 rfl ?_))
 cases hb : (!v1.2.2)
 ·have h3:=iteBF h2 hb
  refine rl.run 3 rfl (rl.done ?_)
  cases hb : (!v2.2)
  ·have h4:=iteBF h3 hb
   refine RW.cond_f rfl (RW.skip (RW.sreg (rl.run 4 rfl (rl.done ?_))))
   refine RW.kp [0,2,5,9] [(0,.str x0),(2,.ptr 0 0),(5,.j v1.2.1),(9,.ptr 1 0)] [some ⟨[.j 0,.j 0,.j 0,.j 0,.nils],0⟩,some ⟨[.str v2.1,.j 0,.bool false],0⟩] rfl rfl ?_
   refine RW.sreg (rl.run 1 rfl ?_)
   obtain ⟨v3,e3,h5⟩:=bindS h4
   refine rl.call rfl rfl rfl (CallW.embW (r0:=.j v3.1) (H':=[some ⟨[.j 0,.j 0,.j 0,.j 0,.nils],0⟩,some ⟨[.str v3.2.mText,.j v3.2.mAt,.bool v3.2.mBad],0⟩]) [⟨[.str v2.1,.j 0,.bool false],0⟩] [⟨[.str v3.2.mText,.j v3.2.mAt,.bool v3.2.mBad],0⟩] [1] ok_spec_l06Var (law_spec_l06Var_w e3) (.cons rfl (fac .str (fac .int (fac .bool fan))) (fac .str (fac .int (fac .bool fan))) .nil) rfl (.cons (.ptr rfl) .nil) .int rfl rfl ?_)
   refine rl.run 3 rfl (rl.done (RW.sreg (rl.run 1 rfl ?_)))
   obtain ⟨v4,e4,h6⟩:=bindS h5
   refine rl.call rfl rfl rfl (CallW.embW (r0:=.j v4.1) (H':=[some ⟨[.j 0,.j 0,.j 0,.j 0,.nils],0⟩,some ⟨[.str v4.2.mText,.j v4.2.mAt,.bool v4.2.mBad],0⟩,some ⟨[.j v3.1,.j 0,.j 0,.j 0,.nils],0⟩]) [⟨[.str v3.2.mText,.j v3.2.mAt,.bool v3.2.mBad],0⟩] [⟨[.str v4.2.mText,.j v4.2.mAt,.bool v4.2.mBad],0⟩] [1] ok_spec_l06Var (law_spec_l06Var_w e4) (.cons rfl (fac .str (fac .int (fac .bool fan))) (fac .str (fac .int (fac .bool fan))) .nil) rfl (.cons (.ptr rfl) .nil) .int rfl rfl ?_)
   refine rl.run 2 rfl (rl.done (RW.sreg (rl.run 1 rfl ?_)))
   obtain ⟨v5,e5,h7⟩:=bindS h6
   refine rl.call rfl rfl rfl (CallW.embW (r0:=.j v5.1) (H':=[some ⟨[.j 0,.j 0,.j 0,.j 0,.nils],0⟩,some ⟨[.str v5.2.mText,.j v5.2.mAt,.bool v5.2.mBad],0⟩,some ⟨[.j v3.1,.j v4.1,.j 0,.j 0,.nils],0⟩]) [⟨[.str v4.2.mText,.j v4.2.mAt,.bool v4.2.mBad],0⟩] [⟨[.str v5.2.mText,.j v5.2.mAt,.bool v5.2.mBad],0⟩] [1] ok_spec_l06Var (law_spec_l06Var_w e5) (.cons rfl (fac .str (fac .int (fac .bool fan))) (fac .str (fac .int (fac .bool fan))) .nil) rfl (.cons (.ptr rfl) .nil) .int rfl rfl ?_)
   refine rl.run 2 rfl (rl.done (RW.sreg (rl.run 1 rfl ?_)))
   obtain ⟨v6,e6,h8⟩:=bindS h7
   refine rl.call rfl rfl rfl (CallW.embW (r0:=.j v6.1) (H':=[some ⟨[.j 0,.j 0,.j 0,.j 0,.nils],0⟩,some ⟨[.str v6.2.mText,.j v6.2.mAt,.bool v6.2.mBad],0⟩,some ⟨[.j v3.1,.j v4.1,.j v5.1,.j 0,.nils],0⟩]) [⟨[.str v5.2.mText,.j v5.2.mAt,.bool v5.2.mBad],0⟩] [⟨[.str v6.2.mText,.j v6.2.mAt,.bool v6.2.mBad],0⟩] [1] ok_spec_l06Var (law_spec_l06Var_w e6) (.cons rfl (fac .str (fac .int (fac .bool fan))) (fac .str (fac .int (fac .bool fan))) .nil) rfl (.cons (.ptr rfl) .nil) .int rfl rfl ?_)
   refine rl.run 2 rfl (rl.done ?_)
   refine RW.kp [0,2,5,9,10] [(0,.str x0),(2,.ptr 0 0),(5,.j v1.2.1),(9,.ptr 1 0),(10,.ptr 2 0)] [some ⟨[.j 0,.j 0,.j 0,.j 0,.nils],0⟩,some ⟨[.str v6.2.mText,.j v6.2.mAt,.bool v6.2.mBad],0⟩,some ⟨[.j v3.1,.j v4.1,.j v5.1,.j v6.1,.nils],0⟩] rfl rfl ?_
   refine RW.sreg (rl.run 1 rfl ?_)
   obtain ⟨v7,e7,h9⟩:=bindS h8
   refine rl.call rfl rfl rfl (CallW.embW (r0:=.j v7.1) (H':=[some ⟨[.j 0,.j 0,.j 0,.j 0,.nils],0⟩,some ⟨[.str v7.2.mText,.j v7.2.mAt,.bool v7.2.mBad],0⟩,some ⟨[.j v3.1,.j v4.1,.j v5.1,.j v6.1,.nils],0⟩]) [⟨[.str v6.2.mText,.j v6.2.mAt,.bool v6.2.mBad],0⟩] [⟨[.str v7.2.mText,.j v7.2.mAt,.bool v7.2.mBad],0⟩] [1] ok_spec_l06Var (law_spec_l06Var_w e7) (.cons rfl (fac .str (fac .int (fac .bool fan))) (fac .str (fac .int (fac .bool fan))) .nil) rfl (.cons (.ptr rfl) .nil) .int rfl rfl ?_)
   refine rl.run 1 rfl (rl.done (RW.seq (RW.sreg (rl.run 1 rfl (rl.done ?_)))))
   refine RW.gh (Gh.nil_c 2 4 2 rfl rfl) ?_
   obtain ⟨y14,ey14,h11⟩:=bindS h9
   refine RW.cutq (σ:=(List UInt8) × Int × Bool × (List TRef)) (fun y9=>[(0,.str x0),(2,.ptr 0 0),(5,.j v1.2.1),(9,.ptr 1 0),(10,.ptr 2 0)]) (fun y9=>[some ⟨[.j 0,.j 0,.j 0,.j 0,.nils],0⟩,some ⟨[.str y9.1,.j y9.2.1,.bool y9.2.2.1],0⟩,some ⟨[.j v3.1,.j v4.1,.j v5.1,.j v6.1,.sl 3 0 y9.2.2.2.length],0⟩,some ⟨fl (enc_TRef true) y9.2.2.2,2⟩]) (fun y=>y14 = y) (fun _ _ _ _ g h=>RW.gh g h) ?_ ?_
   ·refine RW.blk ?_
    refine RW.iter (σ:=Int × (List UInt8) × Int × Bool × (List TRef)) ey14 (fun s8=>[(0,.str x0),(2,.ptr 0 0),(5,.j v1.2.1),(9,.ptr 1 0),(10,.ptr 2 0),(11,.j v7.1),(12,.j s8.1)]) (fun s8=>[some ⟨[.j 0,.j 0,.j 0,.j 0,.nils],0⟩,some ⟨[.str s8.2.1,.j s8.2.2.1,.bool s8.2.2.2.1],0⟩,some ⟨[.j v3.1,.j v4.1,.j v5.1,.j v6.1,.sl 3 0 s8.2.2.2.2.length],0⟩,some ⟨fl (enc_TRef true) s8.2.2.2.2,2⟩]) (Gh.ren0 [0,1,2,3] (.cells rfl rfl (.keep .int (.keep .int (.keep .int (.keep .int (.keep .nils .nil))))) (.cells rfl rfl (.keep .str (.keep .int (.keep .bool .nil))) (.cells rfl rfl (.keep .int (.keep .int (.keep .int (.keep .int (.slq rfl rfl .nil))))) (.same rfl (ek_TRef.fref _ _) .nil)))) rfl (.cons rfl (.dat .str) (.cons rfl (.ptr rfl) (.cons rfl (.dat .int) (.cons rfl (.ptr rfl) (.cons rfl (.ptr rfl) (.cons rfl (.dat .int) (.cons rfl (.dat .int) .nil)))))))) (fun s8 B o hS10 hB10 hE10=>?_)
    unfold S_spec_ReadCheck_1 at hS10
    refine RW.seq (RW.seq ?_)
    obtain ⟨y10,ey10,h12⟩:=bindS hS10
    refine RW.cutq (σ:=Bool) (fun y10=>[(0,.str x0),(2,.ptr 0 0),(5,.j v1.2.1),(9,.ptr 1 0),(10,.ptr 2 0),(11,.j v7.1),(12,.j s8.1),(64,.bool y10)]) (fun y10=>[some ⟨[.j 0,.j 0,.j 0,.j 0,.nils],0⟩,some ⟨[.str s8.2.1,.j s8.2.2.1,.bool s8.2.2.2.1],0⟩,some ⟨[.j v3.1,.j v4.1,.j v5.1,.j v6.1,.sl 3 0 s8.2.2.2.2.length],0⟩,some ⟨fl (enc_TRef true) s8.2.2.2.2,2⟩]) (fun y=>y10 = y) (fun _ _ _ _ g h=>RW.gh g h) ?_ ?_
    ·refine RW.reg ?_
     refine rl.run 2 rfl ?_
     refine rl.gen rfl rfl fun b hb=>?_
     cases b
     ·have h13:=iteBF ey10 hb
      refine rl.run 11 rfl (rl.done ?_)
      cases h13
      exact ⟨_,rfl,(Gh.ren0 [0,1,2,3] (.cells rfl rfl (.keep .int (.keep .int (.keep .int (.keep .int (.keep .nils .nil))))) (.cells rfl rfl (.keep .str (.keep .int (.keep .bool .nil))) (.cells rfl rfl (.keep .int (.keep .int (.keep .int (.keep .int (.slq rfl rfl .nil))))) (.same rfl (ek_TRef.fref _ _) .nil)))) rfl (.cons rfl (.dat .str) (.cons rfl (.ptr rfl) (.cons rfl (.dat .int) (.cons rfl (.ptr rfl) (.cons rfl (.ptr rfl) (.cons rfl (.dat .int) (.cons rfl (.dat .int) (.cons rfl (.dat .bool) .nil)))))))))⟩
     ·have h14:=iteBT ey10 hb
      refine rl.run 2 rfl ?_
      refine rl.gen rfl rfl fun b hb=>?_
      cases b
      ·have h15:=iteBF h14 hb
       refine rl.run 8 rfl (rl.done ?_)
       cases h15
       exact ⟨_,rfl,(Gh.ren0 [0,1,2,3] (.cells rfl rfl (.keep .int (.keep .int (.keep .int (.keep .int (.keep .nils .nil))))) (.cells rfl rfl (.keep .str (.keep .int (.keep .bool .nil))) (.cells rfl rfl (.keep .int (.keep .int (.keep .int (.keep .int (.slq rfl rfl .nil))))) (.same rfl (ek_TRef.fref _ _) .nil)))) rfl (.cons rfl (.dat .str) (.cons rfl (.ptr rfl) (.cons rfl (.dat .int) (.cons rfl (.ptr rfl) (.cons rfl (.ptr rfl) (.cons rfl (.dat .int) (.cons rfl (.dat .int) (.cons rfl (.dat .bool) .nil)))))))))⟩
      ·have h16:=iteBT h14 hb
       refine rl.run 8 rfl (rl.done ?_)
       cases h16
       exact ⟨_,rfl,(Gh.ren0 [0,1,2,3] (.cells rfl rfl (.keep .int (.keep .int (.keep .int (.keep .int (.keep .nils .nil))))) (.cells rfl rfl (.keep .str (.keep .int (.keep .bool .nil))) (.cells rfl rfl (.keep .int (.keep .int (.keep .int (.keep .int (.slq rfl rfl .nil))))) (.same rfl (ek_TRef.fref _ _) .nil)))) rfl (.cons rfl (.dat .str) (.cons rfl (.ptr rfl) (.cons rfl (.dat .int) (.cons rfl (.ptr rfl) (.cons rfl (.ptr rfl) (.cons rfl (.dat .int) (.cons rfl (.dat .int) (.cons rfl (.dat .bool) .nil)))))))))⟩
    ·intro y hC
     subst hC
     cases hb : y10
     ·have h17:=iteBF h12 hb
      refine RW.cond_f rfl (RW.exit (blkA_eq ?_))
      cases h17
      exact ⟨_,(hE10 _ rfl).symm,(Gh.ren0 [0,1,2,3] (.cells rfl rfl (.keep .int (.keep .int (.keep .int (.keep .int (.keep .nils .nil))))) (.cells rfl rfl (.keep .str (.keep .int (.keep .bool .nil))) (.cells rfl rfl (.keep .int (.keep .int (.keep .int (.keep .int (.slq rfl rfl .nil))))) (.same rfl (ek_TRef.fref _ _) .nil)))) rfl (.cons rfl (.dat .str) (.cons rfl (.ptr rfl) (.cons rfl (.dat .int) (.cons rfl (.ptr rfl) (.cons rfl (.ptr rfl) .nil))))))⟩
     ·have h18:=iteBT h12 hb
      refine RW.cond_t rfl (RW.skip (RW.seq (RW.blk (RW.sreg (rl.run 1 rfl ?_)))))
      obtain ⟨v11,e11,h19⟩:=bindS h18
      refine rl.call rfl rfl rfl (CallW.embW (r0:=.j v11.1) (H':=[some ⟨[.j 0,.j 0,.j 0,.j 0,.nils],0⟩,some ⟨[.str v11.2.mText,.j v11.2.mAt,.bool v11.2.mBad],0⟩,some ⟨[.j v3.1,.j v4.1,.j v5.1,.j v6.1,.sl 3 0 s8.2.2.2.2.length],0⟩,some ⟨fl (enc_TRef true) s8.2.2.2.2,2⟩]) [⟨[.str s8.2.1,.j s8.2.2.1,.bool s8.2.2.2.1],0⟩] [⟨[.str v11.2.mText,.j v11.2.mAt,.bool v11.2.mBad],0⟩] [1] ok_spec_l06Var (law_spec_l06Var_w e11) (.cons rfl (fac .str (fac .int (fac .bool fan))) (fac .str (fac .int (fac .bool fan))) .nil) rfl (.cons (.ptr rfl) .nil) .int rfl rfl ?_)
      refine rl.run 3 rfl (rl.done (RW.sreg (rl.run 1 rfl ?_)))
      obtain ⟨v12,e12,h20⟩:=bindS h19
      refine rl.call rfl rfl rfl (CallW.embW (r0:=.j v12.1) (H':=[some ⟨[.j 0,.j 0,.j 0,.j 0,.nils],0⟩,some ⟨[.str v12.2.mText,.j v12.2.mAt,.bool v12.2.mBad],0⟩,some ⟨[.j v3.1,.j v4.1,.j v5.1,.j v6.1,.sl 3 0 s8.2.2.2.2.length],0⟩,some ⟨fl (enc_TRef true) s8.2.2.2.2,2⟩,some ⟨[.j v11.1,.j 0],0⟩]) [⟨[.str v11.2.mText,.j v11.2.mAt,.bool v11.2.mBad],0⟩] [⟨[.str v12.2.mText,.j v12.2.mAt,.bool v12.2.mBad],0⟩] [1] ok_spec_l06Var (law_spec_l06Var_w e12) (.cons rfl (fac .str (fac .int (fac .bool fan))) (fac .str (fac .int (fac .bool fan))) .nil) rfl (.cons (.ptr rfl) .nil) .int rfl rfl ?_)
      refine rl.run 2 rfl (rl.done (RW.reg (rl.run 4 rfl ?_)))
      obtain ⟨v13,e13,h21⟩:=bindS h20
      refine rl.op (x_app rfl rfl (rapp_sl (l:=s8.2.2.2.2) (m:=[({ No:=v11.1,Gen:=v12.1 } : TRef)]) (o:=true) ek_TRef rfl rfl (acont_slq (m:=[({ No:=v11.1,Gen:=v12.1 } : TRef)]) (o:=true) fk_TRef rfl rfl) rfl (fk_TRef.fst _ _) e13)) ?_
      refine rl.run 2 rfl (rl.done (RW.reg (rl.run 3 rfl (rl.done ?_))))
      cases h21
      exact hB10 _ rfl _ _ (Gh.ren0 [0,1,2,6] (.cells rfl rfl (.keep .int (.keep .int (.keep .int (.keep .int (.keep .nils .nil))))) (.cells rfl rfl (.keep .str (.keep .int (.keep .bool .nil))) (.cells rfl rfl (.keep .int (.keep .int (.keep .int (.keep .int (.slq rfl rfl .nil))))) (.same rfl (ek_TRef.fref _ _) .nil)))) rfl (.cons rfl (.dat .str) (.cons rfl (.ptr rfl) (.cons rfl (.dat .int) (.cons rfl (.ptr rfl) (.cons rfl (.ptr rfl) (.cons rfl (.dat .int) (.cons rfl (.dat .int) .nil))))))))
   ·intro y9 hC
    subst hC
    refine RW.sreg (rl.run 1 rfl ?_)
    obtain ⟨v15,e15,h22⟩:=bindS h11
    refine rl.call rfl rfl rfl (CallW.val (r':=.tup [.str v15.1,.bool v15.2]) ok_spec_CheckText (law_spec_CheckText e15) (.cons (DFL.agg (.cons .int (.cons .int (.cons .int (.cons .int (.cons (.slq ek_TRef rfl rfl) .nil)))))) .nil) (FlL.tup (.cons .refl (.cons .refl .nil))) ?_)
    refine rl.run 5 rfl (rl.done (RW.seq (RW.seq ?_)))
    obtain ⟨y16,ey16,h23⟩:=bindS h22
    refine RW.cutq (σ:=Bool) (fun y16=>[(2,.ptr 0 0),(10,.ptr 1 0),(98,.bool y16)]) (fun y16=>[some ⟨[.j 0,.j 0,.j 0,.j 0,.nils],0⟩,some ⟨[.j v3.1,.j v4.1,.j v5.1,.j v6.1,.sl 2 0 y14.2.2.2.length],0⟩,some ⟨fl (enc_TRef true) y14.2.2.2,2⟩]) (fun y=>y16 = y) (fun _ _ _ _ g h=>RW.gh g h) ?_ ?_
    ·refine RW.reg ?_
     refine rl.run 5 rfl ?_
     cases hb : y14.2.2.1
     ·have h24:=iteBF ey16 hb
      refine rl.run 4 rfl ?_
      cases hb : (!v15.2)
      ·have h25:=iteBF h24 hb
       refine rl.run 3 rfl ?_
       obtain ⟨v17,e17,h26⟩:=bindS h25
       refine rl.gop rfl (x_sls rfl rfl rfl abnd_hi e17) ?_
       refine rl.gen rfl rfl fun b hb=>?_
       cases b
       ·have h27:=iteBF h26 hb
        refine rl.run 1 rfl (rl.done ?_)
        cases h27
        exact ⟨_,rfl,(Gh.ren0 [0,2,3] (.cells rfl rfl (.keep .int (.keep .int (.keep .int (.keep .int (.keep .nils .nil))))) (.cells rfl rfl (.keep .int (.keep .int (.keep .int (.keep .int (.slq rfl rfl .nil))))) (.same rfl (ek_TRef.fref _ _) .nil))) rfl (.cons rfl (.ptr rfl) (.cons rfl (.ptr rfl) (.cons rfl (.dat .bool) .nil))))⟩
       ·have h28:=iteBT h26 hb
        refine rl.run 1 rfl (rl.done ?_)
        cases h28
        exact ⟨_,rfl,(Gh.ren0 [0,2,3] (.cells rfl rfl (.keep .int (.keep .int (.keep .int (.keep .int (.keep .nils .nil))))) (.cells rfl rfl (.keep .int (.keep .int (.keep .int (.keep .int (.slq rfl rfl .nil))))) (.same rfl (ek_TRef.fref _ _) .nil))) rfl (.cons rfl (.ptr rfl) (.cons rfl (.ptr rfl) (.cons rfl (.dat .bool) .nil))))⟩
      ·have h29:=iteBT h24 hb
       refine rl.run 6 rfl (rl.done ?_)
       cases h29
       exact ⟨_,rfl,(Gh.ren0 [0,2,3] (.cells rfl rfl (.keep .int (.keep .int (.keep .int (.keep .int (.keep .nils .nil))))) (.cells rfl rfl (.keep .int (.keep .int (.keep .int (.keep .int (.slq rfl rfl .nil))))) (.same rfl (ek_TRef.fref _ _) .nil))) rfl (.cons rfl (.ptr rfl) (.cons rfl (.ptr rfl) (.cons rfl (.dat .bool) .nil))))⟩
     ·have h30:=iteBT ey16 hb
      refine rl.run 10 rfl (rl.done ?_)
      cases h30
      exact ⟨_,rfl,(Gh.ren0 [0,2,3] (.cells rfl rfl (.keep .int (.keep .int (.keep .int (.keep .int (.keep .nils .nil))))) (.cells rfl rfl (.keep .int (.keep .int (.keep .int (.keep .int (.slq rfl rfl .nil))))) (.same rfl (ek_TRef.fref _ _) .nil))) rfl (.cons rfl (.ptr rfl) (.cons rfl (.ptr rfl) (.cons rfl (.dat .bool) .nil))))⟩
    ·intro y hC
     subst hC
     cases hb : y16
     ·have h31:=iteBF h23 hb
      refine RW.cond_f rfl (RW.skip (RW.sreg (rl.run 3 rfl (rl.done (RW.ret ?_)))))
      cases h31
      exact RRet.mk rfl (OutT.tup (.cons (OutL.agg (.cons .int rfl (.cons .int rfl (.cons .int rfl (.cons .int rfl (.cons (OutR.ownq ek_TRef rfl rfl) rfl .nil)))))) (.cons .bool .nil))) (by first | decide | simp)
     ·have h32:=iteBT h23 hb
      refine RW.cond_t rfl (RW.sreg (rl.run 3 rfl (rl.done (RW.ret ?_))))
      cases h32
      exact RRet.mk rfl (OutT.tup (.cons (OutL.agg (.cons .int rfl (.cons .int rfl (.cons .int rfl (.cons .int rfl (.cons (OutR.nil (enc:=enc_TRef)) rfl .nil)))))) (.cons .bool .nil))) (by first | decide | simp)
  ·have h33:=iteBT h3 hb
   refine RW.cond_t rfl (RW.sreg (rl.run 3 rfl (rl.done ?_)))
   refine RW.kp [2,3] [(2,.ptr 0 0),(3,.bool false)] [some ⟨[.j 0,.j 0,.j 0,.j 0,.nils],0⟩] rfl rfl ?_
   refine RW.ret ?_
   cases h33
   exact RRet.mk rfl (OutT.tup (.cons (OutL.agg (.cons .int rfl (.cons .int rfl (.cons .int rfl (.cons .int rfl (.cons (OutR.nil (enc:=enc_TRef)) rfl .nil)))))) (.cons .bool .nil))) (by first | decide | simp)
 ·have h34:=iteBT h2 hb
  refine rl.run 3 rfl (rl.done (RW.cond_t rfl (RW.sreg (rl.run 3 rfl (rl.done ?_)))))
  refine RW.kp [2,3] [(2,.ptr 0 0),(3,.bool false)] [some ⟨[.j 0,.j 0,.j 0,.j 0,.nils],0⟩] rfl rfl ?_
  refine RW.ret ?_
  cases h34
  exact RRet.mk rfl (OutT.tup (.cons (OutL.agg (.cons .int rfl (.cons .int rfl (.cons .int rfl (.cons .int rfl (.cons (OutR.nil (enc:=enc_TRef)) rfl .nil)))))) (.cons .bool .nil))) (by first | decide | simp)
theorem law_spec_NewestCheck {x0 : TDisk} {r : TCheck × Bool} (hF : F_spec_NewestCheck x0 = some r) : PCalls Try.prog 23 [.agg (enc_TDisk false x0)] (.tup [.agg (enc_TCheck true r.1),.bool r.2]):=by
 refine PCalls.of_r k_spec_NewestCheck rfl ?_
 unfold F_spec_NewestCheck at hF
 refine RW.sreg (rl.run 3 rfl (rl.done (RW.sreg (rl.run 3 rfl (rl.done (RW.sreg (rl.run 1 rfl (rl.done (RW.seq (RW.sreg (rl.run 1 rfl ?_)))))))))))
 refine rl.done ?_
 refine RW.gh (Gh.nil_c 2 4 2 rfl rfl) ?_
 obtain ⟨y6,ey6,h2⟩:=bindS hF
 refine RW.cutq (σ:=Bool × Int × Int × Int × Int × (List TRef)) (fun y2=>[(2,.ptr 0 0),(4,.ptr 1 0),(5,.bool y2.1)]) (fun y2=>[some ⟨[.j 0,.j 0,.j 0,.j 0,.nils],0⟩,some ⟨[.j y2.2.1,.j y2.2.2.1,.j y2.2.2.2.1,.j y2.2.2.2.2.1,.sl 2 0 y2.2.2.2.2.2.length],0⟩,some ⟨fl (enc_TRef true) y2.2.2.2.2.2,2⟩]) (fun y=>y6 = y) (fun _ _ _ _ g h=>RW.gh g h) ?_ ?_
 ·refine RW.blk ?_
  refine RW.iter (σ:=Bool × Int × Int × Int × Int × Int × (List TRef)) ey6 (fun s1=>[(1,.ptr 0 0),(2,.ptr 1 0),(4,.ptr 2 0),(5,.bool s1.1),(6,.j s1.2.1)]) (fun s1=>[some ⟨[L_S x0.Sectors,L_TWrite x0.Cache],0⟩,some ⟨[.j 0,.j 0,.j 0,.j 0,.nils],0⟩,some ⟨[.j s1.2.2.1,.j s1.2.2.2.1,.j s1.2.2.2.2.1,.j s1.2.2.2.2.2.1,.sl 3 0 s1.2.2.2.2.2.2.length],0⟩,some ⟨fl (enc_TRef true) s1.2.2.2.2.2.2,2⟩]) (Gh.ren0 [0,1,2,3] (.cells rfl rfl (.keep (ekS.rlst) (.keep (ek_TWrite.rlst) .nil)) (.cells rfl rfl (.keep .int (.keep .int (.keep .int (.keep .int (.keep .nils .nil))))) (.cells rfl rfl (.keep .int (.keep .int (.keep .int (.keep .int (.slq rfl rfl .nil))))) (.same rfl (ek_TRef.fref _ _) .nil)))) rfl (.cons rfl (.ptr rfl) (.cons rfl (.ptr rfl) (.cons rfl (.ptr rfl) (.cons rfl (.dat .bool) (.cons rfl (.dat .int) .nil)))))) (fun s1 B o hS1 hB1 hE1=>?_)
  unfold S_spec_NewestCheck_1 at hS1
  refine RW.seq (RW.sreg (rl.run 1 rfl ?_))
  refine rl.gen rfl rfl fun b hb=>?_
  cases b
  ·have h3:=iteBF hS1 hb
   refine rl.done (RW.cond_f rfl (RW.exit (blkA_eq ?_)))
   cases h3
   exact ⟨_,(hE1 _ rfl).symm,(Gh.ren0 [1,2,3] (.cells rfl rfl (.keep .int (.keep .int (.keep .int (.keep .int (.keep .nils .nil))))) (.cells rfl rfl (.keep .int (.keep .int (.keep .int (.keep .int (.slq rfl rfl .nil))))) (.same rfl (ek_TRef.fref _ _) .nil))) rfl (.cons rfl (.ptr rfl) (.cons rfl (.ptr rfl) (.cons rfl (.dat .bool) .nil))))⟩
  ·have h4:=iteBT hS1 hb
   refine rl.done (RW.cond_t rfl (RW.skip (RW.seq (RW.blk (RW.sreg (rl.run 3 rfl ?_))))))
   obtain ⟨v3,e3,h5⟩:=bindS h4
   refine rl.call rfl rfl rfl (CallW.val (r':=.tup [.str v3.1,.bool v3.2]) ok_spec_SectorText (law_spec_SectorText e3) (.cons (DFL.agg (.cons (.lst ekS) (.cons (.lst ek_TWrite) .nil))) (.cons .int (.cons .int .nil))) (FlL.tup (.cons .refl (.cons .refl .nil))) ?_)
   refine rl.run 5 rfl (rl.done (RW.sreg (rl.run 1 rfl ?_)))
   obtain ⟨v4,e4,h6⟩:=bindS h5
   refine rl.call rfl rfl rfl (CallW.own (r':=.tup [.agg [.j v4.1.Stamp,.j v4.1.NextGen,.j v4.1.NextSeq,.j v4.1.NextValid,.sl 4 0 v4.1.Refs.length],.bool v4.2]) (H':=[some ⟨[L_S x0.Sectors,L_TWrite x0.Cache],0⟩,some ⟨[.j 0,.j 0,.j 0,.j 0,.nils],0⟩,some ⟨[.j s1.2.2.1,.j s1.2.2.2.1,.j s1.2.2.2.2.1,.j s1.2.2.2.2.2.1,.sl 3 0 s1.2.2.2.2.2.2.length],0⟩,some ⟨fl (enc_TRef true) s1.2.2.2.2.2.2,2⟩,some ⟨fl (enc_TRef true) v4.1.Refs,2⟩]) ok_spec_ReadCheck (law_spec_ReadCheck e4) (.cons .str .nil) (fac (ek_TCheck.own _) (fac .bool fan)) rfl ?_)
   refine rl.run 6 rfl (rl.done ?_)
   refine RW.kp [1,2,4,5,6,8,9,10] [(1,.ptr 0 0),(2,.ptr 1 0),(4,.ptr 2 0),(5,.bool s1.1),(6,.j s1.2.1),(8,.bool v3.2),(9,.ptr 5 0),(10,.bool v4.2)] [some ⟨[L_S x0.Sectors,L_TWrite x0.Cache],0⟩,some ⟨[.j 0,.j 0,.j 0,.j 0,.nils],0⟩,some ⟨[.j s1.2.2.1,.j s1.2.2.2.1,.j s1.2.2.2.2.1,.j s1.2.2.2.2.2.1,.sl 3 0 s1.2.2.2.2.2.2.length],0⟩,some ⟨fl (enc_TRef true) s1.2.2.2.2.2.2,2⟩,some ⟨fl (enc_TRef true) v4.1.Refs,2⟩,some ⟨[.j v4.1.Stamp,.j v4.1.NextGen,.j v4.1.NextSeq,.j v4.1.NextValid,.sl 4 0 v4.1.Refs.length],0⟩] rfl rfl ?_
   refine RW.seq ?_
   obtain ⟨y5,ey5,h7⟩:=bindS h6
   refine RW.cutq (σ:=Bool) (fun y5=>[(1,.ptr 0 0),(2,.ptr 1 0),(4,.ptr 2 0),(5,.bool s1.1),(6,.j s1.2.1),(9,.ptr 3 0),(38,.bool y5)]) (fun y5=>[some ⟨[L_S x0.Sectors,L_TWrite x0.Cache],0⟩,some ⟨[.j 0,.j 0,.j 0,.j 0,.nils],0⟩,some ⟨[.j s1.2.2.1,.j s1.2.2.2.1,.j s1.2.2.2.2.1,.j s1.2.2.2.2.2.1,.sl 4 0 s1.2.2.2.2.2.2.length],0⟩,some ⟨[.j v4.1.Stamp,.j v4.1.NextGen,.j v4.1.NextSeq,.j v4.1.NextValid,.sl 5 0 v4.1.Refs.length],0⟩,some ⟨fl (enc_TRef true) s1.2.2.2.2.2.2,2⟩,some ⟨fl (enc_TRef true) v4.1.Refs,2⟩]) (fun y=>y5 = y) (fun _ _ _ _ g h=>RW.gh g h) ?_ ?_
   ·refine RW.reg ?_
    refine rl.run 2 rfl ?_
    cases hb : v3.2
    ·have h8:=iteBF ey5 hb
     refine rl.run 9 rfl (rl.done ?_)
     cases h8
     exact ⟨_,rfl,(Gh.ren0 [0,1,2,5,3,4] (.cells rfl rfl (.keep (ekS.rlst) (.keep (ek_TWrite.rlst) .nil)) (.cells rfl rfl (.keep .int (.keep .int (.keep .int (.keep .int (.keep .nils .nil))))) (.cells rfl rfl (.keep .int (.keep .int (.keep .int (.keep .int (.slq rfl rfl .nil))))) (.cells rfl rfl (.keep .int (.keep .int (.keep .int (.keep .int (.slq rfl rfl .nil))))) (.same rfl (ek_TRef.fref _ _) (.same rfl (ek_TRef.fref _ _) .nil)))))) rfl (.cons rfl (.ptr rfl) (.cons rfl (.ptr rfl) (.cons rfl (.ptr rfl) (.cons rfl (.dat .bool) (.cons rfl (.dat .int) (.cons rfl (.ptr rfl) (.cons rfl (.dat .bool) .nil))))))))⟩
    ·have h9:=iteBT ey5 hb
     refine rl.run 3 rfl ?_
     cases hb : v4.2
     ·have h10:=iteBF h9 hb
      refine rl.run 6 rfl (rl.done ?_)
      cases h10
      exact ⟨_,rfl,(Gh.ren0 [0,1,2,5,3,4] (.cells rfl rfl (.keep (ekS.rlst) (.keep (ek_TWrite.rlst) .nil)) (.cells rfl rfl (.keep .int (.keep .int (.keep .int (.keep .int (.keep .nils .nil))))) (.cells rfl rfl (.keep .int (.keep .int (.keep .int (.keep .int (.slq rfl rfl .nil))))) (.cells rfl rfl (.keep .int (.keep .int (.keep .int (.keep .int (.slq rfl rfl .nil))))) (.same rfl (ek_TRef.fref _ _) (.same rfl (ek_TRef.fref _ _) .nil)))))) rfl (.cons rfl (.ptr rfl) (.cons rfl (.ptr rfl) (.cons rfl (.ptr rfl) (.cons rfl (.dat .bool) (.cons rfl (.dat .int) (.cons rfl (.ptr rfl) (.cons rfl (.dat .bool) .nil))))))))⟩
     ·have h11:=iteBT h9 hb
      refine rl.run 4 rfl ?_
      refine rl.gen rfl rfl fun b hb=>?_
      cases b
      ·have h12:=iteBF h11 hb
       refine rl.run 1 rfl (rl.done ?_)
       cases h12
       exact ⟨_,rfl,(Gh.ren0 [0,1,2,5,3,4] (.cells rfl rfl (.keep (ekS.rlst) (.keep (ek_TWrite.rlst) .nil)) (.cells rfl rfl (.keep .int (.keep .int (.keep .int (.keep .int (.keep .nils .nil))))) (.cells rfl rfl (.keep .int (.keep .int (.keep .int (.keep .int (.slq rfl rfl .nil))))) (.cells rfl rfl (.keep .int (.keep .int (.keep .int (.keep .int (.slq rfl rfl .nil))))) (.same rfl (ek_TRef.fref _ _) (.same rfl (ek_TRef.fref _ _) .nil)))))) rfl (.cons rfl (.ptr rfl) (.cons rfl (.ptr rfl) (.cons rfl (.ptr rfl) (.cons rfl (.dat .bool) (.cons rfl (.dat .int) (.cons rfl (.ptr rfl) (.cons rfl (.dat .bool) .nil))))))))⟩
      ·have h13:=iteBT h11 hb
       refine rl.run 1 rfl (rl.done ?_)
       cases h13
       exact ⟨_,rfl,(Gh.ren0 [0,1,2,5,3,4] (.cells rfl rfl (.keep (ekS.rlst) (.keep (ek_TWrite.rlst) .nil)) (.cells rfl rfl (.keep .int (.keep .int (.keep .int (.keep .int (.keep .nils .nil))))) (.cells rfl rfl (.keep .int (.keep .int (.keep .int (.keep .int (.slq rfl rfl .nil))))) (.cells rfl rfl (.keep .int (.keep .int (.keep .int (.keep .int (.slq rfl rfl .nil))))) (.same rfl (ek_TRef.fref _ _) (.same rfl (ek_TRef.fref _ _) .nil)))))) rfl (.cons rfl (.ptr rfl) (.cons rfl (.ptr rfl) (.cons rfl (.ptr rfl) (.cons rfl (.dat .bool) (.cons rfl (.dat .int) (.cons rfl (.ptr rfl) (.cons rfl (.dat .bool) .nil))))))))⟩
   ·intro y hC
    subst hC
    cases hb : y5
    ·have h14:=iteBF h7 hb
     refine RW.cond_f rfl (RW.skip (RW.reg (rl.run 3 rfl (rl.done ?_))))
     cases h14
     exact hB1 _ rfl _ _ (Gh.ren0 [0,1,2,4] (.cells rfl rfl (.keep (ekS.rlst) (.keep (ek_TWrite.rlst) .nil)) (.cells rfl rfl (.keep .int (.keep .int (.keep .int (.keep .int (.keep .nils .nil))))) (.cells rfl rfl (.keep .int (.keep .int (.keep .int (.keep .int (.slq rfl rfl .nil))))) (.same rfl (ek_TRef.fref _ _) .nil)))) rfl (.cons rfl (.ptr rfl) (.cons rfl (.ptr rfl) (.cons rfl (.ptr rfl) (.cons rfl (.dat .bool) (.cons rfl (.dat .int) .nil))))))
    ·have h15:=iteBT h7 hb
     refine RW.cond_t rfl (RW.sreg (rl.run 2 rfl (rl.done (RW.reg (rl.run 1 rfl (rl.done (RW.reg (rl.run 3 rfl (rl.done ?_)))))))))
     cases h15
     exact hB1 _ rfl _ _ (Gh.ren0 [0,1,2,5] (.cells rfl rfl (.keep (ekS.rlst) (.keep (ek_TWrite.rlst) .nil)) (.cells rfl rfl (.keep .int (.keep .int (.keep .int (.keep .int (.keep .nils .nil))))) (.cells rfl rfl (.keep .int (.keep .int (.keep .int (.keep .int (.slq rfl rfl .nil))))) (.same rfl (ek_TRef.fref _ _) .nil)))) rfl (.cons rfl (.ptr rfl) (.cons rfl (.ptr rfl) (.cons rfl (.ptr rfl) (.cons rfl (.dat .bool) (.cons rfl (.dat .int) .nil))))))
 ·intro y2 hC
  subst hC
  refine RW.sreg (rl.run 4 rfl (rl.done (RW.ret ?_)))
  cases h2
  exact RRet.mk rfl (OutT.tup (.cons (OutL.agg (.cons .int rfl (.cons .int rfl (.cons .int rfl (.cons .int rfl (.cons (OutR.ownq ek_TRef rfl rfl) rfl .nil)))))) (.cons .bool .nil))) (by first | decide | simp)
theorem law_laws_big {x0 : List Int} {r : Bool} (hF : F_laws_big x0 = some r) : PCalls Try.prog 8 [L_B x0] (.bool r):=by
 refine PCalls.of_r k_laws_big rfl ?_
 unfold F_laws_big at hF
 refine RW.sreg (rl.run 1 rfl (rl.done (RW.sreg (rl.run 4 rfl (rl.done (RW.ret ?_))))))
 cases hF
 exact RRet.mk rfl .bool (by first | decide | simp)
theorem law_spec_l01Long {x0 : Int} {x1 : Int} {r : List UInt8} (hF : F_spec_l01Long x0 x1 = some r) : PCalls Try.prog 154 [.j x0,.int .u8 x1] (.str r):=by
 refine PCalls.of_r k_spec_l01Long rfl ?_
 unfold F_spec_l01Long at hF
 refine RW.sreg (rl.run 1 rfl (rl.done (RW.sreg (rl.run 1 rfl ?_))))
 obtain ⟨v1,e1,h1⟩:=bindS hF
 refine rl.op (x_ms ekB rfl rfl e1 rfl) ?_
 refine rl.run 1 rfl (rl.done (RW.seq (RW.sreg (rl.run 1 rfl (rl.done ?_)))))
 obtain ⟨y6,ey6,h3⟩:=bindS h1
 refine RW.cutq (σ:=(List Int)) (fun y3=>[(5,.sl 0 0 y3.length)]) (fun y3=>[some ⟨fl (encB true) y3,1⟩]) (fun y=>y6 = y) (fun _ _ _ _ g h=>RW.gh g h) ?_ ?_
 ·refine RW.blk ?_
  refine RW.iter (σ:=Int × (List Int)) ey6 (fun s2=>[(0,.j x0),(1,.int .u8 x1),(5,.sl 0 0 s2.2.length),(6,.j s2.1)]) (fun s2=>[some ⟨fl (encB true) s2.2,1⟩]) (Gh.ren0 [0] (.same rfl (ekB.fref _ _) .nil) rfl (.cons rfl (.dat .int) (.cons rfl (.dat .int) (.cons rfl (.slq rfl rfl) (.cons rfl (.dat .int) .nil))))) (fun s2 B o hS2 hB2 hE2=>?_)
  unfold S_spec_l01Long_1 at hS2
  refine RW.seq (RW.sreg (rl.run 2 rfl ?_))
  refine rl.gen rfl rfl fun b hb=>?_
  cases b
  ·have h4:=iteBF hS2 hb
   refine rl.done (RW.cond_f rfl (RW.exit (blkA_eq ?_)))
   cases h4
   exact ⟨_,(hE2 _ rfl).symm,(Gh.ren0 [0] (.same rfl (ekB.fref _ _) .nil) rfl (.cons rfl (.slq rfl rfl) .nil))⟩
  ·have h5:=iteBT hS2 hb
   refine rl.done (RW.cond_t rfl (RW.skip (RW.seq (RW.blk (RW.reg (rl.run 3 rfl ?_))))))
   obtain ⟨v4,e4,h6⟩:=bindS h5
   refine rl.op (x_ia_sl rfl rfl rfl rfl e4) ?_
   obtain ⟨v5,e5,h7⟩:=bindS h6
   refine rl.op0 (x_st_sl' (off':=0) (o:=true) (e':=x1) ekB e4 rfl rfl rfl rfl rfl rfl rfl rfl rfl e5) ?_
   refine rl.done (RW.reg (rl.run 3 rfl (rl.done ?_)))
   cases h7
   exact hB2 _ rfl _ _ (Gh.ren0 [0] (.same rfl (ekB.fref _ _) .nil) rfl (.cons rfl (.dat .int) (.cons rfl (.dat .int) (.cons rfl (.slq rfl (set'_len e5)) (.cons rfl (.dat .int) .nil)))))
 ·intro y3 hC
  subst hC
  refine RW.sreg (rl.run 1 rfl ?_)
  refine rl.op (x_cvb_sl (o:=true) (l:=y6) rfl rfl) ?_
  refine rl.run 1 rfl (rl.done (RW.ret ?_))
  cases h3
  exact RRet.mk rfl .str (by first | decide | simp)
theorem law_spec_l03Zero  {r : List UInt8} (hF : F_spec_l03Zero  = some r) : PCalls Try.prog 158 [] (.str r):=by
 refine PCalls.of_r k_spec_l03Zero rfl ?_
 unfold F_spec_l03Zero at hF
 refine RW.sreg (rl.run 1 rfl (rl.done (RW.sreg ?_)))
 obtain ⟨v1,e1,h1⟩:=bindS hF
 refine rl.call rfl rfl rfl (CallW.val (r':=.str v1) ok_spec_l01Long (law_spec_l01Long e1) (.cons .int (.cons .int .nil)) .refl ?_)
 refine rl.run 1 rfl (rl.done (RW.ret ?_))
 cases h1
 exact RRet.mk rfl .str (by first | decide | simp)
theorem law_spec_DiskNew {x0 : Int} {r : TDisk × Bool} (hF : F_spec_DiskNew x0 = some r) : PCalls Try.prog 134 [.j x0] (.tup [.agg (enc_TDisk true r.1),.bool r.2]):=by
 refine PCalls.of_r k_spec_DiskNew rfl ?_
 unfold F_spec_DiskNew at hF
 refine RW.sreg (rl.run 2 rfl (rl.done (RW.seq (RW.sreg (rl.run 1 rfl ?_)))))
 obtain ⟨v1,e1,h1⟩:=bindS hF
 refine rl.call rfl rfl rfl (CallW.val (r':=.bool v1) ok_spec_l01In (law_spec_l01In e1) (.cons .int (.cons .int (.cons .int .nil))) .refl ?_)
 cases hb : v1
 ·have h2:=iteBF h1 hb
  refine rl.run 1 rfl (rl.done (RW.cond_t rfl (RW.sreg (rl.run 3 rfl (rl.done (RW.ret ?_))))))
  cases h2
  exact RRet.mk rfl (OutT.tup (.cons (OutL.agg (.cons (OutR.nil (enc:=encS)) rfl (.cons (OutR.nil (enc:=enc_TWrite)) rfl .nil))) (.cons .bool .nil))) (by first | decide | simp)
 ·have h3:=iteBT h1 hb
  refine rl.run 1 rfl (rl.done (RW.cond_f rfl (RW.skip (RW.sreg (rl.run 3 rfl (rl.done (RW.seq (RW.sreg (rl.run 1 rfl (rl.done ?_))))))))))
  refine RW.gh (Gh.nil_c 1 0 1 rfl rfl) ?_
  obtain ⟨y6,ey6,h5⟩:=bindS h3
  refine RW.cutq (σ:=(List (List UInt8))) (fun y3=>[(2,.ptr 0 0),(4,.ptr 1 0)]) (fun y3=>[some ⟨[.nils,.nils],0⟩,some ⟨[.sl 2 0 y3.length,.nils],0⟩,some ⟨fl (encS true) y3,1⟩]) (fun y=>y6 = y) (fun _ _ _ _ g h=>RW.gh g h) ?_ ?_
  ·refine RW.blk ?_
   refine RW.iter (σ:=Int × (List (List UInt8))) ey6 (fun s2=>[(0,.j x0),(2,.ptr 0 0),(4,.ptr 1 0),(5,.j s2.1)]) (fun s2=>[some ⟨[.nils,.nils],0⟩,some ⟨[.sl 2 0 s2.2.length,.nils],0⟩,some ⟨fl (encS true) s2.2,1⟩]) (Gh.ren0 [0,1,2] (.cells rfl rfl (.keep .nils (.keep .nils .nil)) (.cells rfl rfl (.slq rfl rfl (.keep .nils .nil)) (.same rfl (ekS.fref _ _) .nil))) rfl (.cons rfl (.dat .int) (.cons rfl (.ptr rfl) (.cons rfl (.ptr rfl) (.cons rfl (.dat .int) .nil))))) (fun s2 B o hS4 hB4 hE4=>?_)
   unfold S_spec_DiskNew_1 at hS4
   refine RW.seq (RW.sreg (rl.run 2 rfl ?_))
   refine rl.gen rfl rfl fun b hb=>?_
   cases b
   ·have h6:=iteBF hS4 hb
    refine rl.done (RW.cond_f rfl (RW.exit (blkA_eq ?_)))
    cases h6
    exact ⟨_,(hE4 _ rfl).symm,(Gh.ren0 [0,1,2] (.cells rfl rfl (.keep .nils (.keep .nils .nil)) (.cells rfl rfl (.slq rfl rfl (.keep .nils .nil)) (.same rfl (ekS.fref _ _) .nil))) rfl (.cons rfl (.ptr rfl) (.cons rfl (.ptr rfl) .nil)))⟩
   ·have h7:=iteBT hS4 hb
    refine rl.done (RW.cond_t rfl (RW.skip (RW.seq (RW.blk (RW.drw (rdraw.op rfl rfl (rdraw.op rfl rfl ?_)))))))
    obtain ⟨v4,e4,h8⟩:=bindS h7
    refine rdraw.call rfl rfl rfl (CallW.val (r':=.str v4) ok_spec_l03Zero (law_spec_l03Zero e4) .nil .refl ⟨rfl,?_⟩)
    refine rdraw.chnB rfl rfl (.skip rfl (.here (.rx rfl) (.here (.rx rfl) .nil))) ?_
    obtain ⟨v5,e5,h9⟩:=bindS h8
    refine rdraw.chn rfl (x_app rfl rfl (rapp_sl (l:=s2.2) (m:=[v4]) (o:=true) ekS rfl rfl (acont_slq (m:=[v4]) (o:=true) fkS rfl rfl) rfl (fkS.fst _ _) e5)) ?_
    refine rdraw.op rfl rfl ?_
    refine rdraw.chn rfl rfl ?_
    refine rdraw.done (RW.reg (rl.run 3 rfl (rl.done ?_)))
    cases h9
    exact hB4 _ rfl _ _ (Gh.ren0 [0,1,4] (.cells rfl rfl (.keep .nils (.keep .nils .nil)) (.cells rfl rfl (.slq rfl rfl (.keep .nils .nil)) (.same rfl (ekS.fref _ _) .nil))) rfl (.cons rfl (.dat .int) (.cons rfl (.ptr rfl) (.cons rfl (.ptr rfl) (.cons rfl (.dat .int) .nil)))))
  ·intro y3 hC
   subst hC
   refine RW.sreg (rl.run 3 rfl (rl.done (RW.ret ?_)))
   cases h5
   exact RRet.mk rfl (OutT.tup (.cons (OutL.agg (.cons (OutR.ownq ekS rfl rfl) rfl (.cons (OutR.nil (enc:=enc_TWrite)) rfl .nil))) (.cons .bool .nil))) (by first | decide | simp)
theorem law_spec_FrameOk {x0 : TFrame} {r : Bool} (hF : F_spec_FrameOk x0 = some r) : PCalls Try.prog 161 [.agg (enc_TFrame false x0)] (.bool r):=by
 refine PCalls.of_r k_spec_FrameOk rfl ?_
 unfold F_spec_FrameOk at hF
 refine RW.sreg (rl.run 2 rfl (rl.done (RW.seq ?_)))
 obtain ⟨y1,ey1,h1⟩:=bindS hF
 refine RW.cutq (σ:=Bool) (fun y1=>[(2,.bool y1)]) (fun y1=>[]) (fun y=>y1 = y) (fun _ _ _ _ g h=>RW.gh g h) ?_ ?_
 ·refine RW.reg ?_
  refine rl.run 2 rfl ?_
  obtain ⟨v2,e2,h2⟩:=bindS ey1
  refine rl.call rfl rfl rfl (CallW.val (r':=.bool v2) ok_spec_l01In (law_spec_l01In e2) (.cons .int (.cons .int (.cons .int .nil))) .refl ?_)
  cases hb : v2
  ·have h3:=iteBF h2 hb
   refine rl.run 12 rfl (rl.done ?_)
   cases h3
   exact ⟨_,rfl,(Gh.ren0 [] .nil rfl (.cons rfl (.dat .bool) .nil))⟩
  ·have h4:=iteBT h2 hb
   refine rl.run 3 rfl ?_
   obtain ⟨v3,e3,h5⟩:=bindS h4
   refine rl.call rfl rfl rfl (CallW.val (r':=.bool v3) ok_spec_l01In (law_spec_l01In e3) (.cons .int (.cons .int (.cons .int .nil))) .refl ?_)
   cases hb : v3
   ·have h6:=iteBF h5 hb
    refine rl.run 8 rfl (rl.done ?_)
    cases h6
    exact ⟨_,rfl,(Gh.ren0 [] .nil rfl (.cons rfl (.dat .bool) .nil))⟩
   ·have h7:=iteBT h5 hb
    refine rl.run 5 rfl ?_
    obtain ⟨v4,e4,h8⟩:=bindS h7
    refine rl.call rfl rfl rfl (CallW.val (r':=.bool v4) ok_spec_l01In (law_spec_l01In e4) (.cons .int (.cons .int (.cons .int .nil))) .refl ?_)
    refine rl.run 2 rfl (rl.done ?_)
    cases h8
    exact ⟨_,rfl,(Gh.ren0 [] .nil rfl (.cons rfl (.dat .bool) .nil))⟩
 ·intro y hC
  subst hC
  refine RW.ret ?_
  cases h1
  exact RRet.mk rfl .bool (by first | decide | simp)
theorem law_spec_FrameText {x0 : TFrame} {r : (List UInt8) × Bool} (hF : F_spec_FrameText x0 = some r) : PCalls Try.prog 141 [.agg (enc_TFrame false x0)] (.tup [.str r.1,.bool r.2]):=by
 refine PCalls.of_r k_spec_FrameText rfl ?_
 unfold F_spec_FrameText at hF
 refine RW.sreg (rl.run 3 rfl (rl.done (RW.seq (RW.sreg (rl.run 1 rfl ?_)))))
 obtain ⟨v1,e1,h1⟩:=bindS hF
 refine rl.call rfl rfl rfl (CallW.val (r':=.bool v1) ok_spec_FrameOk (law_spec_FrameOk e1) (.cons (DFL.agg (.cons .int (.cons .int (.cons .str .nil)))) .nil) .refl ?_)
 cases hb : v1
 ·have h2:=iteBF h1 hb
  refine rl.run 1 rfl (rl.done (RW.cond_t rfl (RW.sreg (rl.run 2 rfl (rl.done (RW.ret ?_))))))
  cases h2
  exact RRet.mk rfl (OutT.tup (.cons .str (.cons .bool .nil))) (by first | decide | simp)
 ·have h3:=iteBT h1 hb
  refine rl.run 1 rfl (rl.done (RW.cond_f rfl (RW.skip (RW.sdrw (rdraw.op rfl rfl (rdraw.op rfl rfl ?_))))))
  obtain ⟨v2,e2,h4⟩:=bindS h3
  refine rdraw.call rfl rfl rfl (CallW.val (r':=.str v2) ok_spec_l01Var (law_spec_l01Var e2) (.cons .int .nil) .refl ⟨rfl,?_⟩)
  refine rdraw.op rfl rfl (rdraw.op rfl rfl ?_)
  obtain ⟨v3,e3,h5⟩:=bindS h4
  refine rdraw.call rfl rfl rfl (CallW.val (r':=.str v3) ok_spec_l01Var (law_spec_l01Var e3) (.cons .int .nil) .refl ⟨rfl,?_⟩)
  obtain ⟨v4,e4,h6⟩:=bindS h5
  refine rdraw.op rfl (x_cat rfl rfl e4) ?_
  refine rdraw.op rfl rfl (rdraw.op rfl rfl (rdraw.op rfl rfl ?_))
  obtain ⟨v5,e5,h7⟩:=bindS h6
  refine rdraw.call rfl rfl rfl (CallW.val (r':=.str v5) ok_spec_l01Var (law_spec_l01Var e5) (.cons .int .nil) .refl ⟨rfl,?_⟩)
  obtain ⟨v6,e6,h8⟩:=bindS h7
  refine rdraw.op rfl (x_cat rfl rfl e6) ?_
  refine rdraw.op rfl rfl (rdraw.op rfl rfl ?_)
  obtain ⟨v7,e7,h9⟩:=bindS h8
  refine rdraw.op rfl (x_cat rfl rfl e7) ?_
  obtain ⟨v8,e8,h10⟩:=bindS h9
  refine rdraw.call rfl rfl rfl (CallW.val (r':=.tup [.str v8.1,.bool v8.2]) ok_spec_Sealed (law_spec_Sealed e8) (.cons .str .nil) (FlL.tup (.cons .refl (.cons .refl .nil))) ⟨rfl,?_⟩)
  refine rdraw.op rfl rfl (rdraw.op rfl rfl (rdraw.op rfl rfl (rdraw.op rfl rfl (rdraw.done ?_))))
  refine RW.kp [2,3] [(2,.str v8.1),(3,.bool v8.2)] [some ⟨[.j x0.Gen,.j x0.Seq,.str x0.Body],0⟩] rfl rfl ?_
  refine RW.ret ?_
  cases h10
  exact RRet.mk rfl (OutT.tup (.cons .str (.cons .bool .nil))) (by first | decide | simp)
theorem law_spec_SegFirst {x0 : Int} {r : Int} (hF : F_spec_SegFirst x0 = some r) : PCalls Try.prog 162 [.j x0] (.j r):=by
 refine PCalls.of_r k_spec_SegFirst rfl ?_
 unfold F_spec_SegFirst at hF
 refine RW.sreg (rl.run 1 rfl (rl.done (RW.seq (RW.sreg (rl.run 1 rfl ?_)))))
 obtain ⟨v1,e1,h1⟩:=bindS hF
 refine rl.call rfl rfl rfl (CallW.val (r':=.bool v1) ok_spec_l01In (law_spec_l01In e1) (.cons .int (.cons .int (.cons .int .nil))) .refl ?_)
 cases hb : v1
 ·have h2:=iteBF h1 hb
  refine rl.run 1 rfl (rl.done (RW.cond_t rfl (RW.sreg (rl.run 1 rfl (rl.done (RW.ret ?_))))))
  cases h2
  exact RRet.mk rfl .int (by first | decide | simp)
 ·have h3:=iteBT h1 hb
  refine rl.run 1 rfl (rl.done (RW.cond_f rfl (RW.skip (RW.sreg (rl.run 4 rfl (rl.done (RW.ret ?_)))))))
  cases h3
  exact RRet.mk rfl .int (by first | decide | simp)
theorem law_spec_SegWrite {x0 : TDisk} {x1 : Int} {x2 : Int} {x3 : List UInt8} {r : TDisk × Bool} (hF : F_spec_SegWrite x0 x1 x2 x3 = some r) : PCalls Try.prog 142 [.agg (enc_TDisk false x0),.j x1,.j x2,.str x3] (.tup [.agg (enc_TDisk true r.1),.bool r.2]):=by
 refine PCalls.of_r k_spec_SegWrite rfl ?_
 unfold F_spec_SegWrite at hF
 refine RW.sreg (rl.run 3 rfl (rl.done (RW.seq (RW.seq ?_))))
 obtain ⟨y1,ey1,h1⟩:=bindS hF
 refine RW.cutq (σ:=Bool) (fun y1=>[(1,.j x1),(2,.j x2),(3,.str x3),(4,.ptr 0 0),(8,.ptr 1 0),(24,.bool y1)]) (fun y1=>[some ⟨[L_S x0.Sectors,L_TWrite x0.Cache],0⟩,some ⟨[.nils,.nils],0⟩]) (fun y=>y1 = y) (fun _ _ _ _ g h=>RW.gh g h) ?_ ?_
 ·refine RW.reg ?_
  refine rl.run 1 rfl ?_
  obtain ⟨v2,e2,h2⟩:=bindS ey1
  refine rl.call rfl rfl rfl (CallW.val (r':=.bool v2) ok_spec_l01In (law_spec_l01In e2) (.cons .int (.cons .int (.cons .int .nil))) .refl ?_)
  cases hb : v2
  ·have h3:=iteBF h2 hb
   refine rl.run 13 rfl (rl.done ?_)
   cases h3
   exact ⟨_,rfl,(Gh.ren0 [0,1] (.cells rfl rfl (.keep (ekS.rlst) (.keep (ek_TWrite.rlst) .nil)) (.cells rfl rfl (.keep .nils (.keep .nils .nil)) .nil)) rfl (.cons rfl (.dat .int) (.cons rfl (.dat .int) (.cons rfl (.dat .str) (.cons rfl (.ptr rfl) (.cons rfl (.ptr rfl) (.cons rfl (.dat .bool) .nil)))))))⟩
  ·have h4:=iteBT h2 hb
   refine rl.run 3 rfl ?_
   obtain ⟨v3,e3,h5⟩:=bindS h4
   refine rl.call rfl rfl rfl (CallW.val (r':=.bool v3) ok_spec_l01In (law_spec_l01In e3) (.cons .int (.cons .int (.cons .int .nil))) .refl ?_)
   cases hb : v3
   ·have h6:=iteBF h5 hb
    refine rl.run 9 rfl (rl.done ?_)
    cases h6
    exact ⟨_,rfl,(Gh.ren0 [0,1] (.cells rfl rfl (.keep (ekS.rlst) (.keep (ek_TWrite.rlst) .nil)) (.cells rfl rfl (.keep .nils (.keep .nils .nil)) .nil)) rfl (.cons rfl (.dat .int) (.cons rfl (.dat .int) (.cons rfl (.dat .str) (.cons rfl (.ptr rfl) (.cons rfl (.ptr rfl) (.cons rfl (.dat .bool) .nil)))))))⟩
   ·have h7:=iteBT h5 hb
    refine rl.run 7 rfl ?_
    refine rl.gen rfl rfl fun b hb=>?_
    cases b
    ·have h8:=iteBF h7 hb
     refine rl.run 1 rfl (rl.done ?_)
     cases h8
     exact ⟨_,rfl,(Gh.ren0 [0,1] (.cells rfl rfl (.keep (ekS.rlst) (.keep (ek_TWrite.rlst) .nil)) (.cells rfl rfl (.keep .nils (.keep .nils .nil)) .nil)) rfl (.cons rfl (.dat .int) (.cons rfl (.dat .int) (.cons rfl (.dat .str) (.cons rfl (.ptr rfl) (.cons rfl (.ptr rfl) (.cons rfl (.dat .bool) .nil)))))))⟩
    ·have h9:=iteBT h7 hb
     refine rl.run 1 rfl (rl.done ?_)
     cases h9
     exact ⟨_,rfl,(Gh.ren0 [0,1] (.cells rfl rfl (.keep (ekS.rlst) (.keep (ek_TWrite.rlst) .nil)) (.cells rfl rfl (.keep .nils (.keep .nils .nil)) .nil)) rfl (.cons rfl (.dat .int) (.cons rfl (.dat .int) (.cons rfl (.dat .str) (.cons rfl (.ptr rfl) (.cons rfl (.ptr rfl) (.cons rfl (.dat .bool) .nil)))))))⟩
 ·intro y hC
  subst hC
  cases hb : y1
  ·have h10:=iteBF h1 hb
   refine RW.cond_f rfl (RW.skip (RW.sdrw (rdraw.op rfl rfl (rdraw.op rfl rfl ?_))))
   obtain ⟨v4,e4,h11⟩:=bindS h10
   refine rdraw.call rfl rfl rfl (CallW.val (r':=.j v4) ok_spec_SegFirst (law_spec_SegFirst e4) (.cons .int .nil) .refl ⟨rfl,?_⟩)
   refine rdraw.op rfl rfl (rdraw.op rfl rfl ?_)
   obtain ⟨v5,e5,h12⟩:=bindS h11
   refine rdraw.ccall rfl rfl rfl (CallW.own (r':=.tup [.agg [.sl 2 0 v5.1.Sectors.length,.sl 3 0 v5.1.Cache.length],.bool v5.2]) (H':=[some ⟨[L_S x0.Sectors,L_TWrite x0.Cache],0⟩,some ⟨[.nils,.nils],0⟩,some ⟨fl (encS true) v5.1.Sectors,1⟩,some ⟨fl (enc_TWrite true) v5.1.Cache,2⟩]) ok_spec_WriteBytes (law_spec_WriteBytes e5) (.cons (DFL.agg (.cons (.lst ekS) (.cons (.lst ek_TWrite) .nil))) (.cons .int (.cons .int (.cons .str .nil)))) (fac (ek_TDisk.own _) (fac .bool fan)) rfl ?_)
   refine rdraw.op rfl rfl (rdraw.op rfl rfl ?_)
   refine rdraw.chn rfl rfl ?_
   refine rdraw.op rfl rfl (rdraw.done ?_)
   refine RW.kp [8,9] [(8,.ptr 1 0),(9,.bool v5.2)] [some ⟨[L_S x0.Sectors,L_TWrite x0.Cache],0⟩,some ⟨[.sl 2 0 v5.1.Sectors.length,.sl 3 0 v5.1.Cache.length],0⟩,some ⟨fl (encS true) v5.1.Sectors,1⟩,some ⟨fl (enc_TWrite true) v5.1.Cache,2⟩] rfl rfl ?_
   refine RW.ret ?_
   cases h12
   exact RRet.mk rfl (OutT.tup (.cons (OutL.agg (.cons (OutR.ownq ekS rfl rfl) rfl (.cons (OutR.ownq ek_TWrite rfl rfl) rfl .nil))) (.cons .bool .nil))) (by first | decide | simp)
  ·have h13:=iteBT h1 hb
   refine RW.cond_t rfl (RW.sreg (rl.run 1 rfl ?_))
   obtain ⟨v6,e6,h14⟩:=bindS h13
   refine rl.call rfl rfl rfl (CallW.own (r':=.agg [.sl 2 0 v6.Sectors.length,.sl 3 0 v6.Cache.length]) (H':=[some ⟨[L_S x0.Sectors,L_TWrite x0.Cache],0⟩,some ⟨[.nils,.nils],0⟩,some ⟨fl (encS true) v6.Sectors,1⟩,some ⟨fl (enc_TWrite true) v6.Cache,2⟩]) ok_spec_l03Copy (law_spec_l03Copy e6) (.cons (DFL.agg (.cons (.lst ekS) (.cons (.lst ek_TWrite) .nil))) .nil) (ek_TDisk.own _) rfl ?_)
   refine rl.run 2 rfl (rl.done (RW.ret ?_))
   cases h14
   exact RRet.mk rfl (OutT.tup (.cons (OutL.agg (.cons (OutR.ownq ekS rfl rfl) rfl (.cons (OutR.ownq ek_TWrite rfl rfl) rfl .nil))) (.cons .bool .nil))) (by first | decide | simp)
theorem law_spec_FlushDisk {x0 : TDisk} {r : TDisk} (hF : F_spec_FlushDisk x0 = some r) : PCalls Try.prog 143 [.agg (enc_TDisk false x0)] (.agg (enc_TDisk true r)):=by
 refine PCalls.of_r k_spec_FlushDisk rfl ?_
 unfold F_spec_FlushDisk at hF
 refine RW.sreg (rl.run 2 rfl (rl.done (RW.sreg (rl.run 1 rfl ?_))))
 obtain ⟨v1,e1,h1⟩:=bindS hF
 refine rl.call rfl rfl rfl (CallW.own (r':=.agg [.sl 2 0 v1.Sectors.length,.sl 3 0 v1.Cache.length]) (H':=[some ⟨[L_S x0.Sectors,L_TWrite x0.Cache],0⟩,some ⟨[.nils,.nils],0⟩,some ⟨fl (encS true) v1.Sectors,1⟩,some ⟨fl (enc_TWrite true) v1.Cache,2⟩]) ok_spec_l03Copy (law_spec_l03Copy e1) (.cons (DFL.agg (.cons (.lst ekS) (.cons (.lst ek_TWrite) .nil))) .nil) (ek_TDisk.own _) rfl ?_)
 refine rl.run 2 rfl (rl.done (RW.seq (RW.sreg (rl.run 1 rfl ?_))))
 obtain ⟨v2,e2,h2⟩:=bindS h1
 refine rl.call rfl rfl rfl (CallW.val (r':=.bool v2) ok_spec_DiskOk (law_spec_DiskOk e2) (.cons (DFL.agg (.cons (.lst ekS) (.cons (.lst ek_TWrite) .nil))) .nil) .refl ?_)
 cases hb : v2
 ·have h3:=iteBF h2 hb
  refine rl.run 1 rfl (rl.done (RW.cond_t rfl (RW.sreg (rl.run 2 rfl (rl.done (RW.ret ?_))))))
  cases h3
  exact RRet.mk rfl (OutL.agg (.cons (OutR.ownq ekS rfl rfl) rfl (.cons (OutR.ownq ek_TWrite rfl rfl) rfl .nil))) (by first | decide | simp)
 ·have h4:=iteBT h2 hb
  refine rl.run 1 rfl (rl.done (RW.cond_f rfl (RW.skip (RW.seq (RW.sreg (rl.run 1 rfl (rl.done ?_)))))))
  obtain ⟨y9,ey9,h6⟩:=bindS h4
  refine RW.cutq (σ:=(List (List UInt8))) (fun y4=>[(2,.ptr 0 0),(3,.ptr 1 0)]) (fun y4=>[some ⟨[.nils,.nils],0⟩,some ⟨[.sl 2 0 y4.length,.sl 3 0 v1.Cache.length],0⟩,some ⟨fl (encS true) y4,1⟩,some ⟨fl (enc_TWrite true) v1.Cache,2⟩]) (fun y=>y9 = y) (fun _ _ _ _ g h=>RW.gh g h) ?_ ?_
  ·refine RW.blk ?_
   refine RW.iter (σ:=Int × (List (List UInt8))) ey9 (fun s3=>[(1,.ptr 0 0),(2,.ptr 1 0),(3,.ptr 2 0),(4,.j s3.1)]) (fun s3=>[some ⟨[L_S x0.Sectors,L_TWrite x0.Cache],0⟩,some ⟨[.nils,.nils],0⟩,some ⟨[.sl 3 0 s3.2.length,.sl 4 0 v1.Cache.length],0⟩,some ⟨fl (encS true) s3.2,1⟩,some ⟨fl (enc_TWrite true) v1.Cache,2⟩]) (Gh.ren0 [0,1,4,2,3] (.cells rfl rfl (.keep (ekS.rlst) (.keep (ek_TWrite.rlst) .nil)) (.cells rfl rfl (.keep .nils (.keep .nils .nil)) (.cells rfl rfl (.slq rfl rfl (.slq rfl rfl .nil)) (.same rfl (ekS.fref _ _) (.same rfl (ek_TWrite.fref _ _) .nil))))) rfl (.cons rfl (.ptr rfl) (.cons rfl (.ptr rfl) (.cons rfl (.ptr rfl) (.cons rfl (.dat .int) .nil))))) (fun s3 B o hS5 hB5 hE5=>?_)
   unfold S_spec_FlushDisk_1 at hS5
   refine RW.seq (RW.sreg (rl.run 4 rfl ?_))
   refine rl.gen rfl rfl fun b hb=>?_
   cases b
   ·have h7:=iteBF hS5 hb
    refine rl.done (RW.cond_f rfl (RW.exit (blkA_eq ?_)))
    cases h7
    exact ⟨_,(hE5 _ rfl).symm,(Gh.ren0 [1,2,3,4] (.cells rfl rfl (.keep .nils (.keep .nils .nil)) (.cells rfl rfl (.slq rfl rfl (.slq rfl rfl .nil)) (.same rfl (ekS.fref _ _) (.same rfl (ek_TWrite.fref _ _) .nil)))) rfl (.cons rfl (.ptr rfl) (.cons rfl (.ptr rfl) .nil)))⟩
   ·have h8:=iteBT hS5 hb
    refine rl.done (RW.cond_t rfl (RW.skip (RW.seq (RW.blk (RW.drw (rdraw.op rfl rfl (rdraw.op rfl rfl (rdraw.op rfl rfl (rdraw.op rfl rfl (rdraw.op rfl rfl ?_))))))))))
    obtain ⟨v5,e5,h9⟩:=bindS h8
    refine rdraw.op rfl (x_ia_lst (enc:=enc_TWrite) (o:=false) rfl rfl rfl e5) ?_
    refine rdraw.op rfl rfl ?_
    refine rdraw.op rfl (x_ld_el (off':=0) ek_TWrite rfl e5 rfl rfl rfl) ?_
    refine rdraw.op rfl rfl (rdraw.op rfl rfl (rdraw.op rfl rfl ?_))
    obtain ⟨v6,e6,h10⟩:=bindS h9
    refine rdraw.op rfl (x_ia_lst (enc:=enc_TWrite) (o:=false) rfl rfl rfl e6) ?_
    refine rdraw.op rfl rfl ?_
    refine rdraw.op rfl (x_ld_el (off':=1) ek_TWrite rfl e6 rfl rfl rfl) ?_
    obtain ⟨v7,e7,h11⟩:=bindS h10
    refine rdraw.op rfl (x_ia_sl rfl rfl rfl rfl e7) ?_
    obtain ⟨v8,e8,h12⟩:=bindS h11
    refine rdraw.chn rfl (x_st_sl' (off':=0) (o:=true) (e':=v6.Text) ekS e7 rfl rfl rfl rfl rfl rfl rfl rfl rfl e8) ?_
    refine rdraw.done (RW.reg (rl.run 3 rfl (rl.done ?_)))
    cases h12
    exact hB5 _ rfl _ _ (Gh.ren0 [0,1,2,3,4] (.cells rfl rfl (.keep (ekS.rlst) (.keep (ek_TWrite.rlst) .nil)) (.cells rfl rfl (.keep .nils (.keep .nils .nil)) (.cells rfl rfl (.slq rfl (set'_len e8) (.slq rfl rfl .nil)) (.same rfl (ekS.fref _ _) (.same rfl (ek_TWrite.fref _ _) .nil))))) rfl (.cons rfl (.ptr rfl) (.cons rfl (.ptr rfl) (.cons rfl (.ptr rfl) (.cons rfl (.dat .int) .nil)))))
  ·intro y4 hC
   subst hC
   refine RW.sreg (rl.run 3 rfl (rl.done (RW.sreg (rl.run 2 rfl (rl.done (RW.ret ?_))))))
   cases h6
   exact RRet.mk rfl (OutL.agg (.cons (OutR.ownq ekS rfl rfl) rfl (.cons (OutR.nil (enc:=enc_TWrite)) rfl .nil))) (by first | decide | simp)
set_option maxHeartbeats 2000000 in
theorem law_spec_FreeSegs {x0 : TLog} {r : List Int} (hF : F_spec_FreeSegs x0 = some r) : PCalls Try.prog 159 [.agg (enc_TLog false x0)] (.lst true 1 (fl (encI true) r) r.length):=by
 refine PCalls.of_r k_spec_FreeSegs rfl ?_
 unfold F_spec_FreeSegs at hF
 refine RW.sreg (rl.run 2 rfl (rl.done (RW.sreg (rl.run 2 rfl (rl.done (RW.seq (RW.sreg (rl.run 1 rfl (rl.done ?_)))))))))
 refine RW.gh (Gh.nil_t 3 1 rfl) ?_
 obtain ⟨y9,ey9,h2⟩:=bindS hF
 refine RW.cutq (σ:=(List Int)) (fun y2=>[(3,.sl 0 0 y2.length)]) (fun y2=>[some ⟨fl (encI true) y2,1⟩]) (fun y=>y9 = y) (fun _ _ _ _ g h=>RW.gh g h) ?_ ?_
 ·refine RW.blk ?_
  refine RW.iter (σ:=Int × (List Int)) ey9 (fun s1=>[(1,.ptr 0 0),(3,.sl 1 0 s1.2.length),(4,.j s1.1)]) (fun s1=>[some ⟨[L_S x0.Disk.Sectors,L_TWrite x0.Disk.Cache,.j x0.Segs,L_TSeg x0.Used,.j x0.NextGen,.j x0.NextSeq,.j x0.Stamp,.j x0.NextValid],0⟩,some ⟨fl (encI true) s1.2,1⟩]) (Gh.ren0 [0,1] (.cells rfl rfl (.keep (ekS.rlst) (.keep (ek_TWrite.rlst) (.keep .int (.keep (ek_TSeg.rlst) (.keep .int (.keep .int (.keep .int (.keep .int .nil)))))))) (.same rfl (ekI.fref _ _) .nil)) rfl (.cons rfl (.ptr rfl) (.cons rfl (.slq rfl rfl) (.cons rfl (.dat .int) .nil)))) (fun s1 B o hS1 hB1 hE1=>?_)
  unfold S_spec_FreeSegs_1 at hS1
  refine RW.seq (RW.seq ?_)
  obtain ⟨y3,ey3,h3⟩:=bindS hS1
  refine RW.cutq (σ:=Bool) (fun y3=>[(1,.ptr 0 0),(3,.sl 1 0 s1.2.length),(4,.j s1.1),(15,.bool y3)]) (fun y3=>[some ⟨[L_S x0.Disk.Sectors,L_TWrite x0.Disk.Cache,.j x0.Segs,L_TSeg x0.Used,.j x0.NextGen,.j x0.NextSeq,.j x0.Stamp,.j x0.NextValid],0⟩,some ⟨fl (encI true) s1.2,1⟩]) (fun y=>y3 = y) (fun _ _ _ _ g h=>RW.gh g h) ?_ ?_
  ·refine RW.reg ?_
   refine rl.run 3 rfl ?_
   refine rl.gen rfl rfl fun b hb=>?_
   cases b
   ·have h4:=iteBF ey3 hb
    refine rl.run 4 rfl (rl.done ?_)
    cases h4
    exact ⟨_,rfl,(Gh.ren0 [0,1] (.cells rfl rfl (.keep (ekS.rlst) (.keep (ek_TWrite.rlst) (.keep .int (.keep (ek_TSeg.rlst) (.keep .int (.keep .int (.keep .int (.keep .int .nil)))))))) (.same rfl (ekI.fref _ _) .nil)) rfl (.cons rfl (.ptr rfl) (.cons rfl (.slq rfl rfl) (.cons rfl (.dat .int) (.cons rfl (.dat .bool) .nil)))))⟩
   ·have h5:=iteBT ey3 hb
    refine rl.run 2 rfl ?_
    refine rl.gen rfl rfl fun b hb=>?_
    cases b
    ·have h6:=iteBF h5 hb
     refine rl.run 1 rfl (rl.done ?_)
     cases h6
     exact ⟨_,rfl,(Gh.ren0 [0,1] (.cells rfl rfl (.keep (ekS.rlst) (.keep (ek_TWrite.rlst) (.keep .int (.keep (ek_TSeg.rlst) (.keep .int (.keep .int (.keep .int (.keep .int .nil)))))))) (.same rfl (ekI.fref _ _) .nil)) rfl (.cons rfl (.ptr rfl) (.cons rfl (.slq rfl rfl) (.cons rfl (.dat .int) (.cons rfl (.dat .bool) .nil)))))⟩
    ·have h7:=iteBT h5 hb
     refine rl.run 1 rfl (rl.done ?_)
     cases h7
     exact ⟨_,rfl,(Gh.ren0 [0,1] (.cells rfl rfl (.keep (ekS.rlst) (.keep (ek_TWrite.rlst) (.keep .int (.keep (ek_TSeg.rlst) (.keep .int (.keep .int (.keep .int (.keep .int .nil)))))))) (.same rfl (ekI.fref _ _) .nil)) rfl (.cons rfl (.ptr rfl) (.cons rfl (.slq rfl rfl) (.cons rfl (.dat .int) (.cons rfl (.dat .bool) .nil)))))⟩
  ·intro y hC
   subst hC
   cases hb : y3
   ·have h8:=iteBF h3 hb
    refine RW.cond_f rfl (RW.exit (blkA_eq ?_))
    cases h8
    exact ⟨_,(hE1 _ rfl).symm,(Gh.ren0 [1] (.same rfl (ekI.fref _ _) .nil) rfl (.cons rfl (.slq rfl rfl) .nil))⟩
   ·have h9:=iteBT h3 hb
    refine RW.cond_t rfl (RW.skip (RW.seq (RW.blk (RW.sreg (rl.run 1 rfl (rl.done (RW.seq (RW.sreg (rl.run 1 rfl (rl.done ?_))))))))))
    obtain ⟨y7,ey7,h11⟩:=bindS h9
    refine RW.cutq (σ:=Bool) (fun y5=>[(1,.ptr 0 0),(3,.sl 1 0 s1.2.length),(4,.j s1.1),(5,.bool y5)]) (fun y5=>[some ⟨[L_S x0.Disk.Sectors,L_TWrite x0.Disk.Cache,.j x0.Segs,L_TSeg x0.Used,.j x0.NextGen,.j x0.NextSeq,.j x0.Stamp,.j x0.NextValid],0⟩,some ⟨fl (encI true) s1.2,1⟩]) (fun y=>y7 = y) (fun _ _ _ _ g h=>RW.gh g h) ?_ ?_
    ·refine RW.blk ?_
     refine RW.iter (σ:=Bool × Int) ey7 (fun s4=>[(1,.ptr 0 0),(3,.sl 1 0 s1.2.length),(4,.j s1.1),(5,.bool s4.1),(6,.j s4.2)]) (fun s4=>[some ⟨[L_S x0.Disk.Sectors,L_TWrite x0.Disk.Cache,.j x0.Segs,L_TSeg x0.Used,.j x0.NextGen,.j x0.NextSeq,.j x0.Stamp,.j x0.NextValid],0⟩,some ⟨fl (encI true) s1.2,1⟩]) (Gh.ren0 [0,1] (.cells rfl rfl (.keep (ekS.rlst) (.keep (ek_TWrite.rlst) (.keep .int (.keep (ek_TSeg.rlst) (.keep .int (.keep .int (.keep .int (.keep .int .nil)))))))) (.same rfl (ekI.fref _ _) .nil)) rfl (.cons rfl (.ptr rfl) (.cons rfl (.slq rfl rfl) (.cons rfl (.dat .int) (.cons rfl (.dat .bool) (.cons rfl (.dat .int) .nil)))))) (fun s4 B o hS10 hB10 hE10=>?_)
     unfold S_spec_FreeSegs_2 at hS10
     refine RW.seq (RW.sreg (rl.run 4 rfl ?_))
     refine rl.gen rfl rfl fun b hb=>?_
     cases b
     ·have h12:=iteBF hS10 hb
      refine rl.done (RW.cond_f rfl (RW.exit (blkA_eq ?_)))
      cases h12
      exact ⟨_,(hE10 _ rfl).symm,(Gh.ren0 [0,1] (.cells rfl rfl (.keep (ekS.rlst) (.keep (ek_TWrite.rlst) (.keep .int (.keep (ek_TSeg.rlst) (.keep .int (.keep .int (.keep .int (.keep .int .nil)))))))) (.same rfl (ekI.fref _ _) .nil)) rfl (.cons rfl (.ptr rfl) (.cons rfl (.slq rfl rfl) (.cons rfl (.dat .int) (.cons rfl (.dat .bool) .nil)))))⟩
     ·have h13:=iteBT hS10 hb
      refine rl.done (RW.cond_t rfl (RW.skip (RW.seq (RW.blk (RW.reg (rl.run 2 rfl ?_))))))
      cases hb : s4.1
      ·have h14:=iteBF h13 hb
       refine rl.run 3 rfl ?_
       obtain ⟨v6,e6,h15⟩:=bindS h14
       refine rl.gop rfl (x_ia_lst (enc:=enc_TSeg) (o:=false) rfl rfl rfl e6) ?_
       refine rl.run 1 rfl ?_
       refine rl.gop rfl (x_ld_el (off':=0) ek_TSeg rfl e6 rfl rfl rfl) ?_
       refine rl.run 1 rfl ?_
       refine rl.gen rfl rfl fun b hb=>?_
       cases b
       ·have h16:=iteBF h15 hb
        refine rl.run 2 rfl (rl.done (RW.reg (rl.run 3 rfl (rl.done ?_))))
        cases h16
        exact hB10 _ rfl _ _ (Gh.ren0 [0,1] (.cells rfl rfl (.keep (ekS.rlst) (.keep (ek_TWrite.rlst) (.keep .int (.keep (ek_TSeg.rlst) (.keep .int (.keep .int (.keep .int (.keep .int .nil)))))))) (.same rfl (ekI.fref _ _) .nil)) rfl (.cons rfl (.ptr rfl) (.cons rfl (.slq rfl rfl) (.cons rfl (.dat .int) (.cons rfl (.dat .bool) (.cons rfl (.dat .int) .nil))))))
       ·have h17:=iteBT h15 hb
        refine rl.run 2 rfl (rl.done (RW.reg (rl.run 3 rfl (rl.done ?_))))
        cases h17
        exact hB10 _ rfl _ _ (Gh.ren0 [0,1] (.cells rfl rfl (.keep (ekS.rlst) (.keep (ek_TWrite.rlst) (.keep .int (.keep (ek_TSeg.rlst) (.keep .int (.keep .int (.keep .int (.keep .int .nil)))))))) (.same rfl (ekI.fref _ _) .nil)) rfl (.cons rfl (.ptr rfl) (.cons rfl (.slq rfl rfl) (.cons rfl (.dat .int) (.cons rfl (.dat .bool) (.cons rfl (.dat .int) .nil))))))
      ·have h18:=iteBT h13 hb
       refine rl.run 10 rfl (rl.done (RW.reg (rl.run 3 rfl (rl.done ?_))))
       cases h18
       exact hB10 _ rfl _ _ (Gh.ren0 [0,1] (.cells rfl rfl (.keep (ekS.rlst) (.keep (ek_TWrite.rlst) (.keep .int (.keep (ek_TSeg.rlst) (.keep .int (.keep .int (.keep .int (.keep .int .nil)))))))) (.same rfl (ekI.fref _ _) .nil)) rfl (.cons rfl (.ptr rfl) (.cons rfl (.slq rfl rfl) (.cons rfl (.dat .int) (.cons rfl (.dat .bool) (.cons rfl (.dat .int) .nil))))))
    ·intro y5 hC
     subst hC
     refine RW.sreg (rl.run 2 rfl (rl.done ?_))
     cases hb : (!y7)
     ·have h19:=iteBF h11 hb
      refine RW.cond_f rfl (RW.skip (RW.reg (rl.run 3 rfl (rl.done ?_))))
      cases h19
      exact hB1 _ rfl _ _ (Gh.ren0 [0,1] (.cells rfl rfl (.keep (ekS.rlst) (.keep (ek_TWrite.rlst) (.keep .int (.keep (ek_TSeg.rlst) (.keep .int (.keep .int (.keep .int (.keep .int .nil)))))))) (.same rfl (ekI.fref _ _) .nil)) rfl (.cons rfl (.ptr rfl) (.cons rfl (.slq rfl rfl) (.cons rfl (.dat .int) .nil))))
     ·have h20:=iteBT h11 hb
      refine RW.cond_t rfl (RW.reg (rl.run 3 rfl ?_))
      obtain ⟨v8,e8,h21⟩:=bindS h20
      refine rl.op (x_app rfl rfl (rapp_sl (l:=s1.2) (m:=[s1.1]) (o:=true) ekI rfl rfl (acont_slq (m:=[s1.1]) (o:=true) fkI rfl rfl) rfl (fkI.fst _ _) e8)) ?_
      refine rl.run 1 rfl (rl.done (RW.reg (rl.run 3 rfl (rl.done ?_))))
      cases h21
      exact hB1 _ rfl _ _ (Gh.ren0 [0,3] (.cells rfl rfl (.keep (ekS.rlst) (.keep (ek_TWrite.rlst) (.keep .int (.keep (ek_TSeg.rlst) (.keep .int (.keep .int (.keep .int (.keep .int .nil)))))))) (.same rfl (ekI.fref _ _) .nil)) rfl (.cons rfl (.ptr rfl) (.cons rfl (.slq rfl rfl) (.cons rfl (.dat .int) .nil))))
 ·intro y2 hC
  subst hC
  refine RW.sreg (rl.run 2 rfl (rl.done (RW.ret ?_)))
  cases h2
  exact RRet.mk rfl (OutR.ownq ekI rfl rfl) (by first | decide | simp)
set_option maxHeartbeats 2000000 in
theorem law_spec_l09Open_w2 {x0 : TLog} {x1 : Int} {r : Bool × TLog} (hF : F_spec_l09Open_w2 x0 x1 = some r) : ACalls Try.prog 0 135 [.ptr 0 0,.j x1] [some ⟨[.lst true 1 (fl (encS true) x0.Disk.Sectors) x0.Disk.Sectors.length,.lst true 2 (fl (enc_TWrite true) x0.Disk.Cache) x0.Disk.Cache.length,.j x0.Segs,.nils,.j x0.NextGen,.j x0.NextSeq,.j x0.Stamp,.j x0.NextValid],0⟩] (.bool r.1) [some ⟨[.lst true 1 (fl (encS true) r.2.Disk.Sectors) r.2.Disk.Sectors.length,.lst true 2 (fl (enc_TWrite true) r.2.Disk.Cache) r.2.Disk.Cache.length,.j r.2.Segs,.lst true 4 (fl (enc_TSeg true) r.2.Used) r.2.Used.length,.j r.2.NextGen,.j r.2.NextSeq,.j r.2.Stamp,.j r.2.NextValid],0⟩]:=by
 refine ACalls.of_s k_spec_l09Open rfl ?_
 unfold F_spec_l09Open_w2 at hF
 refine RW.gh (Gh.expose (b:=0) (j:=0) rfl rfl (by decide) (ekS.fown _)) ?_
 refine RW.gh (Gh.expose (b:=0) (j:=1) rfl rfl (by decide) (ek_TWrite.fown _)) ?_
 refine RW.sreg (rl.run 1 rfl (rl.done (RW.sreg (rl.run 3 rfl ?_))))
 obtain ⟨v1,e1,h1⟩:=bindS hF
 refine rl.call rfl rfl rfl (CallW.val (r':=L_I v1) ok_spec_FreeSegs (law_spec_FreeSegs e1) (.cons (DFL.agg (.cons (.slq ekS rfl rfl) (.cons (.slq ek_TWrite rfl rfl) (.cons .int (.cons (.nils (enc:=enc_TSeg)) (.cons .int (.cons .int (.cons .int (.cons .int .nil))))))))) .nil) (ekI.fflag _).lst ?_)
 refine rl.run 1 rfl (rl.done (RW.seq (RW.seq ?_)))
 obtain ⟨y2,ey2,h2⟩:=bindS h1
 refine RW.cutq (σ:=Bool) (fun y2=>[(0,.ptr 0 0),(5,L_I v1),(21,.bool y2)]) (fun y2=>[some ⟨[.sl 1 0 x0.Disk.Sectors.length,.sl 2 0 x0.Disk.Cache.length,.j x0.Segs,.nils,.j x0.NextGen,.j x0.NextSeq,.j x0.Stamp,.j x0.NextValid],0⟩,some ⟨fl (encS true) x0.Disk.Sectors,1⟩,some ⟨fl (enc_TWrite true) x0.Disk.Cache,2⟩]) (fun y=>y2 = y) (fun _ _ _ _ g h=>RW.gh g h) ?_ ?_
 ·refine RW.reg ?_
  refine rl.run 1 rfl ?_
  refine rl.gen rfl rfl fun b hb=>?_
  cases b
  ·have h3:=iteBF ey2 hb
   refine rl.run 4 rfl ?_
   refine rl.gen rfl rfl fun b hb=>?_
   cases b
   ·have h4:=iteBF h3 hb
    refine rl.run 1 rfl (rl.done ?_)
    cases h4
    exact ⟨_,rfl,(Gh.renN [0,1,2] (.cells rfl rfl (.slq rfl rfl (.slq rfl rfl (.keep .int (.keep .nils (.keep .int (.keep .int (.keep .int (.keep .int .nil)))))))) (.same rfl (ekS.fref _ _) (.same rfl (ek_TWrite.fref _ _) .nil))) rfl rfl rfl (.cons rfl (.ptr rfl) (.cons rfl (.dat (ekI.rlst)) (.cons rfl (.dat .bool) .nil))))⟩
   ·have h5:=iteBT h3 hb
    refine rl.run 1 rfl (rl.done ?_)
    cases h5
    exact ⟨_,rfl,(Gh.renN [0,1,2] (.cells rfl rfl (.slq rfl rfl (.slq rfl rfl (.keep .int (.keep .nils (.keep .int (.keep .int (.keep .int (.keep .int .nil)))))))) (.same rfl (ekS.fref _ _) (.same rfl (ek_TWrite.fref _ _) .nil))) rfl rfl rfl (.cons rfl (.ptr rfl) (.cons rfl (.dat (ekI.rlst)) (.cons rfl (.dat .bool) .nil))))⟩
  ·have h6:=iteBT ey2 hb
   refine rl.run 6 rfl (rl.done ?_)
   cases h6
   exact ⟨_,rfl,(Gh.renN [0,1,2] (.cells rfl rfl (.slq rfl rfl (.slq rfl rfl (.keep .int (.keep .nils (.keep .int (.keep .int (.keep .int (.keep .int .nil)))))))) (.same rfl (ekS.fref _ _) (.same rfl (ek_TWrite.fref _ _) .nil))) rfl rfl rfl (.cons rfl (.ptr rfl) (.cons rfl (.dat (ekI.rlst)) (.cons rfl (.dat .bool) .nil))))⟩
 ·intro y hC
  subst hC
  cases hb : y2
  ·have h7:=iteBF h2 hb
   refine RW.cond_f rfl (RW.skip (RW.sreg (rl.run 5 rfl ?_)))
   obtain ⟨v3,e3,h8⟩:=bindS h7
   refine rl.call rfl rfl rfl (CallW.val (r':=.tup [.str v3.1,.bool v3.2]) ok_spec_FrameText (law_spec_FrameText e3) (.cons (DFL.agg (.cons .int (.cons .int (.cons .str .nil)))) .nil) (FlL.tup (.cons .refl (.cons .refl .nil))) ?_)
   refine rl.run 5 rfl (rl.done (RW.sdrw (rdraw.op rfl rfl (rdraw.op rfl rfl (rdraw.op rfl rfl (rdraw.op rfl rfl (rdraw.op rfl rfl ?_)))))))
   obtain ⟨v4,e4,h9⟩:=bindS h8
   refine rdraw.op rfl (x_ia_lst (enc:=encI) (o:=false) rfl rfl rfl e4) ?_
   refine rdraw.op rfl (x_ld_el (off':=0) ekI rfl e4 rfl rfl rfl) ?_
   refine rdraw.op rfl rfl ?_
   obtain ⟨v5,e5,h10⟩:=bindS h9
   refine rdraw.call rfl rfl rfl (CallW.val (r':=.tup [.agg (enc_TDisk false v5.1),.bool v5.2]) ok_spec_SegWrite (law_spec_SegWrite e5) (.cons (DFL.agg (.cons (.slq ekS rfl rfl) (.cons (.slq ek_TWrite rfl rfl) .nil))) (.cons .int (.cons .int (.cons .str .nil)))) (FlL.tup (.cons (ek_TDisk.flag _).agg (.cons .refl .nil))) ⟨rfl,?_⟩)
   refine rdraw.op rfl rfl (rdraw.op rfl rfl (rdraw.op rfl rfl ?_))
   refine rdraw.chnB rfl rfl (.here (.rx rfl) (.here (.rx rfl) (.here (.rx rfl) (.here (.cl rfl rfl (CallW.val (r':=.tup [.agg (enc_TDisk false v5.1),.bool v5.2]) ok_spec_SegWrite (law_spec_SegWrite e5) (.cons (DFL.agg (.cons (.slq ekS rfl rfl) (.cons (.slq ek_TWrite rfl rfl) .nil))) (.cons .int (.cons .int (.cons .str .nil)))) (FlL.tup (.cons (ek_TDisk.flag _).agg (.cons .refl .nil))) ⟨rfl,rfl⟩)) (.here (.rx rfl) (.here (.rx (x_ld_el (off':=0) ekI rfl e4 rfl rfl rfl)) (.here (.rx (x_ia_lst (enc:=encI) (o:=false) rfl rfl rfl e4)) (.here (.rx rfl) (.here (.rx rfl) (.here (.rx rfl) (.here (.rx rfl) (.here (.rx rfl) .nil)))))))))))) ?_
   refine rdraw.chnB rfl rfl (.here (.rx rfl) (.skip rfl (.skip rfl (.skip rfl (.skip rfl (.skip rfl (.skip rfl (.skip rfl (.skip rfl (.skip rfl (.skip rfl (.skip rfl .nil)))))))))))) ?_
   refine rdraw.op rfl rfl (rdraw.done ?_)
   refine RW.kp [0,5,6,7,8,9] [(0,.ptr 0 0),(5,L_I v1),(6,.str v3.1),(7,.bool v3.2),(8,.ptr 3 0),(9,.bool v5.2)] [some ⟨[.sl 1 0 x0.Disk.Sectors.length,.sl 2 0 x0.Disk.Cache.length,.j x0.Segs,.nils,.j x0.NextGen,.j x0.NextSeq,.j x0.Stamp,.j x0.NextValid],0⟩,some ⟨fl (encS true) x0.Disk.Sectors,1⟩,some ⟨fl (enc_TWrite true) x0.Disk.Cache,2⟩,some ⟨[L_S v5.1.Sectors,L_TWrite v5.1.Cache],0⟩] rfl rfl ?_
   refine RW.seq (RW.seq ?_)
   obtain ⟨y6,ey6,h11⟩:=bindS h10
   refine RW.cutq (σ:=Bool) (fun y6=>[(0,.ptr 0 0),(5,L_I v1),(6,.str v3.1),(8,.ptr 1 0),(55,.bool y6)]) (fun y6=>[some ⟨[.sl 2 0 x0.Disk.Sectors.length,.sl 3 0 x0.Disk.Cache.length,.j x0.Segs,.nils,.j x0.NextGen,.j x0.NextSeq,.j x0.Stamp,.j x0.NextValid],0⟩,some ⟨[L_S v5.1.Sectors,L_TWrite v5.1.Cache],0⟩,some ⟨fl (encS true) x0.Disk.Sectors,1⟩,some ⟨fl (enc_TWrite true) x0.Disk.Cache,2⟩]) (fun y=>y6 = y) (fun _ _ _ _ g h=>RW.gh g h) ?_ ?_
   ·refine RW.reg ?_
    refine rl.run 3 rfl ?_
    cases hb : (!v3.2)
    ·have h12:=iteBF ey6 hb
     refine rl.run 4 rfl ?_
     cases hb : (!v5.2)
     ·have h13:=iteBF h12 hb
      refine rl.run 4 rfl ?_
      refine rl.gen rfl rfl fun b hb=>?_
      cases b
      ·have h14:=iteBF h13 hb
       refine rl.run 1 rfl (rl.done ?_)
       cases h14
       exact ⟨_,rfl,(Gh.renN [0,3,1,2] (.cells rfl rfl (.slq rfl rfl (.slq rfl rfl (.keep .int (.keep .nils (.keep .int (.keep .int (.keep .int (.keep .int .nil)))))))) (.cells rfl rfl (.keep (ekS.rlst) (.keep (ek_TWrite.rlst) .nil)) (.same rfl (ekS.fref _ _) (.same rfl (ek_TWrite.fref _ _) .nil)))) rfl rfl rfl (.cons rfl (.ptr rfl) (.cons rfl (.dat (ekI.rlst)) (.cons rfl (.dat .str) (.cons rfl (.ptr rfl) (.cons rfl (.dat .bool) .nil))))))⟩
      ·have h15:=iteBT h13 hb
       refine rl.run 1 rfl (rl.done ?_)
       cases h15
       exact ⟨_,rfl,(Gh.renN [0,3,1,2] (.cells rfl rfl (.slq rfl rfl (.slq rfl rfl (.keep .int (.keep .nils (.keep .int (.keep .int (.keep .int (.keep .int .nil)))))))) (.cells rfl rfl (.keep (ekS.rlst) (.keep (ek_TWrite.rlst) .nil)) (.same rfl (ekS.fref _ _) (.same rfl (ek_TWrite.fref _ _) .nil)))) rfl rfl rfl (.cons rfl (.ptr rfl) (.cons rfl (.dat (ekI.rlst)) (.cons rfl (.dat .str) (.cons rfl (.ptr rfl) (.cons rfl (.dat .bool) .nil))))))⟩
     ·have h16:=iteBT h12 hb
      refine rl.run 6 rfl (rl.done ?_)
      cases h16
      exact ⟨_,rfl,(Gh.renN [0,3,1,2] (.cells rfl rfl (.slq rfl rfl (.slq rfl rfl (.keep .int (.keep .nils (.keep .int (.keep .int (.keep .int (.keep .int .nil)))))))) (.cells rfl rfl (.keep (ekS.rlst) (.keep (ek_TWrite.rlst) .nil)) (.same rfl (ekS.fref _ _) (.same rfl (ek_TWrite.fref _ _) .nil)))) rfl rfl rfl (.cons rfl (.ptr rfl) (.cons rfl (.dat (ekI.rlst)) (.cons rfl (.dat .str) (.cons rfl (.ptr rfl) (.cons rfl (.dat .bool) .nil))))))⟩
    ·have h17:=iteBT ey6 hb
     refine rl.run 10 rfl (rl.done ?_)
     cases h17
     exact ⟨_,rfl,(Gh.renN [0,3,1,2] (.cells rfl rfl (.slq rfl rfl (.slq rfl rfl (.keep .int (.keep .nils (.keep .int (.keep .int (.keep .int (.keep .int .nil)))))))) (.cells rfl rfl (.keep (ekS.rlst) (.keep (ek_TWrite.rlst) .nil)) (.same rfl (ekS.fref _ _) (.same rfl (ek_TWrite.fref _ _) .nil)))) rfl rfl rfl (.cons rfl (.ptr rfl) (.cons rfl (.dat (ekI.rlst)) (.cons rfl (.dat .str) (.cons rfl (.ptr rfl) (.cons rfl (.dat .bool) .nil))))))⟩
   ·intro y hC
    subst hC
    cases hb : y6
    ·have h18:=iteBF h11 hb
     refine RW.cond_f rfl (RW.skip (RW.sreg (rl.run 2 rfl ?_)))
     obtain ⟨v7,e7,h19⟩:=bindS h18
     refine rl.call rfl rfl rfl (CallW.own (r':=.agg [.sl 4 0 v7.Sectors.length,.sl 5 0 v7.Cache.length]) (H':=[some ⟨[.sl 2 0 x0.Disk.Sectors.length,.sl 3 0 x0.Disk.Cache.length,.j x0.Segs,.nils,.j x0.NextGen,.j x0.NextSeq,.j x0.Stamp,.j x0.NextValid],0⟩,some ⟨[L_S v5.1.Sectors,L_TWrite v5.1.Cache],0⟩,some ⟨fl (encS true) x0.Disk.Sectors,1⟩,some ⟨fl (enc_TWrite true) x0.Disk.Cache,2⟩,some ⟨fl (encS true) v7.Sectors,1⟩,some ⟨fl (enc_TWrite true) v7.Cache,2⟩]) ok_spec_FlushDisk (law_spec_FlushDisk e7) (.cons (DFL.agg (.cons (.lst ekS) (.cons (.lst ek_TWrite) .nil))) .nil) (ek_TDisk.own _) rfl ?_)
     refine rl.run 3 rfl (rl.done (RW.sdrw (rdraw.op rfl rfl (rdraw.op rfl rfl (rdraw.op rfl rfl (rdraw.op rfl rfl (rdraw.op rfl rfl (rdraw.op rfl rfl ?_))))))))
     refine rdraw.chnB rfl rfl (.skip rfl (.skip rfl (.skip rfl (.skip rfl (.skip rfl (.here (.rx rfl) .nil)))))) ?_
     refine rdraw.opA rfl rfl (.here (.rx rfl) .nil) ?_
     obtain ⟨v8,e8,h20⟩:=bindS h19
     refine rdraw.opA rfl (x_ia_lst (enc:=encI) (o:=false) rfl rfl rfl e8) (.here (.rx (x_ia_lst (enc:=encI) (o:=false) rfl rfl rfl e8)) .nil) ?_
     refine rdraw.opA rfl (x_ld_el (off':=0) ekI rfl e8 rfl rfl rfl) (.here (.rx (x_ld_el (off':=0) ekI rfl e8 rfl rfl rfl)) .nil) ?_
     refine rdraw.opA rfl rfl (.here (.rx rfl) .nil) ?_
     refine rdraw.opA rfl rfl (.here (.rx rfl) .nil) ?_
     refine rdraw.opA rfl rfl (.here (.rx rfl) .nil) ?_
     refine rdraw.opA rfl rfl (.here (.rx rfl) .nil) ?_
     refine rdraw.opA rfl rfl (.here (.rx rfl) .nil) ?_
     refine rdraw.opA rfl rfl (.here (.rx rfl) .nil) ?_
     refine rdraw.opA rfl rfl (.here (.rx rfl) .nil) ?_
     refine rdraw.litA (u:=.lst false 4 [.j v8,.j x0.NextGen,.j (v3.1.length : Int),.nils] 1) rfl rfl (Lit.mk rfl rfl) (.here (.lit rfl (Lit.mk rfl rfl)) .nil) ?_
     obtain ⟨v9,e9,h21⟩:=bindS h20
     refine rdraw.chnB rfl (x_app rfl rfl (rapp_raw ek_TSeg rfl rfl rfl e9)) (.skip rfl (.skip rfl (.skip rfl (.skip rfl (.skip rfl (.skip rfl (.skip rfl (.skip rfl (.skip rfl (.skip rfl (.skip rfl (.skip rfl (.skip rfl (.skip rfl (.skip rfl (.skip rfl (.here (.rx rfl) .nil))))))))))))))))) ?_
     refine rdraw.op rfl rfl (rdraw.op rfl rfl ?_)
     refine rdraw.chn rfl rfl ?_
     refine rdraw.done ?_
     refine RW.gh (Gh.own0 (b:=7) rfl (NL.append NL.refl (NL.append (.same (.same (.same (.nils (es:=9) .nil)))) NL.refl))) ?_
     refine RW.gh (Gh.blk (b:=7) rfl (raw_app (enc:=enc_TSeg) e9 rfl)) ?_
     refine RW.kp [0] [(0,.ptr 0 0)] [some ⟨[.sl 4 0 v7.Sectors.length,.sl 5 0 v7.Cache.length,.j x0.Segs,.sl 7 0 v9.length,.j x0.NextGen,.j x0.NextSeq,.j x0.Stamp,.j x0.NextValid],0⟩,some ⟨[L_S v5.1.Sectors,L_TWrite v5.1.Cache],0⟩,some ⟨fl (encS true) x0.Disk.Sectors,1⟩,some ⟨fl (enc_TWrite true) x0.Disk.Cache,2⟩,some ⟨fl (encS true) v7.Sectors,1⟩,some ⟨fl (enc_TWrite true) v7.Cache,2⟩,none,some ⟨fl (enc_TSeg true) v9,4⟩] rfl rfl ?_
     refine RW.sreg (rl.run 8 rfl (rl.done (RW.sreg (rl.run 1 rfl (rl.done (RW.ret ?_))))))
     cases h21
     exact RRetS.mk rfl .bool (Gh.trans (Gh.absorbq (b:=0) (j:=0) (m:=4) rfl rfl rfl (by decide) (by decide) rfl (ekS.flen true _) (ekS.fown _)) (Gh.trans (Gh.absorbq (b:=0) (j:=1) (m:=5) rfl rfl rfl (by decide) (by decide) rfl (ek_TWrite.flen true _) (ek_TWrite.fown _)) (Gh.trans (Gh.absorbq (b:=0) (j:=3) (m:=7) rfl rfl rfl (by decide) (by decide) rfl (ek_TSeg.flen true _) (ek_TSeg.fown _)) (Gh.renN [0] (.cells rfl rfl (.keep (ekS.rlst) (.keep (ek_TWrite.rlst) (.keep .int (.keep (ek_TSeg.rlst) (.keep .int (.keep .int (.keep .int (.keep .int .nil)))))))) .nil) rfl rfl rfl .nil))))
    ·have h22:=iteBT h11 hb
     refine RW.cond_t rfl (RW.sreg (rl.run 1 rfl (rl.done (RW.ret ?_))))
     cases h22
     exact RRetS.mk rfl .bool (Gh.trans (Gh.own0 (b:=0) rfl (.same (.same (.same (.nils (.same (.same (.same (.same .nil))))))))) (Gh.trans (Gh.absorbq (b:=0) (j:=0) (m:=2) rfl rfl rfl (by decide) (by decide) rfl (ekS.flen true _) (ekS.fown _)) (Gh.trans (Gh.absorbq (b:=0) (j:=1) (m:=3) rfl rfl rfl (by decide) (by decide) rfl (ek_TWrite.flen true _) (ek_TWrite.fown _)) (Gh.renN [0] (.cells rfl rfl (.keep (ekS.rlst) (.keep (ek_TWrite.rlst) (.keep .int (.keep (ek_TSeg.rlst (o:=true) (l:=[])) (.keep .int (.keep .int (.keep .int (.keep .int .nil)))))))) .nil) rfl rfl rfl .nil))))
  ·have h23:=iteBT h2 hb
   refine RW.cond_t rfl (RW.sreg (rl.run 1 rfl (rl.done (RW.ret ?_))))
   cases h23
   exact RRetS.mk rfl .bool (Gh.trans (Gh.own0 (b:=0) rfl (.same (.same (.same (.nils (.same (.same (.same (.same .nil))))))))) (Gh.trans (Gh.absorbq (b:=0) (j:=0) (m:=1) rfl rfl rfl (by decide) (by decide) rfl (ekS.flen true _) (ekS.fown _)) (Gh.trans (Gh.absorbq (b:=0) (j:=1) (m:=2) rfl rfl rfl (by decide) (by decide) rfl (ek_TWrite.flen true _) (ek_TWrite.fown _)) (Gh.renN [0] (.cells rfl rfl (.keep (ekS.rlst) (.keep (ek_TWrite.rlst) (.keep .int (.keep (ek_TSeg.rlst (o:=true) (l:=[])) (.keep .int (.keep .int (.keep .int (.keep .int .nil)))))))) .nil) rfl rfl rfl .nil))))
theorem law_spec_WriteCheck {x0 : TDisk} {x1 : TCheck} {r : TDisk × Bool} (hF : F_spec_WriteCheck x0 x1 = some r) : PCalls Try.prog 136 [.agg (enc_TDisk false x0),.agg (enc_TCheck false x1)] (.tup [.agg (enc_TDisk true r.1),.bool r.2]):=by
 refine PCalls.of_r k_spec_WriteCheck rfl ?_
 unfold F_spec_WriteCheck at hF
 refine RW.sreg (rl.run 4 rfl (rl.done (RW.sreg (rl.run 1 rfl ?_))))
 obtain ⟨v1,e1,h1⟩:=bindS hF
 refine rl.call rfl rfl rfl (CallW.val (r':=.tup [.str v1.1,.bool v1.2]) ok_spec_CheckText (law_spec_CheckText e1) (.cons (DFL.agg (.cons .int (.cons .int (.cons .int (.cons .int (.cons (.lst ek_TRef) .nil)))))) .nil) (FlL.tup (.cons .refl (.cons .refl .nil))) ?_)
 refine rl.run 5 rfl (rl.done (RW.seq (RW.seq ?_)))
 obtain ⟨y2,ey2,h2⟩:=bindS h1
 refine RW.cutq (σ:=Bool) (fun y2=>[(2,.ptr 0 0),(3,.ptr 1 0),(4,.ptr 2 0),(6,.str v1.1),(21,.bool y2)]) (fun y2=>[some ⟨[L_S x0.Sectors,L_TWrite x0.Cache],0⟩,some ⟨[.j x1.Stamp,.j x1.NextGen,.j x1.NextSeq,.j x1.NextValid,L_TRef x1.Refs],0⟩,some ⟨[.nils,.nils],0⟩]) (fun y=>y2 = y) (fun _ _ _ _ g h=>RW.gh g h) ?_ ?_
 ·refine RW.reg ?_
  refine rl.run 3 rfl ?_
  cases hb : (!v1.2)
  ·have h3:=iteBF ey2 hb
   refine rl.run 1 rfl ?_
   obtain ⟨v3,e3,h4⟩:=bindS h3
   refine rl.call rfl rfl rfl (CallW.val (r':=.bool v3) ok_spec_DiskOk (law_spec_DiskOk e3) (.cons (DFL.agg (.cons (.lst ekS) (.cons (.lst ek_TWrite) .nil))) .nil) .refl ?_)
   cases hb : v3
   ·have h5:=iteBF h4 hb
    refine rl.run 2 rfl (rl.done ?_)
    cases h5
    exact ⟨_,rfl,(Gh.ren0 [0,1,2] (.cells rfl rfl (.keep (ekS.rlst) (.keep (ek_TWrite.rlst) .nil)) (.cells rfl rfl (.keep .int (.keep .int (.keep .int (.keep .int (.keep (ek_TRef.rlst) .nil))))) (.cells rfl rfl (.keep .nils (.keep .nils .nil)) .nil))) rfl (.cons rfl (.ptr rfl) (.cons rfl (.ptr rfl) (.cons rfl (.ptr rfl) (.cons rfl (.dat .str) (.cons rfl (.dat .bool) .nil))))))⟩
   ·have h6:=iteBT h4 hb
    refine rl.run 2 rfl (rl.done ?_)
    cases h6
    exact ⟨_,rfl,(Gh.ren0 [0,1,2] (.cells rfl rfl (.keep (ekS.rlst) (.keep (ek_TWrite.rlst) .nil)) (.cells rfl rfl (.keep .int (.keep .int (.keep .int (.keep .int (.keep (ek_TRef.rlst) .nil))))) (.cells rfl rfl (.keep .nils (.keep .nils .nil)) .nil))) rfl (.cons rfl (.ptr rfl) (.cons rfl (.ptr rfl) (.cons rfl (.ptr rfl) (.cons rfl (.dat .str) (.cons rfl (.dat .bool) .nil))))))⟩
  ·have h7:=iteBT ey2 hb
   refine rl.run 4 rfl (rl.done ?_)
   cases h7
   exact ⟨_,rfl,(Gh.ren0 [0,1,2] (.cells rfl rfl (.keep (ekS.rlst) (.keep (ek_TWrite.rlst) .nil)) (.cells rfl rfl (.keep .int (.keep .int (.keep .int (.keep .int (.keep (ek_TRef.rlst) .nil))))) (.cells rfl rfl (.keep .nils (.keep .nils .nil)) .nil))) rfl (.cons rfl (.ptr rfl) (.cons rfl (.ptr rfl) (.cons rfl (.ptr rfl) (.cons rfl (.dat .str) (.cons rfl (.dat .bool) .nil))))))⟩
 ·intro y hC
  subst hC
  cases hb : y2
  ·have h8:=iteBF h2 hb
   refine RW.cond_f rfl (RW.skip (RW.sreg (rl.run 6 rfl ?_)))
   obtain ⟨v4,e4,h9⟩:=bindS h8
   refine rl.call rfl rfl rfl (CallW.val (r':=.tup [.agg (enc_TDisk false v4.1),.bool v4.2]) ok_spec_WriteBytes (law_spec_WriteBytes e4) (.cons (DFL.agg (.cons (.lst ekS) (.cons (.lst ek_TWrite) .nil))) (.cons .int (.cons .int (.cons .str .nil)))) (FlL.tup (.cons (ek_TDisk.flag _).agg (.cons .refl .nil))) ?_)
   refine rl.run 6 rfl (rl.done ?_)
   refine RW.kp [2,4,8,9] [(2,.ptr 0 0),(4,.ptr 2 0),(8,.ptr 3 0),(9,.bool v4.2)] [some ⟨[L_S x0.Sectors,L_TWrite x0.Cache],0⟩,some ⟨[.j x1.Stamp,.j x1.NextGen,.j x1.NextSeq,.j x1.NextValid,L_TRef x1.Refs],0⟩,some ⟨[.nils,.nils],0⟩,some ⟨[L_S v4.1.Sectors,L_TWrite v4.1.Cache],0⟩] rfl rfl ?_
   refine RW.seq (RW.sreg (rl.run 2 rfl (rl.done ?_)))
   cases hb : (!v4.2)
   ·have h10:=iteBF h9 hb
    refine RW.cond_f rfl (RW.skip (RW.sreg (rl.run 1 rfl ?_)))
    obtain ⟨v5,e5,h11⟩:=bindS h10
    refine rl.call rfl rfl rfl (CallW.own (r':=.agg [.sl 4 0 v5.Sectors.length,.sl 5 0 v5.Cache.length]) (H':=[some ⟨[L_S x0.Sectors,L_TWrite x0.Cache],0⟩,some ⟨[.j x1.Stamp,.j x1.NextGen,.j x1.NextSeq,.j x1.NextValid,L_TRef x1.Refs],0⟩,some ⟨[.nils,.nils],0⟩,some ⟨[L_S v4.1.Sectors,L_TWrite v4.1.Cache],0⟩,some ⟨fl (encS true) v5.Sectors,1⟩,some ⟨fl (enc_TWrite true) v5.Cache,2⟩]) ok_spec_FlushDisk (law_spec_FlushDisk e5) (.cons (DFL.agg (.cons (.lst ekS) (.cons (.lst ek_TWrite) .nil))) .nil) (ek_TDisk.own _) rfl ?_)
    refine rl.run 2 rfl (rl.done (RW.ret ?_))
    cases h11
    exact RRet.mk rfl (OutT.tup (.cons (OutL.agg (.cons (OutR.ownq ekS rfl rfl) rfl (.cons (OutR.ownq ek_TWrite rfl rfl) rfl .nil))) (.cons .bool .nil))) (by first | decide | simp)
   ·have h12:=iteBT h9 hb
    refine RW.cond_t rfl (RW.sreg (rl.run 1 rfl ?_))
    obtain ⟨v6,e6,h13⟩:=bindS h12
    refine rl.call rfl rfl rfl (CallW.own (r':=.agg [.sl 4 0 v6.Sectors.length,.sl 5 0 v6.Cache.length]) (H':=[some ⟨[L_S x0.Sectors,L_TWrite x0.Cache],0⟩,some ⟨[.j x1.Stamp,.j x1.NextGen,.j x1.NextSeq,.j x1.NextValid,L_TRef x1.Refs],0⟩,some ⟨[.nils,.nils],0⟩,some ⟨[L_S v4.1.Sectors,L_TWrite v4.1.Cache],0⟩,some ⟨fl (encS true) v6.Sectors,1⟩,some ⟨fl (enc_TWrite true) v6.Cache,2⟩]) ok_spec_l03Copy (law_spec_l03Copy e6) (.cons (DFL.agg (.cons (.lst ekS) (.cons (.lst ek_TWrite) .nil))) .nil) (ek_TDisk.own _) rfl ?_)
    refine rl.run 2 rfl (rl.done (RW.ret ?_))
    cases h13
    exact RRet.mk rfl (OutT.tup (.cons (OutL.agg (.cons (OutR.ownq ekS rfl rfl) rfl (.cons (OutR.ownq ek_TWrite rfl rfl) rfl .nil))) (.cons .bool .nil))) (by first | decide | simp)
  ·have h14:=iteBT h2 hb
   refine RW.cond_t rfl (RW.sreg (rl.run 1 rfl ?_))
   obtain ⟨v7,e7,h15⟩:=bindS h14
   refine rl.call rfl rfl rfl (CallW.own (r':=.agg [.sl 3 0 v7.Sectors.length,.sl 4 0 v7.Cache.length]) (H':=[some ⟨[L_S x0.Sectors,L_TWrite x0.Cache],0⟩,some ⟨[.j x1.Stamp,.j x1.NextGen,.j x1.NextSeq,.j x1.NextValid,L_TRef x1.Refs],0⟩,some ⟨[.nils,.nils],0⟩,some ⟨fl (encS true) v7.Sectors,1⟩,some ⟨fl (enc_TWrite true) v7.Cache,2⟩]) ok_spec_l03Copy (law_spec_l03Copy e7) (.cons (DFL.agg (.cons (.lst ekS) (.cons (.lst ek_TWrite) .nil))) .nil) (ek_TDisk.own _) rfl ?_)
   refine rl.run 2 rfl (rl.done (RW.ret ?_))
   cases h15
   exact RRet.mk rfl (OutT.tup (.cons (OutL.agg (.cons (OutR.ownq ekS rfl rfl) rfl (.cons (OutR.ownq ek_TWrite rfl rfl) rfl .nil))) (.cons .bool .nil))) (by first | decide | simp)
set_option maxHeartbeats 2000000 in
theorem law_spec_FormatDisk {x0 : Int} {r : TLog × Bool} (hF : F_spec_FormatDisk x0 = some r) : PCalls Try.prog 94 [.j x0] (.tup [.agg (enc_TLog true r.1),.bool r.2]):=by
 refine PCalls.of_r k_spec_FormatDisk rfl ?_
 unfold F_spec_FormatDisk at hF
 refine RW.sreg (rl.run 2 rfl (rl.done (RW.seq (RW.sreg (rl.run 1 rfl ?_)))))
 obtain ⟨v1,e1,h1⟩:=bindS hF
 refine rl.call rfl rfl rfl (CallW.val (r':=.bool v1) ok_spec_l01In (law_spec_l01In e1) (.cons .int (.cons .int (.cons .int .nil))) .refl ?_)
 cases hb : v1
 ·have h2:=iteBF h1 hb
  refine rl.run 1 rfl (rl.done (RW.cond_t rfl (RW.sreg (rl.run 3 rfl (rl.done (RW.ret ?_))))))
  cases h2
  exact RRet.mk rfl (OutT.tup (.cons (OutL.agg (.cons (OutR.nil (enc:=encS)) rfl (.cons (OutR.nil (enc:=enc_TWrite)) rfl (.cons .int rfl (.cons (OutR.nil (enc:=enc_TSeg)) rfl (.cons .int rfl (.cons .int rfl (.cons .int rfl (.cons .int rfl .nil))))))))) (.cons .bool .nil))) (by first | decide | simp)
 ·have h3:=iteBT h1 hb
  refine rl.run 1 rfl (rl.done (RW.cond_f rfl (RW.skip (RW.sreg (rl.run 3 rfl ?_)))))
  obtain ⟨v2,e2,h4⟩:=bindS h3
  refine rl.call rfl rfl rfl (CallW.own (r':=.tup [.agg [.sl 1 0 v2.1.Sectors.length,.sl 2 0 v2.1.Cache.length],.bool v2.2]) (H':=[some ⟨[.nils,.nils,.j 0,.nils,.j 0,.j 0,.j 0,.j 0],0⟩,some ⟨fl (encS true) v2.1.Sectors,1⟩,some ⟨fl (enc_TWrite true) v2.1.Cache,2⟩]) ok_spec_DiskNew (law_spec_DiskNew e2) (.cons .int .nil) (fac (ek_TDisk.own _) (fac .bool fan)) rfl ?_)
  refine rl.run 6 rfl (rl.done ?_)
  refine RW.kp [0,2,4] [(0,.j x0),(2,.ptr 0 0),(4,.ptr 3 0)] [some ⟨[.nils,.nils,.j 0,.nils,.j 0,.j 0,.j 0,.j 0],0⟩,some ⟨fl (encS true) v2.1.Sectors,1⟩,some ⟨fl (enc_TWrite true) v2.1.Cache,2⟩,some ⟨[.sl 1 0 v2.1.Sectors.length,.sl 2 0 v2.1.Cache.length],0⟩] rfl rfl ?_
  refine RW.sreg (rl.run 5 rfl (rl.done (RW.seq ?_)))
  refine RW.gh (Gh.absorbq (b:=4) (j:=0) (m:=1) rfl rfl rfl (by decide) (by decide) rfl (ekS.flen true _) (ekS.fown _)) ?_
  refine RW.gh (Gh.absorbq (b:=4) (j:=1) (m:=2) rfl rfl rfl (by decide) (by decide) rfl (ek_TWrite.flen true _) (ek_TWrite.fown _)) ?_
  refine RW.sreg ?_
  obtain ⟨v3,e3,h5⟩:=bindS h4
  refine rl.call rfl rfl rfl (CallW.embW (r0:=.bool v3.1) (H':=[some ⟨[.nils,.nils,.j 0,.nils,.j 0,.j 0,.j 0,.j 0],0⟩,none,none,some ⟨[.sl 1 0 v2.1.Sectors.length,.sl 2 0 v2.1.Cache.length],0⟩,some ⟨[.lst true 1 (fl (encS true) v3.2.Disk.Sectors) v3.2.Disk.Sectors.length,.lst true 2 (fl (enc_TWrite true) v3.2.Disk.Cache) v3.2.Disk.Cache.length,.j v3.2.Segs,.lst true 4 (fl (enc_TSeg true) v3.2.Used) v3.2.Used.length,.j v3.2.NextGen,.j v3.2.NextSeq,.j v3.2.Stamp,.j v3.2.NextValid],0⟩]) [⟨[.lst true 1 (fl (encS true) v2.1.Sectors) v2.1.Sectors.length,.lst true 2 (fl (enc_TWrite true) v2.1.Cache) v2.1.Cache.length,.j x0,.nils,.j 1,.j 1,.j 0,.j 1],0⟩] [⟨[.lst true 1 (fl (encS true) v3.2.Disk.Sectors) v3.2.Disk.Sectors.length,.lst true 2 (fl (enc_TWrite true) v3.2.Disk.Cache) v3.2.Disk.Cache.length,.j v3.2.Segs,.lst true 4 (fl (enc_TSeg true) v3.2.Used) v3.2.Used.length,.j v3.2.NextGen,.j v3.2.NextSeq,.j v3.2.Stamp,.j v3.2.NextValid],0⟩] [4] ok_spec_l09Open (law_spec_l09Open_w2 e3) (.cons rfl (fac (ekS.rlst) (fac (ek_TWrite.rlst) (fac .int (fac .nils (fac .int (fac .int (fac .int (fac .int fan)))))))) (fac (.lst (ekS.fown _)) (fac (.lst (ek_TWrite.fown _)) (fac .int (fac (.lst (ek_TSeg.fown _)) (fac .int (fac .int (fac .int (fac .int fan)))))))) .nil) rfl (.cons (.ptr rfl) (.cons (.dat .int) .nil)) .bool rfl rfl ?_)
  cases hb : v3.1
  ·have h6:=iteBF h5 hb
   refine rl.run 1 rfl (rl.done ?_)
   refine RW.gh (Gh.expose (b:=4) (j:=0) rfl rfl (by decide) (ekS.fown _)) ?_
   refine RW.gh (Gh.expose (b:=4) (j:=1) rfl rfl (by decide) (ek_TWrite.fown _)) ?_
   refine RW.gh (Gh.expose (b:=4) (j:=3) rfl rfl (by decide) (ek_TSeg.fown _)) ?_
   refine RW.kp [2,6,24] [(2,.ptr 0 0),(6,.ptr 4 0),(24,.bool true)] [some ⟨[.nils,.nils,.j 0,.nils,.j 0,.j 0,.j 0,.j 0],0⟩,none,none,some ⟨[.sl 1 0 v2.1.Sectors.length,.sl 2 0 v2.1.Cache.length],0⟩,some ⟨[.sl 5 0 v3.2.Disk.Sectors.length,.sl 6 0 v3.2.Disk.Cache.length,.j v3.2.Segs,.sl 7 0 v3.2.Used.length,.j v3.2.NextGen,.j v3.2.NextSeq,.j v3.2.Stamp,.j v3.2.NextValid],0⟩,some ⟨fl (encS true) v3.2.Disk.Sectors,1⟩,some ⟨fl (enc_TWrite true) v3.2.Disk.Cache,2⟩,some ⟨fl (enc_TSeg true) v3.2.Used,4⟩] rfl rfl ?_
   refine RW.cond_t rfl (RW.sreg (rl.run 3 rfl (rl.done (RW.ret ?_))))
   cases h6
   exact RRet.mk rfl (OutT.tup (.cons (OutL.agg (.cons (OutR.nil (enc:=encS)) rfl (.cons (OutR.nil (enc:=enc_TWrite)) rfl (.cons .int rfl (.cons (OutR.nil (enc:=enc_TSeg)) rfl (.cons .int rfl (.cons .int rfl (.cons .int rfl (.cons .int rfl .nil))))))))) (.cons .bool .nil))) (by first | decide | simp)
  ·have h7:=iteBT h5 hb
   refine rl.run 1 rfl (rl.done ?_)
   refine RW.gh (Gh.expose (b:=4) (j:=0) rfl rfl (by decide) (ekS.fown _)) ?_
   refine RW.gh (Gh.expose (b:=4) (j:=1) rfl rfl (by decide) (ek_TWrite.fown _)) ?_
   refine RW.gh (Gh.expose (b:=4) (j:=3) rfl rfl (by decide) (ek_TSeg.fown _)) ?_
   refine RW.kp [2,6,24] [(2,.ptr 0 0),(6,.ptr 4 0),(24,.bool false)] [some ⟨[.nils,.nils,.j 0,.nils,.j 0,.j 0,.j 0,.j 0],0⟩,none,none,some ⟨[.sl 1 0 v2.1.Sectors.length,.sl 2 0 v2.1.Cache.length],0⟩,some ⟨[.sl 5 0 v3.2.Disk.Sectors.length,.sl 6 0 v3.2.Disk.Cache.length,.j v3.2.Segs,.sl 7 0 v3.2.Used.length,.j v3.2.NextGen,.j v3.2.NextSeq,.j v3.2.Stamp,.j v3.2.NextValid],0⟩,some ⟨fl (encS true) v3.2.Disk.Sectors,1⟩,some ⟨fl (enc_TWrite true) v3.2.Disk.Cache,2⟩,some ⟨fl (enc_TSeg true) v3.2.Used,4⟩] rfl rfl ?_
   refine RW.cond_f rfl (RW.skip ?_)
   refine RW.sdrwF [⟨[.nils,.nils],0⟩] ?_
   refine rdraw.op rfl rfl (rdraw.op rfl rfl (rdraw.op rfl rfl ?_))
   obtain ⟨v4,e4,h8⟩:=bindS h7
   refine rdraw.call rfl rfl rfl (CallW.val (r':=.agg (enc_TCheck false v4)) ok_spec_CheckOf (law_spec_CheckOf e4) (.cons (DFL.agg (.cons (.slq ekS rfl rfl) (.cons (.slq ek_TWrite rfl rfl) (.cons .int (.cons (.slq ek_TSeg rfl rfl) (.cons .int (.cons .int (.cons .int (.cons .int .nil))))))))) .nil) (ek_TCheck.flag _).agg ⟨rfl,?_⟩)
   obtain ⟨v5,e5,h9⟩:=bindS h8
   refine rdraw.ccall rfl rfl rfl (CallW.own (r':=.tup [.agg [.sl 9 0 v5.1.Sectors.length,.sl 10 0 v5.1.Cache.length],.bool v5.2]) (H':=[some ⟨[.nils,.nils,.j 0,.nils,.j 0,.j 0,.j 0,.j 0],0⟩,none,none,some ⟨[.sl 1 0 v2.1.Sectors.length,.sl 2 0 v2.1.Cache.length],0⟩,some ⟨[.sl 5 0 v3.2.Disk.Sectors.length,.sl 6 0 v3.2.Disk.Cache.length,.j v3.2.Segs,.sl 7 0 v3.2.Used.length,.j v3.2.NextGen,.j v3.2.NextSeq,.j v3.2.Stamp,.j v3.2.NextValid],0⟩,some ⟨fl (encS true) v3.2.Disk.Sectors,1⟩,some ⟨fl (enc_TWrite true) v3.2.Disk.Cache,2⟩,some ⟨fl (enc_TSeg true) v3.2.Used,4⟩,some ⟨[.nils,.nils],0⟩,some ⟨fl (encS true) v5.1.Sectors,1⟩,some ⟨fl (enc_TWrite true) v5.1.Cache,2⟩]) ok_spec_WriteCheck (law_spec_WriteCheck e5) (.cons (DFL.agg (.cons (.slq ekS rfl rfl) (.cons (.slq ek_TWrite rfl rfl) .nil))) (.cons (.dat (.agg (ek_TCheck.dat false _))) .nil)) (fac (ek_TDisk.own _) (fac .bool fan)) rfl ?_)
   refine rdraw.op rfl rfl (rdraw.op rfl rfl (rdraw.op rfl rfl ?_))
   refine rdraw.flt rfl (.cons rfl .nil) ?_
   refine rdraw.chnB rfl rfl (.here (.rx rfl) (.skip rfl (.skip rfl (.skip rfl (.skip rfl (.skip rfl (.skip rfl .nil))))))) ?_
   refine rdraw.op rfl rfl (rdraw.done (RW.seq (RW.sreg (rl.run 2 rfl (rl.done ?_)))))
   refine RW.kp [2,6,7,35] [(2,.ptr 0 0),(6,.ptr 4 0),(7,.ptr 8 0),(35,.bool (!v5.2))] [some ⟨[.nils,.nils,.j 0,.nils,.j 0,.j 0,.j 0,.j 0],0⟩,none,none,some ⟨[.sl 1 0 v2.1.Sectors.length,.sl 2 0 v2.1.Cache.length],0⟩,some ⟨[.sl 5 0 v3.2.Disk.Sectors.length,.sl 6 0 v3.2.Disk.Cache.length,.j v3.2.Segs,.sl 7 0 v3.2.Used.length,.j v3.2.NextGen,.j v3.2.NextSeq,.j v3.2.Stamp,.j v3.2.NextValid],0⟩,some ⟨fl (encS true) v3.2.Disk.Sectors,1⟩,some ⟨fl (enc_TWrite true) v3.2.Disk.Cache,2⟩,some ⟨fl (enc_TSeg true) v3.2.Used,4⟩,some ⟨[.sl 9 0 v5.1.Sectors.length,.sl 10 0 v5.1.Cache.length],0⟩,some ⟨fl (encS true) v5.1.Sectors,1⟩,some ⟨fl (enc_TWrite true) v5.1.Cache,2⟩] rfl rfl ?_
   cases hb : (!v5.2)
   ·have h10:=iteBF h9 hb
    refine RW.cond_f rfl (RW.skip (RW.sreg (rl.run 3 rfl (rl.done (RW.sreg (rl.run 2 rfl (rl.done (RW.sreg (rl.run 3 rfl (rl.done (RW.ret ?_)))))))))))
    cases h10
    exact RRet.mk rfl (OutT.tup (.cons (OutL.agg (.cons (OutR.ownq ekS rfl rfl) rfl (.cons (OutR.ownq ek_TWrite rfl rfl) rfl (.cons .int rfl (.cons (OutR.ownq ek_TSeg rfl rfl) rfl (.cons .int rfl (.cons .int rfl (.cons .int rfl (.cons .int rfl .nil))))))))) (.cons .bool .nil))) (by first | decide | simp)
   ·have h11:=iteBT h9 hb
    refine RW.cond_t rfl (RW.sreg (rl.run 3 rfl (rl.done (RW.ret ?_))))
    cases h11
    exact RRet.mk rfl (OutT.tup (.cons (OutL.agg (.cons (OutR.nil (enc:=encS)) rfl (.cons (OutR.nil (enc:=enc_TWrite)) rfl (.cons .int rfl (.cons (OutR.nil (enc:=enc_TSeg)) rfl (.cons .int rfl (.cons .int rfl (.cons .int rfl (.cons .int rfl .nil))))))))) (.cons .bool .nil))) (by first | decide | simp)
theorem law_spec_l01PickInt_w {x0 : TL01Cur} {x1 : List Int} {B0_ o0_ : Nat} {r : Int × TL01Cur} (hF : F_spec_l01PickInt_w x0 x1 = some r) : ACalls Try.prog 0 125 [.ptr 0 0,.sl 1 0 x1.length] [some ⟨[pvB B0_ o0_ x0.mB,.j x0.mI,.j x0.mH],0⟩,some ⟨fl (encI true) x1,1⟩] (.j r.1) [some ⟨[pvB B0_ o0_ x0.mB,.j r.2.mI,.j r.2.mH],0⟩,some ⟨fl (encI true) x1,1⟩]:=by
 refine ACalls.of_s k_spec_l01PickInt rfl ?_
 unfold F_spec_l01PickInt_w at hF
 refine RW.sreg (rl.run 1 rfl (rl.done (RW.sreg (rl.run 4 rfl ?_))))
 obtain ⟨v1,e1,h1⟩:=bindS hF
 refine rl.call rfl rfl rfl (CallW.embN (r0:=.j v1.1) (H':=[some ⟨[pvB B0_ o0_ x0.mB,.j v1.2.mI,.j v1.2.mH],0⟩,some ⟨fl (encI true) x1,1⟩]) [⟨[pvB B0_ o0_ x0.mB,.j x0.mI,.j x0.mH],0⟩] [⟨[pvB B0_ o0_ x0.mB,.j v1.2.mI,.j v1.2.mH],0⟩] [] [0] [pvB B0_ o0_ x0.mB] ok_spec_l01Below (law_spec_l01Below_w e1) (.cons rfl (fac (.pv ekB.rlst) (fac .int (fac .int fan))) (fac (.inr (.head _)) (fac (.inl .int) (fac (.inl .int) fan))) .nil) .nil (.blk 0 0 0 0 0 rfl rfl rfl rfl scalB .nil) rfl (.cons (.ptr rfl) (.cons (.dat .int) .nil)) .int rfl ?_)
 obtain ⟨v2,e2,h2⟩:=bindS h1
 refine rl.op (x_ia_sl rfl rfl rfl rfl e2) ?_
 refine rl.op (x_ld_sl (o:=true) (off':=0) ekI rfl rfl e2 rfl rfl rfl) ?_
 refine rl.run 1 rfl (rl.done (RW.ret ?_))
 cases h2
 exact RRetS.mk rfl .int (Gh.renN [0,1] (.cells rfl rfl (.keep (.pv ekB.rlst) (.keep .int (.keep .int .nil))) (.same rfl (ekI.fref _ _) .nil)) rfl rfl rfl .nil)
theorem law_spec_l01Pick_w {x0 : TL01Cur} {x1 : List (List UInt8)} {B0_ o0_ : Nat} {r : (List UInt8) × TL01Cur} (hF : F_spec_l01Pick_w x0 x1 = some r) : ACalls Try.prog 0 137 [.ptr 0 0,.sl 1 0 x1.length] [some ⟨[pvB B0_ o0_ x0.mB,.j x0.mI,.j x0.mH],0⟩,some ⟨fl (encS true) x1,1⟩] (.str r.1) [some ⟨[pvB B0_ o0_ x0.mB,.j r.2.mI,.j r.2.mH],0⟩,some ⟨fl (encS true) x1,1⟩]:=by
 refine ACalls.of_s k_spec_l01Pick rfl ?_
 unfold F_spec_l01Pick_w at hF
 refine RW.sreg (rl.run 1 rfl (rl.done (RW.sreg (rl.run 4 rfl ?_))))
 obtain ⟨v1,e1,h1⟩:=bindS hF
 refine rl.call rfl rfl rfl (CallW.embN (r0:=.j v1.1) (H':=[some ⟨[pvB B0_ o0_ x0.mB,.j v1.2.mI,.j v1.2.mH],0⟩,some ⟨fl (encS true) x1,1⟩]) [⟨[pvB B0_ o0_ x0.mB,.j x0.mI,.j x0.mH],0⟩] [⟨[pvB B0_ o0_ x0.mB,.j v1.2.mI,.j v1.2.mH],0⟩] [] [0] [pvB B0_ o0_ x0.mB] ok_spec_l01Below (law_spec_l01Below_w e1) (.cons rfl (fac (.pv ekB.rlst) (fac .int (fac .int fan))) (fac (.inr (.head _)) (fac (.inl .int) (fac (.inl .int) fan))) .nil) .nil (.blk 0 0 0 0 0 rfl rfl rfl rfl scalB .nil) rfl (.cons (.ptr rfl) (.cons (.dat .int) .nil)) .int rfl ?_)
 obtain ⟨v2,e2,h2⟩:=bindS h1
 refine rl.op (x_ia_sl rfl rfl rfl rfl e2) ?_
 refine rl.op (x_ld_sl (o:=true) (off':=0) ekS rfl rfl e2 rfl rfl rfl) ?_
 refine rl.run 1 rfl (rl.done (RW.ret ?_))
 cases h2
 exact RRetS.mk rfl .str (Gh.renN [0,1] (.cells rfl rfl (.keep (.pv ekB.rlst) (.keep .int (.keep .int .nil))) (.same rfl (ekS.fref _ _) .nil)) rfl rfl rfl .nil)
theorem law_spec_l06Text_w {x0 : TL01Cur} {B0_ o0_ : Nat} {r : (List UInt8) × TL01Cur} (hF : F_spec_l06Text_w x0 = some r) : ACalls Try.prog 0 138 [.ptr 0 0] [some ⟨[pvB B0_ o0_ x0.mB,.j x0.mI,.j x0.mH],0⟩] (.str r.1) [some ⟨[pvB B0_ o0_ x0.mB,.j r.2.mI,.j r.2.mH],0⟩]:=by
 refine ACalls.of_s k_spec_l06Text rfl ?_
 unfold F_spec_l06Text_w at hF
 refine RW.sreg (rl.run 1 rfl (rl.done (RW.sreg (rl.run 2 rfl ?_))))
 obtain ⟨v1,e1,h1⟩:=bindS hF
 refine rl.call rfl rfl rfl (CallW.embN (r0:=.str v1.1) (H':=[some ⟨[pvB B0_ o0_ x0.mB,.j v1.2.mI,.j v1.2.mH],0⟩,some ⟨fl (encS true) [[104,101,108,108,111],[102,114,111,109,58,32,97,110,110,10,10,104,105],[115,117,98,106,101,99,116,58,32,120,10,10,98,111,100,121,32,111,102,32,105,116,10,46,100,111,116,10],[],[120,10,46,46,10]],1⟩]) [⟨[pvB B0_ o0_ x0.mB,.j x0.mI,.j x0.mH],0⟩,⟨fl (encS true) [[104,101,108,108,111],[102,114,111,109,58,32,97,110,110,10,10,104,105],[115,117,98,106,101,99,116,58,32,120,10,10,98,111,100,121,32,111,102,32,105,116,10,46,100,111,116,10],[],[120,10,46,46,10]],1⟩] [⟨[pvB B0_ o0_ x0.mB,.j v1.2.mI,.j v1.2.mH],0⟩,⟨fl (encS true) [[104,101,108,108,111],[102,114,111,109,58,32,97,110,110,10,10,104,105],[115,117,98,106,101,99,116,58,32,120,10,10,98,111,100,121,32,111,102,32,105,116,10,46,100,111,116,10],[],[120,10,46,46,10]],1⟩] [] [0,1] [pvB B0_ o0_ x0.mB] ok_spec_l01Pick (law_spec_l01Pick_w e1) (.cons rfl (fac (.pv ekB.rlst) (fac .int (fac .int fan))) (fac (.inr (.head _)) (fac (.inl .int) (fac (.inl .int) fan))) (.own rfl (ekS.fref _ _) (ekS.fown _) .nil)) .nil (.blk 0 0 0 0 0 rfl rfl rfl rfl scalB .nil) rfl (.cons (.ptr rfl) (.cons (.slq rfl rfl) .nil)) .str rfl ?_)
 refine rl.run 1 rfl (rl.done (RW.ret ?_))
 cases h1
 exact RRetS.mk rfl .str (Gh.renN [0] (.cells rfl rfl (.keep (.pv ekB.rlst) (.keep .int (.keep .int .nil))) .nil) rfl rfl rfl .nil)
set_option maxHeartbeats 2000000 in
theorem law_spec_l06Rec_w {x0 : TL01Cur} {B0_ o0_ : Nat} {r : TRec × TL01Cur} (hF : F_spec_l06Rec_w x0 = some r) : ACalls Try.prog 0 95 [.ptr 0 0] [some ⟨[pvB B0_ o0_ x0.mB,.j x0.mI,.j x0.mH],0⟩] (.agg (enc_TRec true r.1)) [some ⟨[pvB B0_ o0_ x0.mB,.j r.2.mI,.j r.2.mH],0⟩]:=by
 refine ACalls.of_s k_spec_l06Rec rfl ?_
 unfold F_spec_l06Rec_w at hF
 refine RW.sreg (rl.run 1 rfl (rl.done (RW.sreg (rl.run 2 rfl ?_))))
 obtain ⟨v1,e1,h1⟩:=bindS hF
 refine rl.call rfl rfl rfl (CallW.embN (r0:=.j v1.1) (H':=[some ⟨[pvB B0_ o0_ x0.mB,.j v1.2.mI,.j v1.2.mH],0⟩,some ⟨[.j 0,.j 0,.j 0,.j 0,.j 0,.str [],.str [],.str []],0⟩,some ⟨fl (encI true) ([1,1,2,3,3,3,3,4,4,5,5] : List Int),1⟩]) [⟨[pvB B0_ o0_ x0.mB,.j x0.mI,.j x0.mH],0⟩,⟨fl (encI true) ([1,1,2,3,3,3,3,4,4,5,5] : List Int),1⟩] [⟨[pvB B0_ o0_ x0.mB,.j v1.2.mI,.j v1.2.mH],0⟩,⟨fl (encI true) ([1,1,2,3,3,3,3,4,4,5,5] : List Int),1⟩] [] [0,2] [pvB B0_ o0_ x0.mB] ok_spec_l01PickInt (law_spec_l01PickInt_w e1) (.cons rfl (fac (.pv ekB.rlst) (fac .int (fac .int fan))) (fac (.inr (.head _)) (fac (.inl .int) (fac (.inl .int) fan))) (.own rfl (ekI.fref _ _) (ekI.fown _) .nil)) .nil (.blk 0 0 0 0 0 rfl rfl rfl rfl scalB .nil) rfl (.cons (.ptr rfl) (.cons (.slq rfl rfl) .nil)) .int rfl ?_)
 refine rl.run 1 rfl ?_
 obtain ⟨v2,e2,h2⟩:=bindS h1
 refine rl.call rfl rfl rfl (CallW.embN (r0:=.j v2.1) (H':=[some ⟨[pvB B0_ o0_ x0.mB,.j v2.2.mI,.j v2.2.mH],0⟩,some ⟨[.j 0,.j 0,.j 0,.j 0,.j 0,.str [],.str [],.str []],0⟩,some ⟨fl (encI true) ([1,1,2,3,3,3,3,4,4,5,5] : List Int),1⟩]) [⟨[pvB B0_ o0_ x0.mB,.j v1.2.mI,.j v1.2.mH],0⟩] [⟨[pvB B0_ o0_ x0.mB,.j v2.2.mI,.j v2.2.mH],0⟩] [] [0] [pvB B0_ o0_ x0.mB] ok_spec_l01Below (law_spec_l01Below_w e2) (.cons rfl (fac (.pv ekB.rlst) (fac .int (fac .int fan))) (fac (.inr (.head _)) (fac (.inl .int) (fac (.inl .int) fan))) .nil) .nil (.blk 0 0 0 0 0 rfl rfl rfl rfl scalB .nil) rfl (.cons (.ptr rfl) (.cons (.dat .int) .nil)) .int rfl ?_)
 refine rl.run 4 rfl (rl.done (RW.seq (RW.sreg (rl.run 2 rfl (rl.done (RW.blk (RW.sreg ?_)))))))
 refine rl.gen rfl rfl fun b hb=>?_
 cases b
 ·have h3:=iteBF h2 hb
  refine rl.run 1 rfl (rl.done (RW.cond_f rfl (RW.sreg ?_)))
  refine rl.gen rfl rfl fun b hb=>?_
  cases b
  ·have h4:=iteBF h3 hb
   refine rl.run 1 rfl (rl.done ?_)
   refine RW.kp [0,2,3,12,27] [(0,.ptr 0 0),(2,.ptr 1 0),(3,.ptr 3 0),(12,.j v1.1),(27,.bool false)] [some ⟨[pvB B0_ o0_ x0.mB,.j v2.2.mI,.j v2.2.mH],0⟩,some ⟨[.j 0,.j 0,.j 0,.j 0,.j 0,.str [],.str [],.str []],0⟩,some ⟨fl (encI true) ([1,1,2,3,3,3,3,4,4,5,5] : List Int),1⟩,some ⟨[.j v1.1,.j (w64 (1 + v2.1)),.j 0,.j 0,.j 0,.str [],.str [],.str []],0⟩] rfl rfl ?_
   refine RW.cond_f rfl (RW.sreg ?_)
   refine rl.gen rfl rfl fun b hb=>?_
   cases b
   ·have h5:=iteBF h4 hb
    refine rl.run 1 rfl (rl.done (RW.cond_f rfl (RW.sreg ?_)))
    refine rl.gen rfl rfl fun b hb=>?_
    cases b
    ·have h6:=iteBF h5 hb
     refine rl.run 1 rfl (rl.done (RW.cond_f rfl (RW.skip (RW.sreg (rl.run 2 rfl (rl.done (RW.ret ?_)))))))
     cases h6
     exact RRetS.mk rfl (.agg (sc_TRec _ _)) (Gh.renN [0] (.cells rfl rfl (.keep (.pv ekB.rlst) (.keep .int (.keep .int .nil))) .nil) rfl rfl rfl .nil)
    ·have h7:=iteBT h5 hb
     refine rl.run 1 rfl (rl.done (RW.cond_t rfl (RW.reg (rl.run 1 rfl ?_))))
     obtain ⟨v3,e3,h8⟩:=bindS h7
     refine rl.call rfl rfl rfl (CallW.embN (r0:=.j v3.1) (H':=[some ⟨[pvB B0_ o0_ x0.mB,.j v3.2.mI,.j v3.2.mH],0⟩,some ⟨[.j 0,.j 0,.j 0,.j 0,.j 0,.str [],.str [],.str []],0⟩,some ⟨fl (encI true) ([1,1,2,3,3,3,3,4,4,5,5] : List Int),1⟩,some ⟨[.j v1.1,.j (w64 (1 + v2.1)),.j 0,.j 0,.j 0,.str [],.str [],.str []],0⟩]) [⟨[pvB B0_ o0_ x0.mB,.j v2.2.mI,.j v2.2.mH],0⟩] [⟨[pvB B0_ o0_ x0.mB,.j v3.2.mI,.j v3.2.mH],0⟩] [] [0] [pvB B0_ o0_ x0.mB] ok_spec_l01Below (law_spec_l01Below_w e3) (.cons rfl (fac (.pv ekB.rlst) (fac .int (fac .int fan))) (fac (.inr (.head _)) (fac (.inl .int) (fac (.inl .int) fan))) .nil) .nil (.blk 0 0 0 0 0 rfl rfl rfl rfl scalB .nil) rfl (.cons (.ptr rfl) (.cons (.dat .int) .nil)) .int rfl ?_)
     refine rl.run 3 rfl (rl.done (RW.sreg (rl.run 2 rfl (rl.done ?_))))
     refine RW.kp [2] [(2,.ptr 1 0)] [some ⟨[pvB B0_ o0_ x0.mB,.j v3.2.mI,.j v3.2.mH],0⟩,some ⟨[.j v1.1,.j (w64 (1 + v2.1)),.j (w64 (1 + v3.1)),.j 0,.j 0,.str [],.str [],.str []],0⟩,some ⟨fl (encI true) ([1,1,2,3,3,3,3,4,4,5,5] : List Int),1⟩,some ⟨[.j v1.1,.j (w64 (1 + v2.1)),.j (w64 (1 + v3.1)),.j 0,.j 0,.str [],.str [],.str []],0⟩] rfl rfl ?_
     refine RW.ret ?_
     cases h8
     exact RRetS.mk rfl (.agg (sc_TRec _ _)) (Gh.renN [0] (.cells rfl rfl (.keep (.pv ekB.rlst) (.keep .int (.keep .int .nil))) .nil) rfl rfl rfl .nil)
   ·have h9:=iteBT h4 hb
    refine rl.run 1 rfl (rl.done (RW.cond_t rfl (RW.sreg (rl.run 1 rfl ?_))))
    obtain ⟨v4,e4,h10⟩:=bindS h9
    refine rl.call rfl rfl rfl (CallW.embN (r0:=.j v4.1) (H':=[some ⟨[pvB B0_ o0_ x0.mB,.j v4.2.mI,.j v4.2.mH],0⟩,some ⟨[.j 0,.j 0,.j 0,.j 0,.j 0,.str [],.str [],.str []],0⟩,some ⟨fl (encI true) ([1,1,2,3,3,3,3,4,4,5,5] : List Int),1⟩,some ⟨[.j v1.1,.j (w64 (1 + v2.1)),.j 0,.j 0,.j 0,.str [],.str [],.str []],0⟩]) [⟨[pvB B0_ o0_ x0.mB,.j v2.2.mI,.j v2.2.mH],0⟩] [⟨[pvB B0_ o0_ x0.mB,.j v4.2.mI,.j v4.2.mH],0⟩] [] [0] [pvB B0_ o0_ x0.mB] ok_spec_l01Below (law_spec_l01Below_w e4) (.cons rfl (fac (.pv ekB.rlst) (fac .int (fac .int fan))) (fac (.inr (.head _)) (fac (.inl .int) (fac (.inl .int) fan))) .nil) .nil (.blk 0 0 0 0 0 rfl rfl rfl rfl scalB .nil) rfl (.cons (.ptr rfl) (.cons (.dat .int) .nil)) .int rfl ?_)
    refine rl.run 3 rfl (rl.done (RW.reg (rl.run 1 rfl ?_)))
    obtain ⟨v5,e5,h11⟩:=bindS h10
    refine rl.call rfl rfl rfl (CallW.embN (r0:=.j v5.1) (H':=[some ⟨[pvB B0_ o0_ x0.mB,.j v5.2.mI,.j v5.2.mH],0⟩,some ⟨[.j 0,.j 0,.j 0,.j 0,.j 0,.str [],.str [],.str []],0⟩,some ⟨fl (encI true) ([1,1,2,3,3,3,3,4,4,5,5] : List Int),1⟩,some ⟨[.j v1.1,.j (w64 (1 + v2.1)),.j (w64 (1 + v4.1)),.j 0,.j 0,.str [],.str [],.str []],0⟩]) [⟨[pvB B0_ o0_ x0.mB,.j v4.2.mI,.j v4.2.mH],0⟩] [⟨[pvB B0_ o0_ x0.mB,.j v5.2.mI,.j v5.2.mH],0⟩] [] [0] [pvB B0_ o0_ x0.mB] ok_spec_l01Below (law_spec_l01Below_w e5) (.cons rfl (fac (.pv ekB.rlst) (fac .int (fac .int fan))) (fac (.inr (.head _)) (fac (.inl .int) (fac (.inl .int) fan))) .nil) .nil (.blk 0 0 0 0 0 rfl rfl rfl rfl scalB .nil) rfl (.cons (.ptr rfl) (.cons (.dat .int) .nil)) .int rfl ?_)
    refine rl.run 2 rfl (rl.done (RW.sreg (rl.run 2 rfl (rl.done ?_))))
    refine RW.kp [2] [(2,.ptr 1 0)] [some ⟨[pvB B0_ o0_ x0.mB,.j v5.2.mI,.j v5.2.mH],0⟩,some ⟨[.j v1.1,.j (w64 (1 + v2.1)),.j (w64 (1 + v4.1)),.j 0,.j v5.1,.str [],.str [],.str []],0⟩,some ⟨fl (encI true) ([1,1,2,3,3,3,3,4,4,5,5] : List Int),1⟩,some ⟨[.j v1.1,.j (w64 (1 + v2.1)),.j (w64 (1 + v4.1)),.j 0,.j v5.1,.str [],.str [],.str []],0⟩] rfl rfl ?_
    refine RW.ret ?_
    cases h11
    exact RRetS.mk rfl (.agg (sc_TRec _ _)) (Gh.renN [0] (.cells rfl rfl (.keep (.pv ekB.rlst) (.keep .int (.keep .int .nil))) .nil) rfl rfl rfl .nil)
  ·have h12:=iteBT h3 hb
   refine rl.run 1 rfl (rl.done ?_)
   refine RW.kp [0,2,3,12,27] [(0,.ptr 0 0),(2,.ptr 1 0),(3,.ptr 3 0),(12,.j v1.1),(27,.bool true)] [some ⟨[pvB B0_ o0_ x0.mB,.j v2.2.mI,.j v2.2.mH],0⟩,some ⟨[.j 0,.j 0,.j 0,.j 0,.j 0,.str [],.str [],.str []],0⟩,some ⟨fl (encI true) ([1,1,2,3,3,3,3,4,4,5,5] : List Int),1⟩,some ⟨[.j v1.1,.j (w64 (1 + v2.1)),.j 0,.j 0,.j 0,.str [],.str [],.str []],0⟩] rfl rfl ?_
   refine RW.cond_t rfl (RW.sreg (rl.run 1 rfl ?_))
   obtain ⟨v6,e6,h13⟩:=bindS h12
   refine rl.call rfl rfl rfl (CallW.embN (r0:=.j v6.1) (H':=[some ⟨[pvB B0_ o0_ x0.mB,.j v6.2.mI,.j v6.2.mH],0⟩,some ⟨[.j 0,.j 0,.j 0,.j 0,.j 0,.str [],.str [],.str []],0⟩,some ⟨fl (encI true) ([1,1,2,3,3,3,3,4,4,5,5] : List Int),1⟩,some ⟨[.j v1.1,.j (w64 (1 + v2.1)),.j 0,.j 0,.j 0,.str [],.str [],.str []],0⟩]) [⟨[pvB B0_ o0_ x0.mB,.j v2.2.mI,.j v2.2.mH],0⟩] [⟨[pvB B0_ o0_ x0.mB,.j v6.2.mI,.j v6.2.mH],0⟩] [] [0] [pvB B0_ o0_ x0.mB] ok_spec_l01Below (law_spec_l01Below_w e6) (.cons rfl (fac (.pv ekB.rlst) (fac .int (fac .int fan))) (fac (.inr (.head _)) (fac (.inl .int) (fac (.inl .int) fan))) .nil) .nil (.blk 0 0 0 0 0 rfl rfl rfl rfl scalB .nil) rfl (.cons (.ptr rfl) (.cons (.dat .int) .nil)) .int rfl ?_)
   refine rl.run 3 rfl (rl.done (RW.sreg (rl.run 1 rfl ?_)))
   obtain ⟨v7,e7,h14⟩:=bindS h13
   refine rl.call rfl rfl rfl (CallW.embN (r0:=.j v7.1) (H':=[some ⟨[pvB B0_ o0_ x0.mB,.j v7.2.mI,.j v7.2.mH],0⟩,some ⟨[.j 0,.j 0,.j 0,.j 0,.j 0,.str [],.str [],.str []],0⟩,some ⟨fl (encI true) ([1,1,2,3,3,3,3,4,4,5,5] : List Int),1⟩,some ⟨[.j v1.1,.j (w64 (1 + v2.1)),.j (w64 (1 + v6.1)),.j 0,.j 0,.str [],.str [],.str []],0⟩]) [⟨[pvB B0_ o0_ x0.mB,.j v6.2.mI,.j v6.2.mH],0⟩] [⟨[pvB B0_ o0_ x0.mB,.j v7.2.mI,.j v7.2.mH],0⟩] [] [0] [pvB B0_ o0_ x0.mB] ok_spec_l01Below (law_spec_l01Below_w e7) (.cons rfl (fac (.pv ekB.rlst) (fac .int (fac .int fan))) (fac (.inr (.head _)) (fac (.inl .int) (fac (.inl .int) fan))) .nil) .nil (.blk 0 0 0 0 0 rfl rfl rfl rfl scalB .nil) rfl (.cons (.ptr rfl) (.cons (.dat .int) .nil)) .int rfl ?_)
   refine rl.run 2 rfl (rl.done (RW.reg (rl.run 1 rfl ?_)))
   obtain ⟨v8,e8,h15⟩:=bindS h14
   refine rl.call rfl rfl rfl (CallW.embN (r0:=.str v8.1) (H':=[some ⟨[pvB B0_ o0_ x0.mB,.j v8.2.mI,.j v8.2.mH],0⟩,some ⟨[.j 0,.j 0,.j 0,.j 0,.j 0,.str [],.str [],.str []],0⟩,some ⟨fl (encI true) ([1,1,2,3,3,3,3,4,4,5,5] : List Int),1⟩,some ⟨[.j v1.1,.j (w64 (1 + v2.1)),.j (w64 (1 + v6.1)),.j 0,.j v7.1,.str [],.str [],.str []],0⟩]) [⟨[pvB B0_ o0_ x0.mB,.j v7.2.mI,.j v7.2.mH],0⟩] [⟨[pvB B0_ o0_ x0.mB,.j v8.2.mI,.j v8.2.mH],0⟩] [] [0] [pvB B0_ o0_ x0.mB] ok_spec_l06Text (law_spec_l06Text_w e8) (.cons rfl (fac (.pv ekB.rlst) (fac .int (fac .int fan))) (fac (.inr (.head _)) (fac (.inl .int) (fac (.inl .int) fan))) .nil) .nil (.blk 0 0 0 0 0 rfl rfl rfl rfl scalB .nil) rfl (.cons (.ptr rfl) .nil) .str rfl ?_)
   refine rl.run 2 rfl (rl.done (RW.sreg (rl.run 2 rfl (rl.done ?_))))
   refine RW.kp [2] [(2,.ptr 1 0)] [some ⟨[pvB B0_ o0_ x0.mB,.j v8.2.mI,.j v8.2.mH],0⟩,some ⟨[.j v1.1,.j (w64 (1 + v2.1)),.j (w64 (1 + v6.1)),.j 0,.j v7.1,.str [],.str [],.str v8.1],0⟩,some ⟨fl (encI true) ([1,1,2,3,3,3,3,4,4,5,5] : List Int),1⟩,some ⟨[.j v1.1,.j (w64 (1 + v2.1)),.j (w64 (1 + v6.1)),.j 0,.j v7.1,.str [],.str [],.str v8.1],0⟩] rfl rfl ?_
   refine RW.ret ?_
   cases h15
   exact RRetS.mk rfl (.agg (sc_TRec _ _)) (Gh.renN [0] (.cells rfl rfl (.keep (.pv ekB.rlst) (.keep .int (.keep .int .nil))) .nil) rfl rfl rfl .nil)
 ·have h16:=iteBT h2 hb
  refine rl.run 1 rfl (rl.done (RW.cond_t rfl (RW.sreg (rl.run 2 rfl ?_))))
  obtain ⟨v9,e9,h17⟩:=bindS h16
  refine rl.call rfl rfl rfl (CallW.embN (r0:=.str v9.1) (H':=[some ⟨[pvB B0_ o0_ x0.mB,.j v9.2.mI,.j v9.2.mH],0⟩,some ⟨[.j 0,.j 0,.j 0,.j 0,.j 0,.str [],.str [],.str []],0⟩,some ⟨fl (encI true) ([1,1,2,3,3,3,3,4,4,5,5] : List Int),1⟩,some ⟨[.j v1.1,.j (w64 (1 + v2.1)),.j 0,.j 0,.j 0,.str [],.str [],.str []],0⟩,some ⟨fl (encS true) [[97,110,110],[98,111,98]],1⟩]) [⟨[pvB B0_ o0_ x0.mB,.j v2.2.mI,.j v2.2.mH],0⟩,⟨fl (encS true) [[97,110,110],[98,111,98]],1⟩] [⟨[pvB B0_ o0_ x0.mB,.j v9.2.mI,.j v9.2.mH],0⟩,⟨fl (encS true) [[97,110,110],[98,111,98]],1⟩] [] [0,4] [pvB B0_ o0_ x0.mB] ok_spec_l01Pick (law_spec_l01Pick_w e9) (.cons rfl (fac (.pv ekB.rlst) (fac .int (fac .int fan))) (fac (.inr (.head _)) (fac (.inl .int) (fac (.inl .int) fan))) (.own rfl (ekS.fref _ _) (ekS.fown _) .nil)) .nil (.blk 0 0 0 0 0 rfl rfl rfl rfl scalB .nil) rfl (.cons (.ptr rfl) (.cons (.slq rfl rfl) .nil)) .str rfl ?_)
  refine rl.run 2 rfl (rl.done ?_)
  refine RW.kp [0,2,3] [(0,.ptr 0 0),(2,.ptr 1 0),(3,.ptr 3 0)] [some ⟨[pvB B0_ o0_ x0.mB,.j v9.2.mI,.j v9.2.mH],0⟩,some ⟨[.j 0,.j 0,.j 0,.j 0,.j 0,.str [],.str [],.str []],0⟩,some ⟨fl (encI true) ([1,1,2,3,3,3,3,4,4,5,5] : List Int),1⟩,some ⟨[.j v1.1,.j (w64 (1 + v2.1)),.j 0,.j 0,.j 0,.str v9.1,.str [],.str []],0⟩,some ⟨fl (encS true) [[97,110,110],[98,111,98]],1⟩] rfl rfl ?_
  refine RW.sreg (rl.run 2 rfl ?_)
  obtain ⟨v10,e10,h18⟩:=bindS h17
  refine rl.call rfl rfl rfl (CallW.embN (r0:=.str v10.1) (H':=[some ⟨[pvB B0_ o0_ x0.mB,.j v10.2.mI,.j v10.2.mH],0⟩,some ⟨[.j 0,.j 0,.j 0,.j 0,.j 0,.str [],.str [],.str []],0⟩,some ⟨fl (encI true) ([1,1,2,3,3,3,3,4,4,5,5] : List Int),1⟩,some ⟨[.j v1.1,.j (w64 (1 + v2.1)),.j 0,.j 0,.j 0,.str v9.1,.str [],.str []],0⟩,some ⟨fl (encS true) [[97,110,110],[98,111,98]],1⟩,some ⟨fl (encS true) [[105,110,98,111,120],[119,111,114,107]],1⟩]) [⟨[pvB B0_ o0_ x0.mB,.j v9.2.mI,.j v9.2.mH],0⟩,⟨fl (encS true) [[105,110,98,111,120],[119,111,114,107]],1⟩] [⟨[pvB B0_ o0_ x0.mB,.j v10.2.mI,.j v10.2.mH],0⟩,⟨fl (encS true) [[105,110,98,111,120],[119,111,114,107]],1⟩] [] [0,5] [pvB B0_ o0_ x0.mB] ok_spec_l01Pick (law_spec_l01Pick_w e10) (.cons rfl (fac (.pv ekB.rlst) (fac .int (fac .int fan))) (fac (.inr (.head _)) (fac (.inl .int) (fac (.inl .int) fan))) (.own rfl (ekS.fref _ _) (ekS.fown _) .nil)) .nil (.blk 0 0 0 0 0 rfl rfl rfl rfl scalB .nil) rfl (.cons (.ptr rfl) (.cons (.slq rfl rfl) .nil)) .str rfl ?_)
  refine rl.run 2 rfl (rl.done (RW.reg (rl.run 1 rfl ?_)))
  obtain ⟨v11,e11,h19⟩:=bindS h18
  refine rl.call rfl rfl rfl (CallW.embN (r0:=.j v11.1) (H':=[some ⟨[pvB B0_ o0_ x0.mB,.j v11.2.mI,.j v11.2.mH],0⟩,some ⟨[.j 0,.j 0,.j 0,.j 0,.j 0,.str [],.str [],.str []],0⟩,some ⟨fl (encI true) ([1,1,2,3,3,3,3,4,4,5,5] : List Int),1⟩,some ⟨[.j v1.1,.j (w64 (1 + v2.1)),.j 0,.j 0,.j 0,.str v9.1,.str v10.1,.str []],0⟩,some ⟨fl (encS true) [[97,110,110],[98,111,98]],1⟩,some ⟨fl (encS true) [[105,110,98,111,120],[119,111,114,107]],1⟩]) [⟨[pvB B0_ o0_ x0.mB,.j v10.2.mI,.j v10.2.mH],0⟩] [⟨[pvB B0_ o0_ x0.mB,.j v11.2.mI,.j v11.2.mH],0⟩] [] [0] [pvB B0_ o0_ x0.mB] ok_spec_l01Below (law_spec_l01Below_w e11) (.cons rfl (fac (.pv ekB.rlst) (fac .int (fac .int fan))) (fac (.inr (.head _)) (fac (.inl .int) (fac (.inl .int) fan))) .nil) .nil (.blk 0 0 0 0 0 rfl rfl rfl rfl scalB .nil) rfl (.cons (.ptr rfl) (.cons (.dat .int) .nil)) .int rfl ?_)
  refine rl.run 3 rfl (rl.done (RW.sreg (rl.run 2 rfl (rl.done ?_))))
  refine RW.kp [2] [(2,.ptr 1 0)] [some ⟨[pvB B0_ o0_ x0.mB,.j v11.2.mI,.j v11.2.mH],0⟩,some ⟨[.j v1.1,.j (w64 (1 + v2.1)),.j 0,.j (w64 (1 + v11.1)),.j 0,.str v9.1,.str v10.1,.str []],0⟩,some ⟨fl (encI true) ([1,1,2,3,3,3,3,4,4,5,5] : List Int),1⟩,some ⟨[.j v1.1,.j (w64 (1 + v2.1)),.j 0,.j (w64 (1 + v11.1)),.j 0,.str v9.1,.str v10.1,.str []],0⟩,some ⟨fl (encS true) [[97,110,110],[98,111,98]],1⟩,some ⟨fl (encS true) [[105,110,98,111,120],[119,111,114,107]],1⟩] rfl rfl ?_
  refine RW.ret ?_
  cases h19
  exact RRetS.mk rfl (.agg (sc_TRec _ _)) (Gh.renN [0] (.cells rfl rfl (.keep (.pv ekB.rlst) (.keep .int (.keep .int .nil))) .nil) rfl rfl rfl .nil)
theorem law_spec_ItemsOf {x0 : TLog} {r : List TItem} (hF : F_spec_ItemsOf x0 = some r) : PCalls Try.prog 139 [.agg (enc_TLog false x0)] (.lst true 9 (fl (enc_TItem true) r) r.length):=by
 refine PCalls.of_r k_spec_ItemsOf rfl ?_
 unfold F_spec_ItemsOf at hF
 refine RW.sreg (rl.run 2 rfl (rl.done (RW.sreg (rl.run 2 rfl (rl.done (RW.seq (RW.sreg (rl.run 1 rfl (rl.done ?_)))))))))
 refine RW.gh (Gh.nil_t 3 9 rfl) ?_
 obtain ⟨y5,ey5,h2⟩:=bindS hF
 refine RW.cutq (σ:=(List TItem)) (fun y2=>[(3,.sl 0 0 y2.length)]) (fun y2=>[some ⟨fl (enc_TItem true) y2,9⟩]) (fun y=>y5 = y) (fun _ _ _ _ g h=>RW.gh g h) ?_ ?_
 ·refine RW.blk ?_
  refine RW.iter (σ:=Int × (List TItem)) ey5 (fun s1=>[(1,.ptr 0 0),(3,.sl 1 0 s1.2.length),(4,.j s1.1)]) (fun s1=>[some ⟨[L_S x0.Disk.Sectors,L_TWrite x0.Disk.Cache,.j x0.Segs,L_TSeg x0.Used,.j x0.NextGen,.j x0.NextSeq,.j x0.Stamp,.j x0.NextValid],0⟩,some ⟨fl (enc_TItem true) s1.2,9⟩]) (Gh.ren0 [0,1] (.cells rfl rfl (.keep (ekS.rlst) (.keep (ek_TWrite.rlst) (.keep .int (.keep (ek_TSeg.rlst) (.keep .int (.keep .int (.keep .int (.keep .int .nil)))))))) (.same rfl (ek_TItem.fref _ _) .nil)) rfl (.cons rfl (.ptr rfl) (.cons rfl (.slq rfl rfl) (.cons rfl (.dat .int) .nil)))) (fun s1 B o hS1 hB1 hE1=>?_)
  unfold S_spec_ItemsOf_1 at hS1
  refine RW.seq (RW.sreg (rl.run 4 rfl ?_))
  refine rl.gen rfl rfl fun b hb=>?_
  cases b
  ·have h3:=iteBF hS1 hb
   refine rl.done (RW.cond_f rfl (RW.exit (blkA_eq ?_)))
   cases h3
   exact ⟨_,(hE1 _ rfl).symm,(Gh.ren0 [1] (.same rfl (ek_TItem.fref _ _) .nil) rfl (.cons rfl (.slq rfl rfl) .nil))⟩
  ·have h4:=iteBT hS1 hb
   refine rl.done (RW.cond_t rfl (RW.skip (RW.seq (RW.blk (RW.reg (rl.run 4 rfl ?_))))))
   obtain ⟨v3,e3,h5⟩:=bindS h4
   refine rl.op (x_ia_lst (enc:=enc_TSeg) (o:=false) rfl rfl rfl e3) ?_
   refine rl.run 1 rfl ?_
   refine rl.op (x_ld_el (off':=3) ek_TSeg rfl e3 rfl rfl rfl) ?_
   obtain ⟨v4,e4,h6⟩:=bindS h5
   refine rl.op (x_app rfl rfl (rapp_sl (l:=s1.2) (m:=v3.Items) (o:=true) ek_TItem rfl rfl acont_lst rfl (fk_TItem.fst _ _) e4)) ?_
   refine rl.run 1 rfl (rl.done (RW.reg (rl.run 3 rfl (rl.done ?_))))
   cases h6
   exact hB1 _ rfl _ _ (Gh.ren0 [0,2] (.cells rfl rfl (.keep (ekS.rlst) (.keep (ek_TWrite.rlst) (.keep .int (.keep (ek_TSeg.rlst) (.keep .int (.keep .int (.keep .int (.keep .int .nil)))))))) (.same rfl (ek_TItem.fref _ _) .nil)) rfl (.cons rfl (.ptr rfl) (.cons rfl (.slq rfl rfl) (.cons rfl (.dat .int) .nil))))
 ·intro y2 hC
  subst hC
  refine RW.sreg (rl.run 2 rfl (rl.done (RW.ret ?_)))
  cases h2
  exact RRet.mk rfl (OutR.ownq ek_TItem rfl rfl) (by first | decide | simp)
theorem law_spec_l09Fits {x0 : TLog} {x1 : TItem} {r : Bool} (hF : F_spec_l09Fits x0 x1 = some r) : PCalls Try.prog 96 [.agg (enc_TLog false x0),.agg (enc_TItem false x1)] (.bool r):=by
 refine PCalls.of_r k_spec_l09Fits rfl ?_
 unfold F_spec_l09Fits at hF
 refine RW.sreg (rl.run 3 rfl (rl.done (RW.sreg (rl.run 1 rfl ?_))))
 obtain ⟨v1,e1,h1⟩:=bindS hF
 refine rl.call rfl rfl rfl (CallW.val (r':=L_TItem v1) ok_spec_ItemsOf (law_spec_ItemsOf e1) (.cons (DFL.agg (.cons (.lst ekS) (.cons (.lst ek_TWrite) (.cons .int (.cons (.lst ek_TSeg) (.cons .int (.cons .int (.cons .int (.cons .int .nil))))))))) .nil) (ek_TItem.fflag _).lst ?_)
 refine rl.run 1 rfl (rl.done (RW.seq (RW.sreg (rl.run 1 rfl (rl.done ?_)))))
 obtain ⟨y7,ey7,h3⟩:=bindS h1
 refine RW.cutq (σ:=Unit) (fun y3=>[(5,L_TItem v1)]) (fun y3=>[]) (fun y=>y7 = .inr y) (fun _ _ _ _ g h=>RW.gh g h) ?_ ?_
 ·refine RW.blk ?_
  refine RW.iter (σ:=Int) ey7 (fun s2=>[(3,.ptr 0 0),(5,L_TItem v1),(6,.j s2)]) (fun s2=>[some ⟨[.j x1.Seq,.j x1.Rec.Kind,.j x1.Rec.Valid,.j x1.Rec.Uid,.j x1.Rec.Next,.j x1.Rec.Flags,.str x1.Rec.User,.str x1.Rec.Name,.str x1.Rec.Text],0⟩]) (Gh.ren0 [1] (.cells rfl rfl (.keep .int (.keep .int (.keep .int (.keep .int (.keep .int (.keep .int (.keep .str (.keep .str (.keep .str .nil))))))))) .nil) rfl (.cons rfl (.ptr rfl) (.cons rfl (.dat (ek_TItem.rlst)) (.cons rfl (.dat .int) .nil)))) (fun s2 B o hS2 hB2 hE2=>?_)
  unfold S_spec_l09Fits_1 at hS2
  refine RW.seq (RW.sreg (rl.run 3 rfl ?_))
  refine rl.gen rfl rfl fun b hb=>?_
  cases b
  ·have h4:=iteBF hS2 hb
   refine rl.done (RW.cond_f rfl (RW.exit (blkA_eq ?_)))
   cases h4
   exact ⟨_,(hE2 _ rfl).symm,(Gh.ren0 [] .nil rfl (.cons rfl (.dat (ek_TItem.rlst)) .nil))⟩
  ·have h5:=iteBT hS2 hb
   refine rl.done (RW.cond_t rfl (RW.skip (RW.seq (RW.blk (RW.seq ?_)))))
   obtain ⟨y4,ey4,h6⟩:=bindS h5
   refine RW.cutq (σ:=Bool) (fun y4=>[(3,.ptr 0 0),(5,L_TItem v1),(6,.j s2),(30,.bool y4)]) (fun y4=>[some ⟨[.j x1.Seq,.j x1.Rec.Kind,.j x1.Rec.Valid,.j x1.Rec.Uid,.j x1.Rec.Next,.j x1.Rec.Flags,.str x1.Rec.User,.str x1.Rec.Name,.str x1.Rec.Text],0⟩]) (fun y=>y4 = y) (fun _ _ _ _ g h=>RW.gh g h) ?_ ?_
   ·refine RW.drw ?_
    refine rdraw.op rfl rfl (rdraw.op rfl rfl ?_)
    obtain ⟨v5,e5,h7⟩:=bindS ey4
    refine rdraw.op rfl (x_ia_lst (enc:=enc_TItem) (o:=false) rfl rfl rfl e5) ?_
    refine rdraw.op rfl rfl ?_
    refine rdraw.op rfl (x_ld_el (off':=0) ek_TItem rfl e5 rfl rfl rfl) ?_
    refine rdraw.op rfl rfl (rdraw.op rfl rfl ?_)
    refine rdraw.gen rfl rfl fun b hb=>?_
    cases b
    ·have h8:=iteBF h7 hb
     refine rdraw.op rfl rfl (rdraw.off rfl (rdraw.off rfl (rdraw.off rfl (rdraw.off rfl (rdraw.off rfl (rdraw.off rfl (rdraw.op rfl rfl (rdraw.done ?_))))))))
     cases h8
     exact ⟨_,rfl,(Gh.ren0 [0] (.cells rfl rfl (.keep .int (.keep .int (.keep .int (.keep .int (.keep .int (.keep .int (.keep .str (.keep .str (.keep .str .nil))))))))) .nil) rfl (.cons rfl (.ptr rfl) (.cons rfl (.dat (ek_TItem.rlst)) (.cons rfl (.dat .int) (.cons rfl (.dat .bool) .nil)))))⟩
    ·have h9:=iteBT h7 hb
     refine rdraw.op rfl rfl (rdraw.op rfl rfl (rdraw.op rfl rfl ?_))
     obtain ⟨v6,e6,h10⟩:=bindS h9
     refine rdraw.op rfl (x_ia_lst (enc:=enc_TItem) (o:=false) rfl rfl rfl e6) ?_
     refine rdraw.op rfl (x_ld_ela (off':=0) (vs:=(enc_TItem false v6)) ek_TItem rfl e6 rfl rfl rfl) ?_
     refine rdraw.op rfl rfl ?_
     refine rdraw.gen rfl rfl fun b hb=>?_
     cases b
     ·have h11:=iteBF h10 hb
      refine rdraw.op rfl rfl (rdraw.done ?_)
      cases h11
      exact ⟨_,rfl,(Gh.ren0 [0] (.cells rfl rfl (.keep .int (.keep .int (.keep .int (.keep .int (.keep .int (.keep .int (.keep .str (.keep .str (.keep .str .nil))))))))) .nil) rfl (.cons rfl (.ptr rfl) (.cons rfl (.dat (ek_TItem.rlst)) (.cons rfl (.dat .int) (.cons rfl (.dat .bool) .nil)))))⟩
     ·have h12:=iteBT h10 hb
      refine rdraw.op rfl rfl (rdraw.done ?_)
      cases h12
      exact ⟨_,rfl,(Gh.ren0 [0] (.cells rfl rfl (.keep .int (.keep .int (.keep .int (.keep .int (.keep .int (.keep .int (.keep .str (.keep .str (.keep .str .nil))))))))) .nil) rfl (.cons rfl (.ptr rfl) (.cons rfl (.dat (ek_TItem.rlst)) (.cons rfl (.dat .int) (.cons rfl (.dat .bool) .nil)))))⟩
   ·intro y hC
    subst hC
    cases hb : y4
    ·have h13:=iteBF h6 hb
     refine RW.cond_f rfl (RW.skip (RW.reg (rl.run 3 rfl (rl.done ?_))))
     cases h13
     exact hB2 _ rfl _ _ (Gh.ren0 [0] (.cells rfl rfl (.keep .int (.keep .int (.keep .int (.keep .int (.keep .int (.keep .int (.keep .str (.keep .str (.keep .str .nil))))))))) .nil) rfl (.cons rfl (.ptr rfl) (.cons rfl (.dat (ek_TItem.rlst)) (.cons rfl (.dat .int) .nil))))
    ·have h14:=iteBT h6 hb
     refine RW.cond_t rfl (RW.sreg (rl.run 1 rfl (rl.done (RW.ret ?_))))
     cases h14
     have h15:=elimL h3 (hE2 _ rfl)
     cases h15
     exact RRet.mk rfl .bool (by first | decide | simp)
 ·intro y3 hC
  have h3:=elimR h3 hC
  refine RW.sreg (rl.run 4 rfl (rl.done (RW.ret ?_)))
  cases h3
  exact RRet.mk rfl .bool (by first | decide | simp)
set_option maxHeartbeats 2000000 in
theorem law_spec_l09Open_w3 {x0 : TLog} {x1 : Int} {r : Bool × TLog} (hF : F_spec_l09Open_w3 x0 x1 = some r) : ACalls Try.prog 0 135 [.ptr 0 0,.j x1] [some ⟨[.lst true 1 (fl (encS true) x0.Disk.Sectors) x0.Disk.Sectors.length,.lst true 2 (fl (enc_TWrite true) x0.Disk.Cache) x0.Disk.Cache.length,.j x0.Segs,.lst true 4 (fl (enc_TSeg true) x0.Used) x0.Used.length,.j x0.NextGen,.j x0.NextSeq,.j x0.Stamp,.j x0.NextValid],0⟩] (.bool r.1) [some ⟨[.lst true 1 (fl (encS true) r.2.Disk.Sectors) r.2.Disk.Sectors.length,.lst true 2 (fl (enc_TWrite true) r.2.Disk.Cache) r.2.Disk.Cache.length,.j r.2.Segs,.lst true 4 (fl (enc_TSeg true) r.2.Used) r.2.Used.length,.j r.2.NextGen,.j r.2.NextSeq,.j r.2.Stamp,.j r.2.NextValid],0⟩]:=by
 refine ACalls.of_s k_spec_l09Open rfl ?_
 unfold F_spec_l09Open_w3 at hF
 refine RW.gh (Gh.expose (b:=0) (j:=0) rfl rfl (by decide) (ekS.fown _)) ?_
 refine RW.gh (Gh.expose (b:=0) (j:=1) rfl rfl (by decide) (ek_TWrite.fown _)) ?_
 refine RW.gh (Gh.expose (b:=0) (j:=3) rfl rfl (by decide) (ek_TSeg.fown _)) ?_
 refine RW.sreg (rl.run 1 rfl (rl.done (RW.sreg (rl.run 3 rfl ?_))))
 obtain ⟨v1,e1,h1⟩:=bindS hF
 refine rl.call rfl rfl rfl (CallW.val (r':=L_I v1) ok_spec_FreeSegs (law_spec_FreeSegs e1) (.cons (DFL.agg (.cons (.slq ekS rfl rfl) (.cons (.slq ek_TWrite rfl rfl) (.cons .int (.cons (.slq ek_TSeg rfl rfl) (.cons .int (.cons .int (.cons .int (.cons .int .nil))))))))) .nil) (ekI.fflag _).lst ?_)
 refine rl.run 1 rfl (rl.done (RW.seq (RW.seq ?_)))
 obtain ⟨y2,ey2,h2⟩:=bindS h1
 refine RW.cutq (σ:=Bool) (fun y2=>[(0,.ptr 0 0),(5,L_I v1),(21,.bool y2)]) (fun y2=>[some ⟨[.sl 1 0 x0.Disk.Sectors.length,.sl 2 0 x0.Disk.Cache.length,.j x0.Segs,.sl 3 0 x0.Used.length,.j x0.NextGen,.j x0.NextSeq,.j x0.Stamp,.j x0.NextValid],0⟩,some ⟨fl (encS true) x0.Disk.Sectors,1⟩,some ⟨fl (enc_TWrite true) x0.Disk.Cache,2⟩,some ⟨fl (enc_TSeg true) x0.Used,4⟩]) (fun y=>y2 = y) (fun _ _ _ _ g h=>RW.gh g h) ?_ ?_
 ·refine RW.reg ?_
  refine rl.run 1 rfl ?_
  refine rl.gen rfl rfl fun b hb=>?_
  cases b
  ·have h3:=iteBF ey2 hb
   refine rl.run 4 rfl ?_
   refine rl.gen rfl rfl fun b hb=>?_
   cases b
   ·have h4:=iteBF h3 hb
    refine rl.run 1 rfl (rl.done ?_)
    cases h4
    exact ⟨_,rfl,(Gh.renN [0,1,2,3] (.cells rfl rfl (.slq rfl rfl (.slq rfl rfl (.keep .int (.slq rfl rfl (.keep .int (.keep .int (.keep .int (.keep .int .nil)))))))) (.same rfl (ekS.fref _ _) (.same rfl (ek_TWrite.fref _ _) (.same rfl (ek_TSeg.fref _ _) .nil)))) rfl rfl rfl (.cons rfl (.ptr rfl) (.cons rfl (.dat (ekI.rlst)) (.cons rfl (.dat .bool) .nil))))⟩
   ·have h5:=iteBT h3 hb
    refine rl.run 1 rfl (rl.done ?_)
    cases h5
    exact ⟨_,rfl,(Gh.renN [0,1,2,3] (.cells rfl rfl (.slq rfl rfl (.slq rfl rfl (.keep .int (.slq rfl rfl (.keep .int (.keep .int (.keep .int (.keep .int .nil)))))))) (.same rfl (ekS.fref _ _) (.same rfl (ek_TWrite.fref _ _) (.same rfl (ek_TSeg.fref _ _) .nil)))) rfl rfl rfl (.cons rfl (.ptr rfl) (.cons rfl (.dat (ekI.rlst)) (.cons rfl (.dat .bool) .nil))))⟩
  ·have h6:=iteBT ey2 hb
   refine rl.run 6 rfl (rl.done ?_)
   cases h6
   exact ⟨_,rfl,(Gh.renN [0,1,2,3] (.cells rfl rfl (.slq rfl rfl (.slq rfl rfl (.keep .int (.slq rfl rfl (.keep .int (.keep .int (.keep .int (.keep .int .nil)))))))) (.same rfl (ekS.fref _ _) (.same rfl (ek_TWrite.fref _ _) (.same rfl (ek_TSeg.fref _ _) .nil)))) rfl rfl rfl (.cons rfl (.ptr rfl) (.cons rfl (.dat (ekI.rlst)) (.cons rfl (.dat .bool) .nil))))⟩
 ·intro y hC
  subst hC
  cases hb : y2
  ·have h7:=iteBF h2 hb
   refine RW.cond_f rfl (RW.skip (RW.sreg (rl.run 5 rfl ?_)))
   obtain ⟨v3,e3,h8⟩:=bindS h7
   refine rl.call rfl rfl rfl (CallW.val (r':=.tup [.str v3.1,.bool v3.2]) ok_spec_FrameText (law_spec_FrameText e3) (.cons (DFL.agg (.cons .int (.cons .int (.cons .str .nil)))) .nil) (FlL.tup (.cons .refl (.cons .refl .nil))) ?_)
   refine rl.run 5 rfl (rl.done (RW.sdrw (rdraw.op rfl rfl (rdraw.op rfl rfl (rdraw.op rfl rfl (rdraw.op rfl rfl (rdraw.op rfl rfl ?_)))))))
   obtain ⟨v4,e4,h9⟩:=bindS h8
   refine rdraw.op rfl (x_ia_lst (enc:=encI) (o:=false) rfl rfl rfl e4) ?_
   refine rdraw.op rfl (x_ld_el (off':=0) ekI rfl e4 rfl rfl rfl) ?_
   refine rdraw.op rfl rfl ?_
   obtain ⟨v5,e5,h10⟩:=bindS h9
   refine rdraw.call rfl rfl rfl (CallW.val (r':=.tup [.agg (enc_TDisk false v5.1),.bool v5.2]) ok_spec_SegWrite (law_spec_SegWrite e5) (.cons (DFL.agg (.cons (.slq ekS rfl rfl) (.cons (.slq ek_TWrite rfl rfl) .nil))) (.cons .int (.cons .int (.cons .str .nil)))) (FlL.tup (.cons (ek_TDisk.flag _).agg (.cons .refl .nil))) ⟨rfl,?_⟩)
   refine rdraw.op rfl rfl (rdraw.op rfl rfl (rdraw.op rfl rfl ?_))
   refine rdraw.chnB rfl rfl (.here (.rx rfl) (.here (.rx rfl) (.here (.rx rfl) (.here (.cl rfl rfl (CallW.val (r':=.tup [.agg (enc_TDisk false v5.1),.bool v5.2]) ok_spec_SegWrite (law_spec_SegWrite e5) (.cons (DFL.agg (.cons (.slq ekS rfl rfl) (.cons (.slq ek_TWrite rfl rfl) .nil))) (.cons .int (.cons .int (.cons .str .nil)))) (FlL.tup (.cons (ek_TDisk.flag _).agg (.cons .refl .nil))) ⟨rfl,rfl⟩)) (.here (.rx rfl) (.here (.rx (x_ld_el (off':=0) ekI rfl e4 rfl rfl rfl)) (.here (.rx (x_ia_lst (enc:=encI) (o:=false) rfl rfl rfl e4)) (.here (.rx rfl) (.here (.rx rfl) (.here (.rx rfl) (.here (.rx rfl) (.here (.rx rfl) .nil)))))))))))) ?_
   refine rdraw.chnB rfl rfl (.here (.rx rfl) (.skip rfl (.skip rfl (.skip rfl (.skip rfl (.skip rfl (.skip rfl (.skip rfl (.skip rfl (.skip rfl (.skip rfl (.skip rfl .nil)))))))))))) ?_
   refine rdraw.op rfl rfl (rdraw.done ?_)
   refine RW.kp [0,5,6,7,8,9] [(0,.ptr 0 0),(5,L_I v1),(6,.str v3.1),(7,.bool v3.2),(8,.ptr 4 0),(9,.bool v5.2)] [some ⟨[.sl 1 0 x0.Disk.Sectors.length,.sl 2 0 x0.Disk.Cache.length,.j x0.Segs,.sl 3 0 x0.Used.length,.j x0.NextGen,.j x0.NextSeq,.j x0.Stamp,.j x0.NextValid],0⟩,some ⟨fl (encS true) x0.Disk.Sectors,1⟩,some ⟨fl (enc_TWrite true) x0.Disk.Cache,2⟩,some ⟨fl (enc_TSeg true) x0.Used,4⟩,some ⟨[L_S v5.1.Sectors,L_TWrite v5.1.Cache],0⟩] rfl rfl ?_
   refine RW.seq (RW.seq ?_)
   obtain ⟨y6,ey6,h11⟩:=bindS h10
   refine RW.cutq (σ:=Bool) (fun y6=>[(0,.ptr 0 0),(5,L_I v1),(6,.str v3.1),(8,.ptr 1 0),(55,.bool y6)]) (fun y6=>[some ⟨[.sl 2 0 x0.Disk.Sectors.length,.sl 3 0 x0.Disk.Cache.length,.j x0.Segs,.sl 4 0 x0.Used.length,.j x0.NextGen,.j x0.NextSeq,.j x0.Stamp,.j x0.NextValid],0⟩,some ⟨[L_S v5.1.Sectors,L_TWrite v5.1.Cache],0⟩,some ⟨fl (encS true) x0.Disk.Sectors,1⟩,some ⟨fl (enc_TWrite true) x0.Disk.Cache,2⟩,some ⟨fl (enc_TSeg true) x0.Used,4⟩]) (fun y=>y6 = y) (fun _ _ _ _ g h=>RW.gh g h) ?_ ?_
   ·refine RW.reg ?_
    refine rl.run 3 rfl ?_
    cases hb : (!v3.2)
    ·have h12:=iteBF ey6 hb
     refine rl.run 4 rfl ?_
     cases hb : (!v5.2)
     ·have h13:=iteBF h12 hb
      refine rl.run 4 rfl ?_
      refine rl.gen rfl rfl fun b hb=>?_
      cases b
      ·have h14:=iteBF h13 hb
       refine rl.run 1 rfl (rl.done ?_)
       cases h14
       exact ⟨_,rfl,(Gh.renN [0,4,1,2,3] (.cells rfl rfl (.slq rfl rfl (.slq rfl rfl (.keep .int (.slq rfl rfl (.keep .int (.keep .int (.keep .int (.keep .int .nil)))))))) (.cells rfl rfl (.keep (ekS.rlst) (.keep (ek_TWrite.rlst) .nil)) (.same rfl (ekS.fref _ _) (.same rfl (ek_TWrite.fref _ _) (.same rfl (ek_TSeg.fref _ _) .nil))))) rfl rfl rfl (.cons rfl (.ptr rfl) (.cons rfl (.dat (ekI.rlst)) (.cons rfl (.dat .str) (.cons rfl (.ptr rfl) (.cons rfl (.dat .bool) .nil))))))⟩
      ·have h15:=iteBT h13 hb
       refine rl.run 1 rfl (rl.done ?_)
       cases h15
       exact ⟨_,rfl,(Gh.renN [0,4,1,2,3] (.cells rfl rfl (.slq rfl rfl (.slq rfl rfl (.keep .int (.slq rfl rfl (.keep .int (.keep .int (.keep .int (.keep .int .nil)))))))) (.cells rfl rfl (.keep (ekS.rlst) (.keep (ek_TWrite.rlst) .nil)) (.same rfl (ekS.fref _ _) (.same rfl (ek_TWrite.fref _ _) (.same rfl (ek_TSeg.fref _ _) .nil))))) rfl rfl rfl (.cons rfl (.ptr rfl) (.cons rfl (.dat (ekI.rlst)) (.cons rfl (.dat .str) (.cons rfl (.ptr rfl) (.cons rfl (.dat .bool) .nil))))))⟩
     ·have h16:=iteBT h12 hb
      refine rl.run 6 rfl (rl.done ?_)
      cases h16
      exact ⟨_,rfl,(Gh.renN [0,4,1,2,3] (.cells rfl rfl (.slq rfl rfl (.slq rfl rfl (.keep .int (.slq rfl rfl (.keep .int (.keep .int (.keep .int (.keep .int .nil)))))))) (.cells rfl rfl (.keep (ekS.rlst) (.keep (ek_TWrite.rlst) .nil)) (.same rfl (ekS.fref _ _) (.same rfl (ek_TWrite.fref _ _) (.same rfl (ek_TSeg.fref _ _) .nil))))) rfl rfl rfl (.cons rfl (.ptr rfl) (.cons rfl (.dat (ekI.rlst)) (.cons rfl (.dat .str) (.cons rfl (.ptr rfl) (.cons rfl (.dat .bool) .nil))))))⟩
    ·have h17:=iteBT ey6 hb
     refine rl.run 10 rfl (rl.done ?_)
     cases h17
     exact ⟨_,rfl,(Gh.renN [0,4,1,2,3] (.cells rfl rfl (.slq rfl rfl (.slq rfl rfl (.keep .int (.slq rfl rfl (.keep .int (.keep .int (.keep .int (.keep .int .nil)))))))) (.cells rfl rfl (.keep (ekS.rlst) (.keep (ek_TWrite.rlst) .nil)) (.same rfl (ekS.fref _ _) (.same rfl (ek_TWrite.fref _ _) (.same rfl (ek_TSeg.fref _ _) .nil))))) rfl rfl rfl (.cons rfl (.ptr rfl) (.cons rfl (.dat (ekI.rlst)) (.cons rfl (.dat .str) (.cons rfl (.ptr rfl) (.cons rfl (.dat .bool) .nil))))))⟩
   ·intro y hC
    subst hC
    cases hb : y6
    ·have h18:=iteBF h11 hb
     refine RW.cond_f rfl (RW.skip (RW.sreg (rl.run 2 rfl ?_)))
     obtain ⟨v7,e7,h19⟩:=bindS h18
     refine rl.call rfl rfl rfl (CallW.own (r':=.agg [.sl 5 0 v7.Sectors.length,.sl 6 0 v7.Cache.length]) (H':=[some ⟨[.sl 2 0 x0.Disk.Sectors.length,.sl 3 0 x0.Disk.Cache.length,.j x0.Segs,.sl 4 0 x0.Used.length,.j x0.NextGen,.j x0.NextSeq,.j x0.Stamp,.j x0.NextValid],0⟩,some ⟨[L_S v5.1.Sectors,L_TWrite v5.1.Cache],0⟩,some ⟨fl (encS true) x0.Disk.Sectors,1⟩,some ⟨fl (enc_TWrite true) x0.Disk.Cache,2⟩,some ⟨fl (enc_TSeg true) x0.Used,4⟩,some ⟨fl (encS true) v7.Sectors,1⟩,some ⟨fl (enc_TWrite true) v7.Cache,2⟩]) ok_spec_FlushDisk (law_spec_FlushDisk e7) (.cons (DFL.agg (.cons (.lst ekS) (.cons (.lst ek_TWrite) .nil))) .nil) (ek_TDisk.own _) rfl ?_)
     refine rl.run 3 rfl (rl.done (RW.sdrw (rdraw.op rfl rfl (rdraw.op rfl rfl (rdraw.op rfl rfl (rdraw.op rfl rfl (rdraw.op rfl rfl (rdraw.op rfl rfl ?_))))))))
     obtain ⟨v8,e8,h20⟩:=bindS h19
     refine rdraw.chnmB rfl (x_mv (o:=true) ek_TSeg rfl rfl rfl rfl rfl e8) (.skip rfl (.skip rfl (.skip rfl (.skip rfl (.skip rfl (.here (.rx rfl) .nil)))))) ?_
     refine rdraw.opA rfl rfl (.here (.rx rfl) .nil) ?_
     obtain ⟨v9,e9,h21⟩:=bindS h20
     refine rdraw.opA rfl (x_ia_lst (enc:=encI) (o:=false) rfl rfl rfl e9) (.here (.rx (x_ia_lst (enc:=encI) (o:=false) rfl rfl rfl e9)) .nil) ?_
     refine rdraw.opA rfl (x_ld_el (off':=0) ekI rfl e9 rfl rfl rfl) (.here (.rx (x_ld_el (off':=0) ekI rfl e9 rfl rfl rfl)) .nil) ?_
     refine rdraw.opA rfl rfl (.here (.rx rfl) .nil) ?_
     refine rdraw.opA rfl rfl (.here (.rx rfl) .nil) ?_
     refine rdraw.opA rfl rfl (.here (.rx rfl) .nil) ?_
     refine rdraw.opA rfl rfl (.here (.rx rfl) .nil) ?_
     refine rdraw.opA rfl rfl (.here (.rx rfl) .nil) ?_
     refine rdraw.opA rfl rfl (.here (.rx rfl) .nil) ?_
     refine rdraw.opA rfl rfl (.here (.rx rfl) .nil) ?_
     refine rdraw.litA (u:=.lst false 4 [.j v9,.j x0.NextGen,.j (v3.1.length : Int),.nils] 1) rfl rfl (Lit.mk rfl rfl) (.here (.lit rfl (Lit.mk rfl rfl)) .nil) ?_
     obtain ⟨v10,e10,h22⟩:=bindS h21
     refine rdraw.chnB rfl (x_app rfl rfl (rapp_raw ek_TSeg rfl rfl rfl e10)) (.skip rfl (.skip rfl (.skip rfl (.skip rfl (.skip rfl (.skip rfl (.skip rfl (.skip rfl (.skip rfl (.skip rfl (.skip rfl (.skip rfl (.skip rfl (.skip rfl (.skip rfl (.skip rfl (.here (.rx rfl) .nil))))))))))))))))) ?_
     refine rdraw.op rfl rfl (rdraw.op rfl rfl ?_)
     refine rdraw.chn rfl rfl ?_
     refine rdraw.done ?_
     refine RW.gh (Gh.own0 (b:=8) rfl (NL.append NL.refl (NL.append (.same (.same (.same (.nils (es:=9) .nil)))) NL.refl))) ?_
     refine RW.gh (Gh.blk (b:=8) rfl (raw_app (enc:=enc_TSeg) e10 rfl)) ?_
     refine RW.kp [0] [(0,.ptr 0 0)] [some ⟨[.sl 5 0 v7.Sectors.length,.sl 6 0 v7.Cache.length,.j x0.Segs,.sl 8 0 v10.length,.j x0.NextGen,.j x0.NextSeq,.j x0.Stamp,.j x0.NextValid],0⟩,some ⟨[L_S v5.1.Sectors,L_TWrite v5.1.Cache],0⟩,some ⟨fl (encS true) x0.Disk.Sectors,1⟩,some ⟨fl (enc_TWrite true) x0.Disk.Cache,2⟩,none,some ⟨fl (encS true) v7.Sectors,1⟩,some ⟨fl (enc_TWrite true) v7.Cache,2⟩,none,some ⟨fl (enc_TSeg true) v10,4⟩] rfl rfl ?_
     refine RW.sreg (rl.run 8 rfl (rl.done (RW.sreg (rl.run 1 rfl (rl.done (RW.ret ?_))))))
     cases h22
     exact RRetS.mk rfl .bool (Gh.trans (Gh.absorbq (b:=0) (j:=0) (m:=5) rfl rfl rfl (by decide) (by decide) rfl (ekS.flen true _) (ekS.fown _)) (Gh.trans (Gh.absorbq (b:=0) (j:=1) (m:=6) rfl rfl rfl (by decide) (by decide) rfl (ek_TWrite.flen true _) (ek_TWrite.fown _)) (Gh.trans (Gh.absorbq (b:=0) (j:=3) (m:=8) rfl rfl rfl (by decide) (by decide) rfl (ek_TSeg.flen true _) (ek_TSeg.fown _)) (Gh.renN [0] (.cells rfl rfl (.keep (ekS.rlst) (.keep (ek_TWrite.rlst) (.keep .int (.keep (ek_TSeg.rlst) (.keep .int (.keep .int (.keep .int (.keep .int .nil)))))))) .nil) rfl rfl rfl .nil))))
    ·have h23:=iteBT h11 hb
     refine RW.cond_t rfl (RW.sreg (rl.run 1 rfl (rl.done (RW.ret ?_))))
     cases h23
     exact RRetS.mk rfl .bool (Gh.trans (Gh.absorbq (b:=0) (j:=0) (m:=2) rfl rfl rfl (by decide) (by decide) rfl (ekS.flen true _) (ekS.fown _)) (Gh.trans (Gh.absorbq (b:=0) (j:=1) (m:=3) rfl rfl rfl (by decide) (by decide) rfl (ek_TWrite.flen true _) (ek_TWrite.fown _)) (Gh.trans (Gh.absorbq (b:=0) (j:=3) (m:=4) rfl rfl rfl (by decide) (by decide) rfl (ek_TSeg.flen true _) (ek_TSeg.fown _)) (Gh.renN [0] (.cells rfl rfl (.keep (ekS.rlst) (.keep (ek_TWrite.rlst) (.keep .int (.keep (ek_TSeg.rlst) (.keep .int (.keep .int (.keep .int (.keep .int .nil)))))))) .nil) rfl rfl rfl .nil))))
  ·have h24:=iteBT h2 hb
   refine RW.cond_t rfl (RW.sreg (rl.run 1 rfl (rl.done (RW.ret ?_))))
   cases h24
   exact RRetS.mk rfl .bool (Gh.trans (Gh.absorbq (b:=0) (j:=0) (m:=1) rfl rfl rfl (by decide) (by decide) rfl (ekS.flen true _) (ekS.fown _)) (Gh.trans (Gh.absorbq (b:=0) (j:=1) (m:=2) rfl rfl rfl (by decide) (by decide) rfl (ek_TWrite.flen true _) (ek_TWrite.fown _)) (Gh.trans (Gh.absorbq (b:=0) (j:=3) (m:=3) rfl rfl rfl (by decide) (by decide) rfl (ek_TSeg.flen true _) (ek_TSeg.fown _)) (Gh.renN [0] (.cells rfl rfl (.keep (ekS.rlst) (.keep (ek_TWrite.rlst) (.keep .int (.keep (ek_TSeg.rlst) (.keep .int (.keep .int (.keep .int (.keep .int .nil)))))))) .nil) rfl rfl rfl .nil))))
theorem law_spec_WordOk {x0 : List UInt8} {r : Bool} (hF : F_spec_WordOk x0 = some r) : PCalls Try.prog 124 [.str x0] (.bool r):=by
 refine PCalls.of_r k_spec_WordOk rfl ?_
 unfold F_spec_WordOk at hF
 refine RW.sreg (rl.run 1 rfl (rl.done (RW.seq (RW.sreg (rl.run 1 rfl (rl.done ?_))))))
 obtain ⟨y6,ey6,h2⟩:=bindS hF
 refine RW.cutq (σ:=Unit) (fun y2=>[(0,.str x0)]) (fun y2=>[]) (fun y=>y6 = .inr y) (fun _ _ _ _ g h=>RW.gh g h) ?_ ?_
 ·refine RW.blk ?_
  refine RW.iter (σ:=Int) ey6 (fun s1=>[(0,.str x0),(3,.j s1)]) (fun s1=>[]) (Gh.ren0 [] .nil rfl (.cons rfl (.dat .str) (.cons rfl (.dat .int) .nil))) (fun s1 B o hS1 hB1 hE1=>?_)
  unfold S_spec_WordOk_1 at hS1
  refine RW.seq (RW.sreg (rl.run 3 rfl ?_))
  refine rl.gen rfl rfl fun b hb=>?_
  cases b
  ·have h3:=iteBF hS1 hb
   refine rl.done (RW.cond_f rfl (RW.exit (blkA_eq ?_)))
   cases h3
   exact ⟨_,(hE1 _ rfl).symm,(Gh.ren0 [] .nil rfl (.cons rfl (.dat .str) .nil))⟩
  ·have h4:=iteBT hS1 hb
   refine rl.done (RW.cond_t rfl (RW.skip (RW.seq (RW.blk (RW.seq ?_)))))
   obtain ⟨y3,ey3,h5⟩:=bindS h4
   refine RW.cutq (σ:=Bool) (fun y3=>[(0,.str x0),(3,.j s1),(19,.bool y3)]) (fun y3=>[]) (fun y=>y3 = y) (fun _ _ _ _ g h=>RW.gh g h) ?_ ?_
   ·refine RW.reg ?_
    refine rl.run 2 rfl ?_
    obtain ⟨v4,e4,h6⟩:=bindS ey3
    refine rl.op (x_idx rfl rfl e4) ?_
    refine rl.gen rfl rfl fun b hb=>?_
    cases b
    ·have h7:=iteBF h6 hb
     refine rl.run 3 rfl ?_
     obtain ⟨v5,e5,h8⟩:=bindS h7
     refine rl.gop rfl (x_idx rfl rfl e5) ?_
     refine rl.gen rfl rfl fun b hb=>?_
     cases b
     ·have h9:=iteBF h8 hb
      refine rl.run 1 rfl (rl.done ?_)
      cases h9
      exact ⟨_,rfl,(Gh.ren0 [] .nil rfl (.cons rfl (.dat .str) (.cons rfl (.dat .int) (.cons rfl (.dat .bool) .nil))))⟩
     ·have h10:=iteBT h8 hb
      refine rl.run 1 rfl (rl.done ?_)
      cases h10
      exact ⟨_,rfl,(Gh.ren0 [] .nil rfl (.cons rfl (.dat .str) (.cons rfl (.dat .int) (.cons rfl (.dat .bool) .nil))))⟩
    ·have h11:=iteBT h6 hb
     refine rl.run 6 rfl (rl.done ?_)
     cases h11
     exact ⟨_,rfl,(Gh.ren0 [] .nil rfl (.cons rfl (.dat .str) (.cons rfl (.dat .int) (.cons rfl (.dat .bool) .nil))))⟩
   ·intro y hC
    subst hC
    cases hb : y3
    ·have h12:=iteBF h5 hb
     refine RW.cond_f rfl (RW.skip (RW.reg (rl.run 3 rfl (rl.done ?_))))
     cases h12
     exact hB1 _ rfl _ _ (Gh.ren0 [] .nil rfl (.cons rfl (.dat .str) (.cons rfl (.dat .int) .nil)))
    ·have h13:=iteBT h5 hb
     refine RW.cond_t rfl (RW.sreg (rl.run 1 rfl (rl.done (RW.ret ?_))))
     cases h13
     have h14:=elimL h2 (hE1 _ rfl)
     cases h14
     exact RRet.mk rfl .bool (by first | decide | simp)
 ·intro y2 hC
  have h2:=elimR h2 hC
  refine RW.sreg (rl.run 2 rfl ?_)
  obtain ⟨v7,e7,h15⟩:=bindS h2
  refine rl.call rfl rfl rfl (CallW.val (r':=.bool v7) ok_spec_l01In (law_spec_l01In e7) (.cons .int (.cons .int (.cons .int .nil))) .refl ?_)
  refine rl.run 1 rfl (rl.done (RW.ret ?_))
  cases h15
  exact RRet.mk rfl .bool (by first | decide | simp)
end Go.Proofs.Ytldndhdohlfpgaa.V
