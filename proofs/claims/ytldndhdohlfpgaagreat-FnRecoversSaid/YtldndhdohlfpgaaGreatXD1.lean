/- What a call comes to. -/
import Derived.Test.YtldndhdohlfpgaaGreatXD0
namespace Go.Proofs.YtldndhdohlfpgaaGreat.V
open Go Go.Proofs Go.RowKit
set_option maxRecDepth 100000
set_option maxHeartbeats 4000000
theorem Lo {x0:TDisk} {x1:Int} {x2:List UInt8} {r:TDisk×Bool} (hF:W0 x0 x1 x2=some r):A7 Tryz.prog 133 [.agg (A3 false x0),.j x1,.str x2] (.tup [.agg (A3 true r.1),.bool r.2]):=by
 refine A7.q Pq ?_;unfold W0 at hF;refine RW.sf 3 rfl (RW.sr 1 rfl ?_);obtain ⟨v1,e1,h1⟩:=A1 hF;refine rl.call rfl rfl rfl (A6.z (r':=.agg (C2 2 3 v1)) (H':=[some ⟨A3 false x0,0⟩,some ⟨[.nils,.nils],0⟩,some ⟨fl (encS true) v1.Sectors,1⟩,some ⟨fl (A2 true) v1.Cache,2⟩]) (K3 e1) ?_);refine rl.f 2 rfl (RW.sr 6 rfl ?_);obtain ⟨v2,e2,h2⟩:=A1 h1;refine rl.op (Ar rfl rfl (Y4 (l:=v1.Cache) (m:=[({ At:=x1,Text:=x2 }:TWrite)]) (o:=true) B2 rfl rfl (Q9 (m:=[({ At:=x1,Text:=x2 }:TWrite)]) (o:=true) Fg rfl rfl) rfl (Fg.fst _ _) e2)) ?_;refine rl.f 2 rfl ?_;refine RW.kp [3,6,8] [(3,.ptr 0 0),(6,.ptr 1 0),(8,.ptr 4 0)] [some ⟨A3 false x0,0⟩,some ⟨[.nils,.nils],0⟩,some ⟨fl (encS true) v1.Sectors,1⟩,none,some ⟨[.sl 2 0 v1.Sectors.length,.sl 6 0 v2.length],0⟩,some ⟨fl (A2 true) [({ At:=x1,Text:=x2 }:TWrite)],2⟩,some ⟨fl (A2 true) v2,2⟩] rfl rfl ?_;refine RW.seq (RW.seq ?_);obtain ⟨y3,ey3,h3⟩:=A1 h2
 refine RW.cutq (σ:=Bool) (fun y3=>[(3,.ptr 0 0),(6,.ptr 1 0),(8,.ptr 2 0),(26,.bool y3)]) (fun y3=>[some ⟨A3 false x0,0⟩,some ⟨[.nils,.nils],0⟩,some ⟨[.sl 3 0 v1.Sectors.length,.sl 4 0 v2.length],0⟩,some ⟨fl (encS true) v1.Sectors,1⟩,some ⟨fl (A2 true) v2,2⟩]) (fun y=>y3=y) gg ?_ ?_
 ·refine RW.reg ?_;refine rl.run 1 rfl ?_;obtain ⟨v4,e4,h4⟩:=A1 ey3;refine rl.call rfl rfl rfl (A6.y (r':=.bool v4) (X2 e4) ?_)
  cases hb:v4
  ·have h5:=A4 h4 hb;refine rl.f 6 rfl ?_;cases h5
   exact ⟨_,rfl,(Gh.y0 [0,1,4,2,6])⟩
  ·have h6:=A5 h4 hb;refine rl.run 3 rfl ?_;obtain ⟨v5,e5,h7⟩:=A1 h6;refine rl.call rfl rfl rfl (A6.y (r':=.bool v5) (X2 e5) ?_)
   cases hb:v5
   ·have h8:=A4 h7 hb;refine rl.f 2 rfl ?_;cases h8
    exact ⟨_,rfl,(Gh.y0 [0,1,4,2,6])⟩
   ·have h9:=A5 h7 hb;refine rl.f 2 rfl ?_;cases h9
    exact ⟨_,rfl,(Gh.y0 [0,1,4,2,6])⟩
 ·intro y hC
  subst hC
  cases hb:y3
  ·have h10:=A4 h3 hb;refine RW.cond_f rfl (RW.skip (RW.sf 3 rfl (RW.ret ?_)));cases h10
   exact RRet.y
  ·have h11:=A5 h3 hb;refine RW.cond_t rfl (RW.sr 1 rfl ?_);obtain ⟨v6,e6,h12⟩:=A1 h11;refine rl.call rfl rfl rfl (A6.z (r':=.agg (C2 5 6 v6)) (H':=[some ⟨A3 false x0,0⟩,some ⟨[.nils,.nils],0⟩,some ⟨[.sl 3 0 v1.Sectors.length,.sl 4 0 v2.length],0⟩,some ⟨fl (encS true) v1.Sectors,1⟩,some ⟨fl (A2 true) v2,2⟩,some ⟨fl (encS true) v6.Sectors,1⟩,some ⟨fl (A2 true) v6.Cache,2⟩]) (K3 e6) ?_);refine rl.f 2 rfl (RW.ret ?_);cases h12
   exact RRet.y
theorem Gp {x0:TDisk} {x1:Int} {x2:Int} {x3:List UInt8} {r:TDisk×Bool} (hF:Y2 x0 x1 x2 x3=some r):A7 Tryz.prog 68 [.agg (A3 false x0),.j x1,.j x2,.str x3] (.tup [.agg (A3 true r.1),.bool r.2]):=by
 refine A7.q Tb ?_;unfold Y2 at hF;refine RW.sf 3 rfl (RW.sr 1 rfl ?_);obtain ⟨v1,e1,h1⟩:=A1 hF;refine rl.call rfl rfl rfl (A6.z (r':=.agg (C2 2 3 v1)) (H':=[some ⟨A3 false x0,0⟩,some ⟨[.nils,.nils],0⟩,some ⟨fl (encS true) v1.Sectors,1⟩,some ⟨fl (A2 true) v1.Cache,2⟩]) (K3 e1) ?_);refine rl.f 2 rfl (RW.seq (RW.seq ?_));obtain ⟨y2,ey2,h2⟩:=A1 h1
 refine RW.cutq (σ:=Bool) (fun y2=>[(1,.j x1),(2,.j x2),(3,.str x3),(4,.ptr 0 0),(8,.ptr 1 0),(10,.ptr 2 0),(30,.bool y2)]) (fun y2=>[some ⟨A3 false x0,0⟩,some ⟨[.nils,.nils],0⟩,some ⟨C2 3 4 v1,0⟩,some ⟨fl (encS true) v1.Sectors,1⟩,some ⟨fl (A2 true) v1.Cache,2⟩]) (fun y=>y2=y) gg ?_ ?_
 ·refine RW.reg ?_;refine rl.run 1 rfl ?_;obtain ⟨v3,e3,h3⟩:=A1 ey2;refine rl.call rfl rfl rfl (A6.y (r':=.bool v3) (C9 e3) ?_)
  cases hb:v3
  ·have h4:=A4 h3 hb;refine rl.f 10 rfl ?_;cases h4
   exact ⟨_,rfl,(Gh.y0 [0,1,4,2,3])⟩
  ·have h5:=A5 h3 hb;refine rl.run 7 rfl ?_;obtain ⟨v4,e4,h6⟩:=A1 h5;refine rl.call rfl rfl rfl (A6.y (r':=.bool v4) (C9 e4) ?_)
   cases hb:v4
   ·have h7:=A4 h6 hb;refine rl.f 2 rfl ?_;cases h7
    exact ⟨_,rfl,(Gh.y0 [0,1,4,2,3])⟩
   ·have h8:=A5 h6 hb;refine rl.f 2 rfl ?_;cases h8
    exact ⟨_,rfl,(Gh.y0 [0,1,4,2,3])⟩
 ·intro y hC
  subst hC
  cases hb:y2
  ·have h9:=A4 h2 hb;refine RW.cond_f rfl (RW.skip (RW.sr 1 rfl ?_));obtain ⟨v5,e5,h10⟩:=A1 h9;refine rl.call rfl rfl rfl (A6.z (r':=.agg (C2 5 6 v5)) (H':=[some ⟨A3 false x0,0⟩,some ⟨[.nils,.nils],0⟩,some ⟨C2 3 4 v1,0⟩,some ⟨fl (encS true) v1.Sectors,1⟩,some ⟨fl (A2 true) v1.Cache,2⟩,some ⟨fl (encS true) v5.Sectors,1⟩,some ⟨fl (A2 true) v5.Cache,2⟩]) (K3 e5) ?_);refine rl.f 2 rfl (RW.seq ?_);obtain ⟨y17,ey17,h12⟩:=A1 h10
   refine RW.cutq (σ:=(List (List UInt8))×(List TWrite)) (fun y7=>[(8,.ptr 0 0),(11,.ptr 1 0)]) (fun y7=>[some ⟨[.nils,.nils],0⟩,some ⟨[.sl 2 0 y7.1.length,.sl 3 0 y7.2.length],0⟩,some ⟨fl (encS true) y7.1,1⟩,some ⟨fl (A2 true) y7.2,2⟩]) (fun y=>y17=.inr y) gg ?_ ?_
   ·refine RW.blk ?_
    refine RW.iter (σ:=Int×(List UInt8)×(List (List UInt8))×(List TWrite)) ey17 (fun s6=>[(1,.j x1),(2,.j s6.1),(3,.str s6.2.1),(8,.ptr 0 0),(10,.ptr 1 0),(11,.ptr 2 0)]) (fun s6=>[some ⟨[.nils,.nils],0⟩,some ⟨C2 3 4 v1,0⟩,some ⟨[.sl 5 0 s6.2.2.1.length,.sl 6 0 s6.2.2.2.length],0⟩,some ⟨fl (encS true) v1.Sectors,1⟩,some ⟨fl (A2 true) v1.Cache,2⟩,some ⟨fl (encS true) s6.2.2.1,1⟩,some ⟨fl (A2 true) s6.2.2.2,2⟩]) (Gh.y0 [1,2,7,3,4,5,6]) (fun s6 B o hS11 hB11 hE11=>?_)
    unfold L8 at hS11;refine RW.seq (RW.sr 1 rfl ?_)
    refine rl.gen rfl rfl fun b hb=>?_
    cases b
    ·have h13:=A4 hS11 hb;refine rl.done (RW.cond_f rfl (RW.exit (C4 ?_)));cases h13
     exact ⟨_,(hE11 _ rfl).symm,(Gh.y0 [0,2,5,6])⟩
    ·have h14:=A5 hS11 hb;refine rl.done (RW.cond_t rfl (RW.skip (RW.blk (RW.sf 5 rfl (RW.sf 3 rfl (RW.sr 2 rfl ?_))))));obtain ⟨v8,e8,h15⟩:=A1 h14;refine rl.call rfl rfl rfl (A6.y (r':=.tup [.str v8.1,.bool v8.2]) (Gn e8) ?_);refine rl.f 5 rfl ?_;refine RW.kp [1,2,3,8,10,11,12,13,14,15] [(1,.j x1),(2,.j s6.1),(3,.str s6.2.1),(8,.ptr 0 0),(10,.ptr 1 0),(11,.ptr 2 0),(12,.j (w64 (x1+(w64 (Int.tdiv s6.1 32))))),(13,.j (Int.tmod s6.1 32)),(14,.str v8.1),(15,.bool v8.2)] [some ⟨[.nils,.nils],0⟩,some ⟨C2 3 4 v1,0⟩,some ⟨[.sl 5 0 s6.2.2.1.length,.sl 6 0 s6.2.2.2.length],0⟩,some ⟨fl (encS true) v1.Sectors,1⟩,some ⟨fl (A2 true) v1.Cache,2⟩,some ⟨fl (encS true) s6.2.2.1,1⟩,some ⟨fl (A2 true) s6.2.2.2,2⟩] rfl rfl ?_;refine RW.seq (RW.seq ?_);obtain ⟨y9,ey9,h16⟩:=A1 h15
     refine RW.cutq (σ:=Bool) (fun y9=>[(1,.j x1),(2,.j s6.1),(3,.str s6.2.1),(8,.ptr 0 0),(10,.ptr 1 0),(11,.ptr 2 0),(12,.j (w64 (x1+(w64 (Int.tdiv s6.1 32))))),(13,.j (Int.tmod s6.1 32)),(14,.str v8.1),(54,.bool y9)]) (fun y9=>[some ⟨[.nils,.nils],0⟩,some ⟨C2 3 4 v1,0⟩,some ⟨[.sl 5 0 s6.2.2.1.length,.sl 6 0 s6.2.2.2.length],0⟩,some ⟨fl (encS true) v1.Sectors,1⟩,some ⟨fl (A2 true) v1.Cache,2⟩,some ⟨fl (encS true) s6.2.2.1,1⟩,some ⟨fl (A2 true) s6.2.2.2,2⟩]) (fun y=>y9=y) gg ?_ ?_
     ·refine RW.reg ?_;refine rl.run 3 rfl ?_
      cases hb:(!v8.2)
      ·have h17:=A4 ey9 hb;refine rl.run 2 rfl ?_
       refine rl.gen rfl rfl fun b hb=>?_
       cases b
       ·have h18:=A4 h17 hb;refine rl.f 1 rfl ?_;cases h18
        exact ⟨_,rfl,(Gh.y0 [0,1,2,3,4,5,6])⟩
       ·have h19:=A5 h17 hb;refine rl.f 1 rfl ?_;cases h19
        exact ⟨_,rfl,(Gh.y0 [0,1,2,3,4,5,6])⟩
      ·have h20:=A5 ey9 hb;refine rl.f 4 rfl ?_;cases h20
       exact ⟨_,rfl,(Gh.y0 [0,1,2,3,4,5,6])⟩
     ·intro y hC
      subst hC
      cases hb:y9
      ·have h21:=A4 h16 hb;refine RW.cond_f rfl (RW.skip (RW.sf 6 rfl (RW.sdrw (A0.op rfl rfl (A0.op rfl rfl (A0.op rfl rfl (A0.op rfl rfl ?_)))))));obtain ⟨v10,e10,h22⟩:=A1 h21;refine A0.op rfl (Gj rfl rfl rfl Fn e10) ?_;refine A0.op rfl rfl (A0.op rfl rfl ?_);obtain ⟨v11,e11,h23⟩:=A1 h22;refine A0.op rfl (Gj rfl rfl rfl Fn e11) ?_;obtain ⟨v12,e12,h24⟩:=A1 h23;refine A0.op rfl (Q3 rfl rfl e12) ?_;refine A0.op rfl rfl (A0.op rfl rfl (A0.op rfl rfl (A0.op rfl rfl ?_)));obtain ⟨v13,e13,h25⟩:=A1 h24;refine A0.op rfl (Gj rfl rfl rfl Md e13) ?_;obtain ⟨v14,e14,h26⟩:=A1 h25;refine A0.op rfl (Q3 rfl rfl e14) ?_;obtain ⟨v15,e15,h27⟩:=A1 h26;refine A0.ccall rfl rfl rfl (A6.z (r':=.tup [.agg (C2 7 8 v15.1),.bool v15.2]) (H':=[some ⟨[.nils,.nils],0⟩,some ⟨C2 3 4 v1,0⟩,some ⟨[.sl 5 0 s6.2.2.1.length,.sl 6 0 s6.2.2.2.length],0⟩,some ⟨fl (encS true) v1.Sectors,1⟩,some ⟨fl (A2 true) v1.Cache,2⟩,some ⟨fl (encS true) s6.2.2.1,1⟩,some ⟨fl (A2 true) s6.2.2.2,2⟩,some ⟨fl (encS true) v15.1.Sectors,1⟩,some ⟨fl (A2 true) v15.1.Cache,2⟩]) (Lo e15) ?_);refine A0.op rfl rfl (A0.op rfl rfl (A0.op rfl rfl ?_));refine A0.chnB rfl rfl (.here (.rx rfl) (.skip rfl (.skip rfl (.skip rfl (.skip rfl (.skip rfl (.skip rfl (.skip rfl (.skip rfl (.skip rfl (.skip rfl (.skip rfl (.skip rfl (.skip rfl (.skip rfl (.skip rfl (.skip rfl (.skip rfl .nil)))))))))))))))))) ?_;refine A0.op rfl rfl (A0.done ?_);refine RW.kp [1,2,3,8,10,11,15,16] [(1,.j x1),(2,.j s6.1),(3,.str s6.2.1),(8,.ptr 0 0),(10,.ptr 1 0),(11,.ptr 2 0),(15,.bool v15.2),(16,.j (if w64 (32 - (Int.tmod s6.1 32))<(s6.2.1.length:Int) then w64 (32 - (Int.tmod s6.1 32)) else (s6.2.1.length:Int)))] [some ⟨[.nils,.nils],0⟩,some ⟨C2 3 4 v1,0⟩,some ⟨C2 7 8 v15.1,0⟩,some ⟨fl (encS true) v1.Sectors,1⟩,some ⟨fl (A2 true) v1.Cache,2⟩,some ⟨fl (encS true) s6.2.2.1,1⟩,some ⟨fl (A2 true) s6.2.2.2,2⟩,some ⟨fl (encS true) v15.1.Sectors,1⟩,some ⟨fl (A2 true) v15.1.Cache,2⟩] rfl rfl ?_;refine RW.seq (RW.sf 2 rfl ?_)
       cases hb:(!v15.2)
       ·have h28:=A4 h27 hb;refine RW.cond_f rfl (RW.skip (RW.sr 2 rfl ?_));obtain ⟨v16,e16,h29⟩:=A1 h28;refine rl.op (Gj rfl rfl rfl Md e16) ?_;refine rl.f 1 rfl (RW.reg (rl.f 4 rfl ?_));cases h29
        exact hB11 _ rfl _ _ (Gh.y0 [0,1,2,3,4,7,8])
       ·have h30:=A5 h27 hb;refine RW.cond_t rfl (RW.sf 3 rfl (RW.ret ?_));cases h30;have h31:=elimL h12 (hE11 _ rfl);cases h31
        exact RRet.y
      ·have h32:=A5 h16 hb;refine RW.cond_t rfl (RW.sf 3 rfl (RW.ret ?_));cases h32;have h33:=elimL h12 (hE11 _ rfl);cases h33
       exact RRet.y
   ·intro y7 hC
    have h12:=elimR h12 hC;refine RW.sf 3 rfl (RW.ret ?_);cases h12
    exact RRet.y
  ·have h34:=A5 h2 hb;refine RW.cond_t rfl (RW.sf 3 rfl (RW.ret ?_));cases h34
   exact RRet.y
theorem Kr {x0:Int} {r:Int} (hF:Fp x0=some r):A7 Tryz.prog 69 [.j x0] (.j r):=by
 refine A7.q A0b ?_;unfold Fp at hF;refine RW.sf 1 rfl (RW.sf 4 rfl (RW.ret ?_));cases hF
 exact RRet.y
theorem Qi {x0:TDisk} {r:TDisk} (hF:Ae x0=some r):A7 Tryz.prog 70 [.agg (A3 false x0)] (.agg (A3 true r)):=by
 refine A7.q Vd ?_;unfold Ae at hF;refine RW.sf 2 rfl (RW.sr 1 rfl ?_);obtain ⟨v1,e1,h1⟩:=A1 hF;refine rl.call rfl rfl rfl (A6.z (r':=.agg (C2 2 3 v1)) (H':=[some ⟨A3 false x0,0⟩,some ⟨[.nils,.nils],0⟩,some ⟨fl (encS true) v1.Sectors,1⟩,some ⟨fl (A2 true) v1.Cache,2⟩]) (K3 e1) ?_);refine rl.f 2 rfl (RW.seq (RW.sr 1 rfl ?_));obtain ⟨v2,e2,h2⟩:=A1 h1;refine rl.call rfl rfl rfl (A6.y (r':=.bool v2) (X2 e2) ?_)
 cases hb:v2
 ·have h3:=A4 h2 hb;refine rl.f 1 rfl (RW.cond_t rfl (RW.sf 2 rfl (RW.ret ?_)));cases h3
  exact RRet.y
 ·have h4:=A5 h2 hb;refine rl.f 1 rfl (RW.cond_f rfl (RW.skip (RW.seq (RW.sf 4 rfl ?_))));obtain ⟨y8,ey8,h6⟩:=A1 h4
  refine RW.cutq (σ:=(List (List UInt8))) (fun y4=>[(2,.ptr 0 0),(3,.ptr 1 0)]) (fun y4=>[some ⟨[.nils,.nils],0⟩,some ⟨[.sl 2 0 y4.length,.sl 3 0 v1.Cache.length],0⟩,some ⟨fl (encS true) y4,1⟩,some ⟨fl (A2 true) v1.Cache,2⟩]) (fun y=>y8=y) gg ?_ ?_
  ·refine RW.blk ?_
   refine RW.iter (σ:=Int×(List (List UInt8))) ey8 (fun s3=>[(2,.ptr 0 0),(3,.ptr 1 0),(13,Jk x0.Cache),(14,.j (x0.Cache.length:Int)),(15,.j s3.1)]) (fun s3=>[some ⟨[.nils,.nils],0⟩,some ⟨[.sl 2 0 s3.2.length,.sl 3 0 v1.Cache.length],0⟩,some ⟨fl (encS true) s3.2,1⟩,some ⟨fl (A2 true) v1.Cache,2⟩]) (Gh.y0 [1,4,2,3]) (fun s3 B o hS5 hB5 hE5=>?_)
   unfold Ax at hS5;refine RW.sreg ?_
   refine rl.gen rfl rfl fun b hb=>?_
   cases b
   ·have h7:=A4 hS5 hb;refine rl.done (RW.seq (RW.cond_f rfl (RW.exit (C4 ?_))));cases h7
    exact ⟨_,(hE5 _ rfl).symm,(Gh.y0 [0,1,2,3])⟩
   ·have h8:=A5 hS5 hb;refine rl.done (RW.seq (RW.cond_t rfl (RW.skip (RW.seq (RW.blk (RW.sreg ?_))))));obtain ⟨v5,e5,h9⟩:=A1 h8;refine rl.op (C0 (enc:=A2) (o:=false) rfl rfl rfl e5) ?_;refine rl.op (K2 (off':=0) (vs:=(A2 false v5)) B2 rfl e5 rfl rfl rfl) ?_;refine rl.f 2 rfl (RW.reg (rl.run 6 rfl ?_));obtain ⟨v6,e6,h10⟩:=A1 h9;refine rl.op (M7 rfl rfl rfl rfl e6) ?_;obtain ⟨v7,e7,h11⟩:=A1 h10;refine rl.op0 (Yz (off':=0) (o:=true) (e':=v5.Text) ekS e6 rfl rfl rfl rfl rfl rfl rfl rfl rfl e7) ?_;refine rl.done (RW.reg (rl.f 2 rfl ?_));cases h11
    exact hB5 _ rfl _ _ (Gh.ren0 [0,1,2,3] (.c rfl rfl (.keep .nils (.keep .nils .nil)) (.c rfl rfl (.slq rfl (Co e7) (.slq rfl rfl .nil)) (.same rfl (ekS.fref _ _) (.same rfl (B2.fref _ _) .nil)))) rfl (.p rfl rfl (.p rfl rfl (.cons rfl (.dat (B2.rlst)) (.i rfl (.i rfl .nil))))))
  ·intro y4 hC
   subst hC;refine RW.sf 2 rfl (RW.sf 2 rfl (RW.ret ?_));cases h6
   exact RRet.y
theorem Gr {x0:TDisk} {x1:TCheck} {r:TDisk×Bool} (hF:Y1 x0 x1=some r):A7 Tryz.prog 19 [.agg (A3 false x0),.agg (B7 false x1)] (.tup [.agg (A3 true r.1),.bool r.2]):=by
 refine A7.q Tf ?_;unfold Y1 at hF;refine RW.sf 4 rfl (RW.sr 1 rfl ?_);obtain ⟨v1,e1,h1⟩:=A1 hF;refine rl.call rfl rfl rfl (A6.y (r':=.tup [.str v1.1,.bool v1.2]) (Hw e1) ?_);refine rl.f 5 rfl (RW.seq (RW.sr 1 rfl ?_));obtain ⟨v2,e2,h2⟩:=A1 h1;refine rl.call rfl rfl rfl (A6.y (r':=.bool v2) (X2 e2) ?_)
 cases hb:v2
 ·have h3:=A4 h2 hb;refine rl.f 5 rfl ?_;refine RW.kp [2,3,4,6,21] [(2,.ptr 0 0),(3,.ptr 1 0),(4,.ptr 2 0),(6,.str v1.1),(21,.bool true)] [some ⟨A3 false x0,0⟩,some ⟨B7 false x1,0⟩,some ⟨[.nils,.nils],0⟩] rfl rfl ?_;refine RW.cond_t rfl (RW.sr 1 rfl ?_);obtain ⟨v3,e3,h4⟩:=A1 h3;refine rl.call rfl rfl rfl (A6.z (r':=.agg (C2 3 4 v3)) (H':=[some ⟨A3 false x0,0⟩,some ⟨B7 false x1,0⟩,some ⟨[.nils,.nils],0⟩,some ⟨fl (encS true) v3.Sectors,1⟩,some ⟨fl (A2 true) v3.Cache,2⟩]) (K3 e3) ?_);refine rl.f 2 rfl (RW.ret ?_);cases h4
  exact RRet.y
 ·have h5:=A5 h2 hb;refine rl.f 5 rfl ?_;refine RW.kp [2,3,4,6,21] [(2,.ptr 0 0),(3,.ptr 1 0),(4,.ptr 2 0),(6,.str v1.1),(21,.bool (!v1.2))] [some ⟨A3 false x0,0⟩,some ⟨B7 false x1,0⟩,some ⟨[.nils,.nils],0⟩] rfl rfl ?_
  cases hb:(!v1.2)
  ·have h6:=A4 h5 hb;refine RW.cond_f rfl (RW.skip (RW.sdrw (A0.op rfl rfl (A0.op rfl rfl (A0.op rfl rfl ?_)))));obtain ⟨v4,e4,h7⟩:=A1 h6;refine A0.call rfl rfl rfl (A6.y (r':=.j v4) (Kr e4) ⟨rfl,?_⟩);refine A0.op rfl rfl ?_;obtain ⟨v5,e5,h8⟩:=A1 h7;refine A0.call rfl rfl rfl (A6.y (r':=.tup [.agg (A3 false v5.1),.bool v5.2]) (Gp e5) ⟨rfl,?_⟩);refine A0.op rfl rfl (A0.op rfl rfl (A0.op rfl rfl ?_));refine A0.chnB rfl rfl (.here (.rx rfl) (.here (.rx rfl) (.here (.rx rfl) (.here (.cl rfl rfl (A6.y (r':=.tup [.agg (A3 false v5.1),.bool v5.2]) (Gp e5) ⟨rfl,rfl⟩)) (.here (.rx rfl) (.here (.cl rfl rfl (A6.y (r':=.j v4) (Kr e4) ⟨rfl,rfl⟩)) (.here (.rx rfl) (.here (.rx rfl) (.here (.rx rfl) .nil))))))))) ?_;refine A0.chnB rfl rfl (.here (.rx rfl) (.skip rfl (.skip rfl (.skip rfl (.skip rfl (.skip rfl (.skip rfl (.skip rfl (.skip rfl .nil))))))))) ?_;refine A0.op rfl rfl (A0.done ?_);refine RW.kp [2,4,8,9] [(2,.ptr 0 0),(4,.ptr 2 0),(8,.ptr 3 0),(9,.bool v5.2)] [some ⟨A3 false x0,0⟩,some ⟨B7 false x1,0⟩,some ⟨[.nils,.nils],0⟩,some ⟨A3 false v5.1,0⟩] rfl rfl ?_;refine RW.seq (RW.sf 2 rfl ?_)
   cases hb:(!v5.2)
   ·have h9:=A4 h8 hb;refine RW.cond_f rfl (RW.skip (RW.sr 1 rfl ?_));obtain ⟨v6,e6,h10⟩:=A1 h9;refine rl.call rfl rfl rfl (A6.z (r':=.agg (C2 4 5 v6)) (H':=[some ⟨A3 false x0,0⟩,some ⟨B7 false x1,0⟩,some ⟨[.nils,.nils],0⟩,some ⟨A3 false v5.1,0⟩,some ⟨fl (encS true) v6.Sectors,1⟩,some ⟨fl (A2 true) v6.Cache,2⟩]) (Qi e6) ?_);refine rl.f 2 rfl (RW.ret ?_);cases h10
    exact RRet.y
   ·have h11:=A5 h8 hb;refine RW.cond_t rfl (RW.sr 1 rfl ?_);obtain ⟨v7,e7,h12⟩:=A1 h11;refine rl.call rfl rfl rfl (A6.z (r':=.agg (C2 4 5 v7)) (H':=[some ⟨A3 false x0,0⟩,some ⟨B7 false x1,0⟩,some ⟨[.nils,.nils],0⟩,some ⟨A3 false v5.1,0⟩,some ⟨fl (encS true) v7.Sectors,1⟩,some ⟨fl (A2 true) v7.Cache,2⟩]) (K3 e7) ?_);refine rl.f 2 rfl (RW.ret ?_);cases h12
    exact RRet.y
  ·have h13:=A5 h5 hb;refine RW.cond_t rfl (RW.sr 1 rfl ?_);obtain ⟨v8,e8,h14⟩:=A1 h13;refine rl.call rfl rfl rfl (A6.z (r':=.agg (C2 3 4 v8)) (H':=[some ⟨A3 false x0,0⟩,some ⟨B7 false x1,0⟩,some ⟨[.nils,.nils],0⟩,some ⟨fl (encS true) v8.Sectors,1⟩,some ⟨fl (A2 true) v8.Cache,2⟩]) (K3 e8) ?_);refine rl.f 2 rfl (RW.ret ?_);cases h14
   exact RRet.y
theorem Fh {x0:TLog} {r:TCheck} (hF:W1 x0=some r):A7 Tryz.prog 20 [.agg (B5 false x0)] (.agg (B7 true r)):=by
 refine A7.q Yu ?_;unfold W1 at hF;refine RW.sf 2 rfl (RW.sf 12 rfl ?_);refine RW.kp [1,2,3] [(1,.ptr 0 0),(2,.ptr 1 0),(3,.ptr 2 0)] [some ⟨B5 false x0,0⟩,some ⟨[.j 0,.j 0,.j 0,.j 0,.nils],0⟩,some ⟨[.j (w64 (x0.Stamp+1)),.j x0.NextGen,.j x0.NextSeq,.j x0.NextValid,.nils],0⟩] rfl rfl ?_;refine RW.seq (RW.sf 1 rfl ?_);refine RW.gh (Gh.nil_c 2 4 2 rfl rfl) ?_;obtain ⟨y6,ey6,h2⟩:=A1 hF
 refine RW.cutq (σ:=(List TRef)) (fun y2=>[(2,.ptr 0 0),(3,.ptr 1 0)]) (fun y2=>[some ⟨[.j 0,.j 0,.j 0,.j 0,.nils],0⟩,some ⟨[.j (w64 (x0.Stamp+1)),.j x0.NextGen,.j x0.NextSeq,.j x0.NextValid,.sl 2 0 y2.length],0⟩,some ⟨fl (C8 true) y2,2⟩]) (fun y=>y6=y) gg ?_ ?_
 ·refine RW.blk ?_
  refine RW.iter (σ:=Int×(List TRef)) ey6 (fun s1=>[(1,.ptr 0 0),(2,.ptr 1 0),(3,.ptr 2 0),(4,.j s1.1)]) (fun s1=>[some ⟨B5 false x0,0⟩,some ⟨[.j 0,.j 0,.j 0,.j 0,.nils],0⟩,some ⟨[.j (w64 (x0.Stamp+1)),.j x0.NextGen,.j x0.NextSeq,.j x0.NextValid,.sl 3 0 s1.2.length],0⟩,some ⟨fl (C8 true) s1.2,2⟩]) (Gh.y0 [0,1,2,3]) (fun s1 B o hS1 hB1 hE1=>?_)
  unfold Dc at hS1;refine RW.seq (RW.sr 4 rfl ?_)
  refine rl.gen rfl rfl fun b hb=>?_
  cases b
  ·have h3:=A4 hS1 hb;refine rl.done (RW.cond_f rfl (RW.exit (C4 ?_)));cases h3
   exact ⟨_,(hE1 _ rfl).symm,(Gh.y0 [1,2,3])⟩
  ·have h4:=A5 hS1 hb;refine rl.done (RW.cond_t rfl (RW.skip (RW.seq (RW.blk (RW.drw (A0.op rfl rfl (A0.op rfl rfl (A0.op rfl rfl (A0.op rfl rfl (A0.op rfl rfl ?_))))))))));obtain ⟨v3,e3,h5⟩:=A1 h4;refine A0.op rfl (C0 (enc:=A8) (o:=false) rfl rfl rfl e3) ?_;refine A0.op rfl rfl ?_;refine A0.op rfl (H7 (off':=0) B3 rfl e3 rfl rfl rfl) ?_;refine A0.op rfl rfl (A0.op rfl rfl (A0.op rfl rfl ?_));obtain ⟨v4,e4,h6⟩:=A1 h5;refine A0.op rfl (C0 (enc:=A8) (o:=false) rfl rfl rfl e4) ?_;refine A0.op rfl rfl ?_;refine A0.op rfl (H7 (off':=1) B3 rfl e4 rfl rfl rfl) ?_;refine A0.op rfl rfl ?_;refine A0.chnB rfl rfl (.skip rfl (.skip rfl (.skip rfl (.skip rfl (.skip rfl (.skip rfl (.skip rfl (.skip rfl (.skip rfl (.skip rfl (.skip rfl (.skip rfl (.skip rfl (.here (.rx rfl) (.here (.rx rfl) .nil))))))))))))))) ?_;obtain ⟨v5,e5,h7⟩:=A1 h6;refine A0.chn rfl (Ar rfl rfl (Y4 (l:=s1.2) (m:=[({ No:=v3.No,Gen:=v4.Gen }:TRef)]) (o:=true) Z0 rfl rfl (Q9 (m:=[({ No:=v3.No,Gen:=v4.Gen }:TRef)]) (o:=true) Rz rfl rfl) rfl (Rz.fst _ _) e5)) ?_;refine A0.op rfl rfl ?_;refine A0.chn rfl rfl ?_;refine A0.done (RW.reg (rl.f 3 rfl ?_));cases h7
   exact hB1 _ rfl _ _ (Gh.y0 [0,1,2,5])
 ·intro y2 hC
  subst hC;refine RW.sf 2 rfl (RW.ret ?_);cases h2
  exact RRet.y
theorem Ky {x0:List TItem} {x1:List TItem} {r:Bool} (hF:T8 x0 x1=some r):A7 Tryz.prog 137 [H9 x0,H9 x1] (.bool r):=by
 refine A7.q Mt ?_;unfold T8 at hF;refine RW.sf 1 rfl (RW.seq (RW.sr 4 rfl ?_))
 refine rl.gen rfl rfl fun b hb=>?_
 cases b
 ·have h1:=A4 hF hb;refine rl.done (RW.cond_f rfl (RW.skip (RW.seq (RW.sf 3 rfl ?_))));obtain ⟨y5,ey5,h3⟩:=A1 h1
  refine RW.cutq (σ:=Unit) (fun y2=>[]) (fun y2=>[]) (fun y=>y5=.inr y) gg ?_ ?_
  ·refine RW.blk ?_
   refine RW.iter (σ:=Int) ey5 (fun s1=>[(0,H9 x0),(1,H9 x1),(12,.j (x0.length:Int)),(13,.j s1)]) (fun s1=>[]) (Gh.y0 []) (fun s1 B o hS2 hB2 hE2=>?_)
   unfold Q4 at hS2;refine RW.sreg ?_
   refine rl.gen rfl rfl fun b hb=>?_
   cases b
   ·have h4:=A4 hS2 hb;refine rl.done (RW.seq (RW.cond_f rfl (RW.exit (C4 ?_))));cases h4
    exact ⟨_,(hE2 _ rfl).symm,(Gh.y0 [])⟩
   ·have h5:=A5 hS2 hb;refine rl.done (RW.seq (RW.cond_t rfl (RW.skip (RW.seq (RW.blk (RW.sf 2 rfl (RW.sdrw (A0.op rfl rfl (A0.op rfl rfl ?_)))))))));obtain ⟨v3,e3,h6⟩:=A1 h5;refine A0.op rfl (C0 (enc:=A9) (o:=false) rfl rfl rfl e3) ?_;refine A0.op rfl (K2 (off':=0) (vs:=(A9 false v3)) C7 rfl e3 rfl rfl rfl) ?_;refine A0.op rfl rfl (A0.op rfl rfl ?_);obtain ⟨v4,e4,h7⟩:=A1 h6;refine A0.op rfl (C0 (enc:=A9) (o:=false) rfl rfl rfl e4) ?_;refine A0.op rfl (K2 (off':=0) (vs:=(A9 false v4)) C7 rfl e4 rfl rfl rfl) ?_
    refine A0.gen rfl rfl fun b hb=>?_
    cases b
    ·have h8:=A4 h7 hb;refine A0.done ?_;refine RW.kp [0,1,12,13,24] [(0,H9 x0),(1,H9 x1),(12,.j (x0.length:Int)),(13,.j s1),(24,.bool false)] [] rfl rfl ?_;refine RW.cond_f rfl (RW.skip (RW.reg (rl.f 2 rfl ?_)));cases h8
     exact hB2 _ rfl _ _ (Gh.y0 [])
    ·have h9:=A5 h7 hb;refine A0.done ?_;refine RW.kp [0,1,12,13,24] [(0,H9 x0),(1,H9 x1),(12,.j (x0.length:Int)),(13,.j s1),(24,.bool true)] [] rfl rfl ?_;refine RW.cond_t rfl (RW.sf 1 rfl (RW.ret ?_));cases h9;have h10:=elimL h3 (hE2 _ rfl);cases h10
     exact RRet.y
  ·intro y2 hC
   have h3:=elimR h3 hC;refine RW.sf 1 rfl (RW.ret ?_);cases h3
   exact RRet.y
 ·have h11:=A5 hF hb;refine rl.done (RW.cond_t rfl (RW.sf 1 rfl (RW.ret ?_)));cases h11
  exact RRet.y
theorem Ui {x0:TSeg} {x1:TSeg} {r:Bool} (hF:Cj x0 x1=some r):A7 Tryz.prog 74 [.agg (A8 false x0),.agg (A8 false x1)] (.bool r):=by
 refine A7.q Zk ?_;unfold Cj at hF;refine RW.sf 3 rfl (RW.seq ?_);obtain ⟨y1,ey1,h1⟩:=A1 hF
 refine RW.cutq (σ:=Bool) (fun y1=>[(4,.bool y1)]) (fun y1=>[]) (fun y=>y1=y) gg ?_ ?_
 ·refine RW.reg ?_;refine rl.run 4 rfl ?_
  refine rl.gen rfl rfl fun b hb=>?_
  cases b
  ·have h2:=A4 ey1 hb;refine rl.f 22 rfl ?_;cases h2
   exact ⟨_,rfl,(Gh.y0 [])⟩
  ·have h3:=A5 ey1 hb;refine rl.run 5 rfl ?_
   refine rl.gen rfl rfl fun b hb=>?_
   cases b
   ·have h4:=A4 h3 hb;refine rl.f 16 rfl ?_;cases h4
    exact ⟨_,rfl,(Gh.y0 [])⟩
   ·have h5:=A5 h3 hb;refine rl.run 6 rfl ?_
    refine rl.gen rfl rfl fun b hb=>?_
    cases b
    ·have h6:=A4 h5 hb;refine rl.f 9 rfl ?_;cases h6
     exact ⟨_,rfl,(Gh.y0 [])⟩
    ·have h7:=A5 h5 hb;refine rl.run 6 rfl ?_;obtain ⟨v2,e2,h8⟩:=A1 h7;refine rl.call rfl rfl rfl (A6.y (r':=.bool v2) (Ky e2) ?_);refine rl.f 2 rfl ?_;cases h8
     exact ⟨_,rfl,(Gh.y0 [])⟩
 ·intro y hC
  subst hC;refine RW.ret ?_;cases h1
  exact RRet.y
theorem Fa {x0:List TSeg} {x1:List TSeg} {r:Bool} (hF:J8 x0 x1=some r):A7 Tryz.prog 73 [Q1 x0,Q1 x1,.fn 74 []] (.bool r):=by
 refine A7.q Kp ?_;unfold J8 at hF;refine RW.sf 1 rfl (RW.seq (RW.sr 4 rfl ?_))
 refine rl.gen rfl rfl fun b hb=>?_
 cases b
 ·have h1:=A4 hF hb;refine rl.done (RW.cond_f rfl (RW.skip (RW.seq (RW.sf 3 rfl ?_))));obtain ⟨y6,ey6,h3⟩:=A1 h1
  refine RW.cutq (σ:=Unit) (fun y2=>[]) (fun y2=>[]) (fun y=>y6=.inr y) gg ?_ ?_
  ·refine RW.blk ?_
   refine RW.iter (σ:=Int) ey6 (fun s1=>[(1,Q1 x1),(2,.fn 74 []),(15,Q1 x0),(16,.j (x0.length:Int)),(17,.j s1)]) (fun s1=>[]) (Gh.y0 []) (fun s1 B o hS2 hB2 hE2=>?_)
   unfold H6 at hS2;refine RW.sreg ?_
   refine rl.gen rfl rfl fun b hb=>?_
   cases b
   ·have h4:=A4 hS2 hb;refine rl.done (RW.seq (RW.cond_f rfl (RW.exit (C4 ?_))));cases h4
    exact ⟨_,(hE2 _ rfl).symm,(Gh.y0 [])⟩
   ·have h5:=A5 hS2 hb;refine rl.done (RW.seq (RW.cond_t rfl (RW.skip (RW.seq (RW.blk (RW.sr 1 rfl ?_))))));obtain ⟨v3,e3,h6⟩:=A1 h5;refine rl.op (C0 (enc:=A8) (o:=false) rfl rfl rfl e3) ?_;refine rl.op (K2 (off':=0) (vs:=(A8 false v3)) B3 rfl e3 rfl rfl rfl) ?_;refine rl.f 3 rfl (RW.sr 2 rfl ?_);obtain ⟨v4,e4,h7⟩:=A1 h6;refine rl.op (C0 (enc:=A8) (o:=false) rfl rfl rfl e4) ?_;refine rl.op (K2 (off':=0) (vs:=(A8 false v4)) B3 rfl e4 rfl rfl rfl) ?_;refine rl.f 2 rfl (RW.sr 3 rfl ?_);obtain ⟨v5,e5,h8⟩:=A1 h7;refine rl.call rfl rfl rfl (A6.y (r':=.bool v5) (Ui e5) ?_)
    cases hb:v5
    ·have h9:=A4 h8 hb;refine rl.f 1 rfl ?_;refine RW.kp [1,2,15,16,17,30] [(1,Q1 x1),(2,.fn 74 []),(15,Q1 x0),(16,.j (x0.length:Int)),(17,.j s1),(30,.bool true)] [some ⟨A8 false v3,0⟩,some ⟨A8 false v4,0⟩] rfl rfl ?_;refine RW.cond_t rfl (RW.sf 1 rfl (RW.ret ?_));cases h9;have h10:=elimL h3 (hE2 _ rfl);cases h10
     exact RRet.y
    ·have h11:=A5 h8 hb;refine rl.f 1 rfl ?_;refine RW.kp [1,2,15,16,17,30] [(1,Q1 x1),(2,.fn 74 []),(15,Q1 x0),(16,.j (x0.length:Int)),(17,.j s1),(30,.bool false)] [some ⟨A8 false v3,0⟩,some ⟨A8 false v4,0⟩] rfl rfl ?_;refine RW.cond_f rfl (RW.skip (RW.reg (rl.f 2 rfl ?_)));cases h11
     exact hB2 _ rfl _ _ (Gh.y0 [])
  ·intro y2 hC
   have h3:=elimR h3 hC;refine RW.sf 1 rfl (RW.ret ?_);cases h3
   exact RRet.y
 ·have h12:=A5 hF hb;refine rl.done (RW.cond_t rfl (RW.sf 1 rfl (RW.ret ?_)));cases h12
  exact RRet.y
theorem Jq {x0:TLog} {x1:TLog} {r:Bool} (hF:V8 x0 x1=some r):A7 Tryz.prog 22 [.agg (B5 false x0),.agg (B5 false x1)] (.bool r):=by
 refine A7.q Xz ?_;unfold V8 at hF;refine RW.sf 3 rfl (RW.seq ?_);obtain ⟨y1,ey1,h1⟩:=A1 hF
 refine RW.cutq (σ:=Bool) (fun y1=>[(4,.bool y1)]) (fun y1=>[]) (fun y=>y1=y) gg ?_ ?_
 ·refine RW.reg ?_;refine rl.run 4 rfl ?_;obtain ⟨v2,e2,h2⟩:=A1 ey1;refine rl.call rfl rfl rfl (A6.y (r':=.bool v2) (Fa e2) ?_)
  cases hb:v2
  ·have h3:=A4 h2 hb;refine rl.f 22 rfl ?_;cases h3
   exact ⟨_,rfl,(Gh.y0 [])⟩
  ·have h4:=A5 h2 hb;refine rl.run 5 rfl ?_
   refine rl.gen rfl rfl fun b hb=>?_
   cases b
   ·have h5:=A4 h4 hb;refine rl.f 16 rfl ?_;cases h5
    exact ⟨_,rfl,(Gh.y0 [])⟩
   ·have h6:=A5 h4 hb;refine rl.run 6 rfl ?_
    refine rl.gen rfl rfl fun b hb=>?_
    cases b
    ·have h7:=A4 h6 hb;refine rl.f 9 rfl ?_;cases h7
     exact ⟨_,rfl,(Gh.y0 [])⟩
    ·have h8:=A5 h6 hb;refine rl.f 9 rfl ?_;cases h8
     exact ⟨_,rfl,(Gh.y0 [])⟩
 ·intro y hC
  subst hC;refine RW.ret ?_;cases h1
  exact RRet.y
theorem A1l {x0:List Int} {r:Bool} (hF:Ee x0=some r):A7 Tryz.prog 8 [L_B x0] (.bool r):=by
 refine A7.q A49 ?_;unfold Ee at hF;refine RW.sf 1 rfl (RW.sf 4 rfl (RW.ret ?_));cases hF
 exact RRet.y
theorem Vq {x0:Int} {x1:Int} {r:List UInt8} (hF:Es x0 x1=some r):A7 Tryz.prog 140 [.j x0,.int .u8 x1] (.str r):=by
 refine A7.q Zz ?_;unfold Es at hF;refine RW.sf 1 rfl (RW.sr 1 rfl ?_);obtain ⟨v1,e1,h1⟩:=A1 hF;refine rl.op (x_ms ekB rfl rfl e1 rfl) ?_;refine rl.f 1 rfl (RW.seq (RW.sf 1 rfl ?_));obtain ⟨y6,ey6,h3⟩:=A1 h1
 refine RW.cutq (σ:=(List Int)) (fun y3=>[(5,.sl 0 0 y3.length)]) (fun y3=>[some ⟨fl (encB true) y3,1⟩]) (fun y=>y6=y) gg ?_ ?_
 ·refine RW.blk ?_
  refine RW.iter (σ:=Int×(List Int)) ey6 (fun s2=>[(0,.j x0),(1,.int .u8 x1),(5,.sl 0 0 s2.2.length),(6,.j s2.1)]) (fun s2=>[some ⟨fl (encB true) s2.2,1⟩]) (Gh.y0 [0]) (fun s2 B o hS2 hB2 hE2=>?_)
  unfold Z5 at hS2;refine RW.seq (RW.sr 2 rfl ?_)
  refine rl.gen rfl rfl fun b hb=>?_
  cases b
  ·have h4:=A4 hS2 hb;refine rl.done (RW.cond_f rfl (RW.exit (C4 ?_)));cases h4
   exact ⟨_,(hE2 _ rfl).symm,(Gh.y0 [0])⟩
  ·have h5:=A5 hS2 hb;refine rl.done (RW.cond_t rfl (RW.skip (RW.seq (RW.blk (RW.reg (rl.run 3 rfl ?_))))));obtain ⟨v4,e4,h6⟩:=A1 h5;refine rl.op (M7 rfl rfl rfl rfl e4) ?_;obtain ⟨v5,e5,h7⟩:=A1 h6;refine rl.op0 (Yz (off':=0) (o:=true) (e':=x1) ekB e4 rfl rfl rfl rfl rfl rfl rfl rfl rfl e5) ?_;refine rl.done (RW.reg (rl.f 3 rfl ?_));cases h7
   exact hB2 _ rfl _ _ (Gh.ren0 [0] (.same rfl (ekB.fref _ _) .nil) rfl (.i rfl (.i rfl (.cons rfl (.slq rfl (Co e5)) (.i rfl .nil)))))
 ·intro y3 hC
  subst hC;refine RW.sr 1 rfl ?_;refine rl.op (Jl (o:=true) (l:=y6) rfl rfl) ?_;refine rl.f 1 rfl (RW.ret ?_);cases h3
  exact RRet.y
theorem Tx  {r:List UInt8} (hF:Bv  = some r):A7 Tryz.prog 158 [] (.str r):=by
 refine A7.q Yw ?_;unfold Bv at hF;refine RW.sf 1 rfl (RW.sreg ?_);obtain ⟨v1,e1,h1⟩:=A1 hF;refine rl.call rfl rfl rfl (A6.y (r':=.str v1) (Vq e1) ?_);refine rl.f 1 rfl (RW.ret ?_);cases h1
 exact RRet.y
theorem C1 {x0:Int} {x1:Int} {x2:Int} {r:Bool} (hF:B8 x0 x1 x2=some r):A7 Tryz.prog 91 [.j x0,.j x1,.j x2] (.bool r):=by
 refine A7.q A2k ?_;unfold B8 at hF;refine RW.sf 1 rfl (RW.sr 2 rfl ?_)
 refine rl.gen rfl rfl fun b hb=>?_
 cases b
 ·have h1:=A4 hF hb;refine rl.f 6 rfl ?_;refine RW.kp [6] [(6,.bool false)] [] rfl rfl ?_;refine RW.ret ?_;cases h1
  exact RRet.y
 ·have h2:=A5 hF hb;refine rl.f 6 rfl ?_;refine RW.kp [6] [(6,.bool (decide (x0≤x2)))] [] rfl rfl ?_;refine RW.ret ?_;cases h2
  exact RRet.y
theorem Vs {x0:Int} {r:TDisk×Bool} (hF:Cn x0=some r):A7 Tryz.prog 163 [.j x0] (.tup [.agg (A3 true r.1),.bool r.2]):=by
 refine A7.q A00 ?_;unfold Cn at hF;refine RW.sf 2 rfl (RW.seq (RW.sr 1 rfl ?_));obtain ⟨v1,e1,h1⟩:=A1 hF;refine rl.call rfl rfl rfl (A6.y (r':=.bool v1) (C1 e1) ?_)
 cases hb:v1
 ·have h2:=A4 h1 hb;refine rl.f 1 rfl (RW.cond_t rfl (RW.sf 3 rfl (RW.ret ?_)));cases h2
  exact RRet.y
 ·have h3:=A5 h1 hb;refine rl.f 1 rfl (RW.cond_f rfl (RW.skip (RW.sf 3 rfl (RW.seq (RW.sf 1 rfl ?_)))));refine RW.gh (Gh.nil_c 1 0 1 rfl rfl) ?_;obtain ⟨y6,ey6,h5⟩:=A1 h3
  refine RW.cutq (σ:=(List (List UInt8))) (fun y3=>[(2,.ptr 0 0),(4,.ptr 1 0)]) (fun y3=>[some ⟨[.nils,.nils],0⟩,some ⟨[.sl 2 0 y3.length,.nils],0⟩,some ⟨fl (encS true) y3,1⟩]) (fun y=>y6=y) gg ?_ ?_
  ·refine RW.blk ?_
   refine RW.iter (σ:=Int×(List (List UInt8))) ey6 (fun s2=>[(0,.j x0),(2,.ptr 0 0),(4,.ptr 1 0),(5,.j s2.1)]) (fun s2=>[some ⟨[.nils,.nils],0⟩,some ⟨[.sl 2 0 s2.2.length,.nils],0⟩,some ⟨fl (encS true) s2.2,1⟩]) (Gh.y0 [0,1,2]) (fun s2 B o hS4 hB4 hE4=>?_)
   unfold Cx at hS4;refine RW.seq (RW.sr 2 rfl ?_)
   refine rl.gen rfl rfl fun b hb=>?_
   cases b
   ·have h6:=A4 hS4 hb;refine rl.done (RW.cond_f rfl (RW.exit (C4 ?_)));cases h6
    exact ⟨_,(hE4 _ rfl).symm,(Gh.y0 [0,1,2])⟩
   ·have h7:=A5 hS4 hb;refine rl.done (RW.cond_t rfl (RW.skip (RW.seq (RW.blk (RW.drw (A0.op rfl rfl (A0.op rfl rfl ?_)))))));obtain ⟨v4,e4,h8⟩:=A1 h7;refine A0.call rfl rfl rfl (A6.y (r':=.str v4) (Tx e4) ⟨rfl,?_⟩);refine A0.chnB rfl rfl (.skip rfl (.here (.rx rfl) (.here (.rx rfl) .nil))) ?_;obtain ⟨v5,e5,h9⟩:=A1 h8;refine A0.chn rfl (Ar rfl rfl (Y4 (l:=s2.2) (m:=[v4]) (o:=true) ekS rfl rfl (Q9 (m:=[v4]) (o:=true) fkS rfl rfl) rfl (fkS.fst _ _) e5)) ?_;refine A0.op rfl rfl ?_;refine A0.chn rfl rfl ?_;refine A0.done (RW.reg (rl.f 3 rfl ?_));cases h9
    exact hB4 _ rfl _ _ (Gh.y0 [0,1,4])
  ·intro y3 hC
   subst hC;refine RW.sf 3 rfl (RW.ret ?_);cases h5
   exact RRet.y
theorem K6 {x0:TDisk} {r:TDisk} (hF:E2 x0=some r):A7 Tryz.prog 109 [.agg (A3 false x0)] (.agg (A3 true r)):=by
 refine A7.q Xo ?_;unfold E2 at hF;refine RW.sf 2 rfl (RW.sdrw (A0.op rfl rfl (A0.op rfl rfl (A0.op rfl rfl ?_))));obtain ⟨v1,e1,h1⟩:=A1 hF;refine A0.chn rfl (Ar rfl rfl (Ln (m:=x0.Sectors) (o:=true) ekS Fm rfl (fkS.fst _ _) e1)) ?_;refine A0.opA rfl rfl (.here (.rx rfl) .nil) ?_;refine A0.opA rfl rfl (.here (.rx rfl) .nil) ?_;refine A0.opA rfl rfl (.here (.rx rfl) .nil) ?_;obtain ⟨v2,e2,h2⟩:=A1 h1;refine A0.chn rfl (Ar rfl rfl (Ln (m:=x0.Cache) (o:=true) B2 Fm rfl (Fg.fst _ _) e2)) ?_;refine A0.op rfl rfl ?_;refine A0.chn rfl rfl ?_;refine A0.done ?_;refine RW.kp [2] [(2,.ptr 1 0)] [some ⟨A3 false x0,0⟩,some ⟨[.sl 2 0 v1.length,.sl 3 0 v2.length],0⟩,some ⟨fl (encS true) v1,1⟩,some ⟨fl (A2 true) v2,2⟩] rfl rfl ?_;refine RW.ret ?_;cases h2
 exact RRet.y
theorem Dz {x0:TDisk} {r:Bool} (hF:U3 x0=some r):A7 Tryz.prog 89 [.agg (A3 false x0)] (.bool r):=by
 refine A7.q A0d ?_;unfold U3 at hF;refine RW.sf 2 rfl (RW.seq (RW.seq ?_));obtain ⟨y1,ey1,h1⟩:=A1 hF
 refine RW.cutq (σ:=Bool) (fun y1=>[(1,.ptr 0 0),(15,.bool y1)]) (fun y1=>[some ⟨A3 false x0,0⟩]) (fun y=>y1=y) gg ?_ ?_
 ·refine RW.reg ?_;refine rl.run 3 rfl ?_;obtain ⟨v2,e2,h2⟩:=A1 ey1;refine rl.call rfl rfl rfl (A6.y (r':=.bool v2) (C1 e2) ?_)
  cases hb:v2
  ·have h3:=A4 h2 hb;refine rl.f 7 rfl ?_;cases h3
   exact ⟨_,rfl,(Gh.y0 [0])⟩
  ·have h4:=A5 h2 hb;refine rl.run 5 rfl ?_
   refine rl.gen rfl rfl fun b hb=>?_
   cases b
   ·have h5:=A4 h4 hb;refine rl.f 1 rfl ?_;cases h5
    exact ⟨_,rfl,(Gh.y0 [0])⟩
   ·have h6:=A5 h4 hb;refine rl.f 1 rfl ?_;cases h6
    exact ⟨_,rfl,(Gh.y0 [0])⟩
 ·intro y hC
  subst hC
  cases hb:y1
  ·have h7:=A4 h1 hb;refine RW.cond_f rfl (RW.skip (RW.seq (RW.sf 1 rfl ?_)));obtain ⟨y6,ey6,h9⟩:=A1 h7
   refine RW.cutq (σ:=Unit) (fun y4=>[(1,.ptr 0 0)]) (fun y4=>[some ⟨A3 false x0,0⟩]) (fun y=>y6=.inr y) gg ?_ ?_
   ·refine RW.blk ?_
    refine RW.iter (σ:=Int) ey6 (fun s3=>[(1,.ptr 0 0),(3,.j s3)]) (fun s3=>[some ⟨A3 false x0,0⟩]) (Gh.y0 [0]) (fun s3 B o hS8 hB8 hE8=>?_)
    unfold Be at hS8;refine RW.seq (RW.sr 4 rfl ?_)
    refine rl.gen rfl rfl fun b hb=>?_
    cases b
    ·have h10:=A4 hS8 hb;refine rl.done (RW.cond_f rfl (RW.exit (C4 ?_)));cases h10
     exact ⟨_,(hE8 _ rfl).symm,(Gh.y0 [0])⟩
    ·have h11:=A5 hS8 hb;refine rl.done (RW.cond_t rfl (RW.skip (RW.seq (RW.blk (RW.sr 3 rfl ?_)))));obtain ⟨v5,e5,h12⟩:=A1 h11;refine rl.op (C0 (enc:=encS) (o:=false) rfl rfl rfl e5) ?_;refine rl.op (H7 (off':=0) ekS rfl e5 rfl rfl rfl) ?_;refine rl.run 1 rfl ?_
     refine rl.gen rfl rfl fun b hb=>?_
     cases b
     ·have h13:=A4 h12 hb;refine rl.done ?_;refine RW.kp [1,3,29] [(1,.ptr 0 0),(3,.j s3),(29,.bool false)] [some ⟨A3 false x0,0⟩] rfl rfl ?_;refine RW.cond_f rfl (RW.skip (RW.reg (rl.f 3 rfl ?_)));cases h13
      exact hB8 _ rfl _ _ (Gh.y0 [0])
     ·have h14:=A5 h12 hb;refine rl.done ?_;refine RW.kp [1,3,29] [(1,.ptr 0 0),(3,.j s3),(29,.bool true)] [some ⟨A3 false x0,0⟩] rfl rfl ?_;refine RW.cond_t rfl (RW.sf 1 rfl (RW.ret ?_));cases h14;have h15:=elimL h9 (hE8 _ rfl);cases h15
      exact RRet.y
   ·intro y4 hC
    have h9:=elimR h9 hC;refine RW.seq (RW.sf 1 rfl ?_);obtain ⟨y13,ey13,h17⟩:=A1 h9
    refine RW.cutq (σ:=Unit) (fun y8=>[]) (fun y8=>[]) (fun y=>y13=.inr y) gg ?_ ?_
    ·refine RW.blk ?_
     refine RW.iter (σ:=Int) ey13 (fun s7=>[(1,.ptr 0 0),(4,.j s7)]) (fun s7=>[some ⟨A3 false x0,0⟩]) (Gh.y0 [0]) (fun s7 B o hS16 hB16 hE16=>?_)
     unfold Bb at hS16;refine RW.seq (RW.sr 4 rfl ?_)
     refine rl.gen rfl rfl fun b hb=>?_
     cases b
     ·have h18:=A4 hS16 hb;refine rl.done (RW.cond_f rfl (RW.exit (C4 ?_)));cases h18
      exact ⟨_,(hE16 _ rfl).symm,(Gh.y0 [])⟩
     ·have h19:=A5 hS16 hb;refine rl.done (RW.cond_t rfl (RW.skip (RW.seq (RW.blk (RW.seq ?_)))));obtain ⟨y9,ey9,h20⟩:=A1 h19
      refine RW.cutq (σ:=Bool) (fun y9=>[(1,.ptr 0 0),(4,.j s7),(58,.bool y9)]) (fun y9=>[some ⟨A3 false x0,0⟩]) (fun y=>y9=y) gg ?_ ?_
      ·refine RW.drw ?_;refine A0.op rfl rfl (A0.op rfl rfl (A0.op rfl rfl ?_));obtain ⟨v10,e10,h21⟩:=A1 ey9;refine A0.op rfl (C0 (enc:=A2) (o:=false) rfl rfl rfl e10) ?_;refine A0.op rfl rfl ?_;refine A0.op rfl (H7 (off':=0) B2 rfl e10 rfl rfl rfl) ?_;refine A0.op rfl rfl (A0.op rfl rfl (A0.op rfl rfl (A0.op rfl rfl ?_)));obtain ⟨v11,e11,h22⟩:=A1 h21;refine A0.call rfl rfl rfl (A6.y (r':=.bool v11) (C1 e11) ⟨rfl,?_⟩)
       cases hb:v11
       ·have h23:=A4 h22 hb;refine A0.op rfl rfl (A0.op rfl rfl (A0.off rfl (A0.off rfl (A0.off rfl (A0.off rfl (A0.off rfl (A0.off rfl (A0.off rfl (A0.off rfl (A0.op rfl rfl (A0.done ?_)))))))))));cases h23
        exact ⟨_,rfl,(Gh.y0 [0])⟩
       ·have h24:=A5 h22 hb;refine A0.op rfl rfl (A0.op rfl rfl (A0.op rfl rfl (A0.op rfl rfl (A0.op rfl rfl ?_))));obtain ⟨v12,e12,h25⟩:=A1 h24;refine A0.op rfl (C0 (enc:=A2) (o:=false) rfl rfl rfl e12) ?_;refine A0.op rfl rfl ?_;refine A0.op rfl (H7 (off':=1) B2 rfl e12 rfl rfl rfl) ?_;refine A0.op rfl rfl ?_
        refine A0.gen rfl rfl fun b hb=>?_
        cases b
        ·have h26:=A4 h25 hb;refine A0.op rfl rfl (A0.done ?_);cases h26
         exact ⟨_,rfl,(Gh.y0 [0])⟩
        ·have h27:=A5 h25 hb;refine A0.op rfl rfl (A0.done ?_);cases h27
         exact ⟨_,rfl,(Gh.y0 [0])⟩
      ·intro y hC
       subst hC
       cases hb:y9
       ·have h28:=A4 h20 hb;refine RW.cond_f rfl (RW.skip (RW.reg (rl.f 3 rfl ?_)));cases h28
        exact hB16 _ rfl _ _ (Gh.y0 [0])
       ·have h29:=A5 h20 hb;refine RW.cond_t rfl (RW.sf 1 rfl (RW.ret ?_));cases h29;have h30:=elimL h17 (hE16 _ rfl);cases h30
        exact RRet.y
    ·intro y8 hC
     have h17:=elimR h17 hC;refine RW.sf 1 rfl (RW.ret ?_);cases h17
     exact RRet.y
  ·have h31:=A5 h1 hb;refine RW.cond_t rfl (RW.sf 1 rfl (RW.ret ?_));cases h31
   exact RRet.y
theorem Fq {x0:TDisk} {x1:Int} {x2:List UInt8} {r:TDisk×Bool} (hF:L2 x0 x1 x2=some r):A7 Tryz.prog 141 [.agg (A3 false x0),.j x1,.str x2] (.tup [.agg (A3 true r.1),.bool r.2]):=by
 refine A7.q Pv ?_;unfold L2 at hF;refine RW.sf 3 rfl (RW.sr 1 rfl ?_);obtain ⟨v1,e1,h1⟩:=A1 hF;refine rl.call rfl rfl rfl (A6.z (r':=.agg (C2 2 3 v1)) (H':=[some ⟨A3 false x0,0⟩,some ⟨[.nils,.nils],0⟩,some ⟨fl (encS true) v1.Sectors,1⟩,some ⟨fl (A2 true) v1.Cache,2⟩]) (K6 e1) ?_);refine rl.f 2 rfl (RW.seq (RW.seq ?_));obtain ⟨y2,ey2,h2⟩:=A1 h1
 refine RW.cutq (σ:=Bool) (fun y2=>[(1,.j x1),(2,.str x2),(6,.ptr 0 0),(8,.ptr 1 0),(33,.bool y2)]) (fun y2=>[some ⟨[.nils,.nils],0⟩,some ⟨C2 2 3 v1,0⟩,some ⟨fl (encS true) v1.Sectors,1⟩,some ⟨fl (A2 true) v1.Cache,2⟩]) (fun y=>y2=y) gg ?_ ?_
 ·refine RW.reg ?_;refine rl.run 1 rfl ?_;obtain ⟨v3,e3,h3⟩:=A1 ey2;refine rl.call rfl rfl rfl (A6.y (r':=.bool v3) (Dz e3) ?_)
  cases hb:v3
  ·have h4:=A4 h3 hb;refine rl.f 21 rfl ?_;cases h4
   exact ⟨_,rfl,(Gh.y0 [1,4,2,3])⟩
  ·have h5:=A5 h3 hb;refine rl.run 7 rfl ?_;obtain ⟨v4,e4,h6⟩:=A1 h5;refine rl.call rfl rfl rfl (A6.y (r':=.bool v4) (C1 e4) ?_)
   cases hb:v4
   ·have h7:=A4 h6 hb;refine rl.f 13 rfl ?_;cases h7
    exact ⟨_,rfl,(Gh.y0 [1,4,2,3])⟩
   ·have h8:=A5 h6 hb;refine rl.run 5 rfl ?_
    refine rl.gen rfl rfl fun b hb=>?_
    cases b
    ·have h9:=A4 h8 hb;refine rl.run 5 rfl ?_
     refine rl.gen rfl rfl fun b hb=>?_
     cases b
     ·have h10:=A4 h9 hb;refine rl.f 1 rfl ?_;cases h10
      exact ⟨_,rfl,(Gh.y0 [1,4,2,3])⟩
     ·have h11:=A5 h9 hb;refine rl.f 1 rfl ?_;cases h11
      exact ⟨_,rfl,(Gh.y0 [1,4,2,3])⟩
    ·have h12:=A5 h8 hb;refine rl.f 7 rfl ?_;cases h12
     exact ⟨_,rfl,(Gh.y0 [1,4,2,3])⟩
 ·intro y hC
  subst hC
  cases hb:y2
  ·have h13:=A4 h2 hb;refine RW.cond_f rfl (RW.skip (RW.sr 6 rfl ?_));obtain ⟨v5,e5,h14⟩:=A1 h13;refine rl.op (Ar rfl rfl (Y4 (l:=v1.Cache) (m:=[({ At:=x1,Text:=x2 }:TWrite)]) (o:=true) B2 rfl rfl (Q9 (m:=[({ At:=x1,Text:=x2 }:TWrite)]) (o:=true) Fg rfl rfl) rfl (Fg.fst _ _) e5)) ?_;refine rl.f 2 rfl ?_;refine RW.kp [6,8] [(6,.ptr 0 0),(8,.ptr 1 0)] [some ⟨[.nils,.nils],0⟩,some ⟨[.sl 2 0 v1.Sectors.length,.sl 5 0 v5.length],0⟩,some ⟨fl (encS true) v1.Sectors,1⟩,none,some ⟨fl (A2 true) [({ At:=x1,Text:=x2 }:TWrite)],2⟩,some ⟨fl (A2 true) v5,2⟩] rfl rfl ?_;refine RW.sf 3 rfl (RW.ret ?_);cases h14
   exact RRet.y
  ·have h15:=A5 h2 hb;refine RW.cond_t rfl (RW.sf 3 rfl (RW.ret ?_));cases h15
   exact RRet.y
theorem Gm {x0:TDisk} {x1:Int} {r:(List UInt8)×Bool} (hF:K9 x0 x1=some r):A7 Tryz.prog 160 [.agg (A3 false x0),.j x1] (.tup [.str r.1,.bool r.2]):=by
 refine A7.q Ry ?_;unfold K9 at hF;refine RW.sf 3 rfl (RW.seq (RW.sr 5 rfl ?_));obtain ⟨v1,e1,h1⟩:=A1 hF;refine rl.call rfl rfl rfl (A6.y (r':=.bool v1) (C1 e1) ?_)
 cases hb:v1
 ·have h2:=A4 h1 hb;refine rl.f 1 rfl (RW.cond_t rfl (RW.sf 2 rfl (RW.ret ?_)));cases h2
  exact RRet.y
 ·have h3:=A5 h1 hb;refine rl.f 1 rfl (RW.cond_f rfl (RW.skip (RW.seq (RW.sf 5 rfl ?_))));refine RW.kp [1,2,6] [(1,.j x1),(2,.ptr 0 0),(6,.j (w64 ((x0.Cache.length:Int) - 1)))] [some ⟨A3 false x0,0⟩] rfl rfl ?_;obtain ⟨y6,ey6,h5⟩:=A1 h3
  refine RW.cutq (σ:=Unit) (fun y3=>[(1,.j x1),(2,.ptr 0 0)]) (fun y3=>[some ⟨A3 false x0,0⟩]) (fun y=>y6=.inr y) gg ?_ ?_
  ·refine RW.blk ?_
   refine RW.iter (σ:=Int) ey6 (fun s2=>[(1,.j x1),(2,.ptr 0 0),(6,.j s2)]) (fun s2=>[some ⟨A3 false x0,0⟩]) (Gh.y0 [0]) (fun s2 B o hS4 hB4 hE4=>?_)
   unfold P4 at hS4;refine RW.seq (RW.sr 1 rfl ?_)
   refine rl.gen rfl rfl fun b hb=>?_
   cases b
   ·have h6:=A4 hS4 hb;refine rl.done (RW.cond_f rfl (RW.exit (C4 ?_)));cases h6
    exact ⟨_,(hE4 _ rfl).symm,(Gh.y0 [0])⟩
   ·have h7:=A5 hS4 hb;refine rl.done (RW.cond_t rfl (RW.skip (RW.seq (RW.blk (RW.sr 3 rfl ?_)))));obtain ⟨v4,e4,h8⟩:=A1 h7;refine rl.op (C0 (enc:=A2) (o:=false) rfl rfl rfl e4) ?_;refine rl.run 1 rfl ?_;refine rl.op (H7 (off':=0) B2 rfl e4 rfl rfl rfl) ?_;refine rl.run 1 rfl ?_
    refine rl.gen rfl rfl fun b hb=>?_
    cases b
    ·have h9:=A4 h8 hb;refine rl.done (RW.cond_f rfl (RW.skip (RW.reg (rl.f 3 rfl ?_))));cases h9
     exact hB4 _ rfl _ _ (Gh.y0 [0])
    ·have h10:=A5 h8 hb;refine rl.done (RW.cond_t rfl (RW.sr 3 rfl ?_));obtain ⟨v5,e5,h11⟩:=A1 h10;refine rl.op (C0 (enc:=A2) (o:=false) rfl rfl rfl e5) ?_;refine rl.run 1 rfl ?_;refine rl.op (H7 (off':=1) B2 rfl e5 rfl rfl rfl) ?_;refine rl.f 2 rfl ?_;refine RW.kp [4,5] [(4,.str v5.Text),(5,.bool true)] [some ⟨A3 false x0,0⟩] rfl rfl ?_;refine RW.ret ?_;cases h11;have h12:=elimL h5 (hE4 _ rfl);cases h12
     exact RRet.y
  ·intro y3 hC
   have h5:=elimR h5 hC;refine RW.sr 3 rfl ?_;obtain ⟨v7,e7,h13⟩:=A1 h5;refine rl.op (C0 (enc:=encS) (o:=false) rfl rfl rfl e7) ?_;refine rl.op (H7 (off':=0) ekS rfl e7 rfl rfl rfl) ?_;refine rl.f 2 rfl (RW.ret ?_);cases h13
   exact RRet.y
theorem Gl {x0:TDisk} {x1:Int} {x2:Int} {x3:List UInt8} {r:TDisk×Bool} (hF:J9 x0 x1 x2 x3=some r):A7 Tryz.prog 110 [.agg (A3 false x0),.j x1,.j x2,.str x3] (.tup [.agg (A3 true r.1),.bool r.2]):=by
 refine A7.q Qz ?_;unfold J9 at hF;refine RW.sf 3 rfl (RW.sr 1 rfl ?_);obtain ⟨v1,e1,h1⟩:=A1 hF;refine rl.call rfl rfl rfl (A6.z (r':=.agg (C2 2 3 v1)) (H':=[some ⟨A3 false x0,0⟩,some ⟨[.nils,.nils],0⟩,some ⟨fl (encS true) v1.Sectors,1⟩,some ⟨fl (A2 true) v1.Cache,2⟩]) (K6 e1) ?_);refine rl.f 2 rfl (RW.seq (RW.seq ?_));obtain ⟨y2,ey2,h2⟩:=A1 h1
 refine RW.cutq (σ:=Bool) (fun y2=>[(1,.j x1),(2,.j x2),(3,.str x3),(4,.ptr 0 0),(8,.ptr 1 0),(10,.ptr 2 0),(37,.bool y2)]) (fun y2=>[some ⟨A3 false x0,0⟩,some ⟨[.nils,.nils],0⟩,some ⟨C2 3 4 v1,0⟩,some ⟨fl (encS true) v1.Sectors,1⟩,some ⟨fl (A2 true) v1.Cache,2⟩]) (fun y=>y2=y) gg ?_ ?_
 ·refine RW.reg ?_;refine rl.run 1 rfl ?_;obtain ⟨v3,e3,h3⟩:=A1 ey2;refine rl.call rfl rfl rfl (A6.y (r':=.bool v3) (C1 e3) ?_)
  cases hb:v3
  ·have h4:=A4 h3 hb;refine rl.f 15 rfl ?_;cases h4
   exact ⟨_,rfl,(Gh.y0 [0,1,4,2,3])⟩
  ·have h5:=A5 h3 hb;refine rl.run 7 rfl ?_;obtain ⟨v4,e4,h6⟩:=A1 h5;refine rl.call rfl rfl rfl (A6.y (r':=.bool v4) (C1 e4) ?_)
   cases hb:v4
   ·have h7:=A4 h6 hb;refine rl.f 7 rfl ?_;cases h7
    exact ⟨_,rfl,(Gh.y0 [0,1,4,2,3])⟩
   ·have h8:=A5 h6 hb;refine rl.run 4 rfl ?_;obtain ⟨v5,e5,h9⟩:=A1 h8;refine rl.call rfl rfl rfl (A6.y (r':=.bool v5) (Dz e5) ?_)
    cases hb:v5
    ·have h10:=A4 h9 hb;refine rl.f 2 rfl ?_;cases h10
     exact ⟨_,rfl,(Gh.y0 [0,1,4,2,3])⟩
    ·have h11:=A5 h9 hb;refine rl.f 2 rfl ?_;cases h11
     exact ⟨_,rfl,(Gh.y0 [0,1,4,2,3])⟩
 ·intro y hC
  subst hC
  cases hb:y2
  ·have h12:=A4 h2 hb;refine RW.cond_f rfl (RW.skip (RW.seq (RW.sf 1 rfl ?_)));obtain ⟨y28,ey28,h14⟩:=A1 h12
   refine RW.cutq (σ:=(List (List UInt8))×(List TWrite)) (fun y7=>[(8,.ptr 0 0),(10,.ptr 1 0)]) (fun y7=>[some ⟨[.nils,.nils],0⟩,some ⟨[.sl 2 0 y7.1.length,.sl 3 0 y7.2.length],0⟩,some ⟨fl (encS true) y7.1,1⟩,some ⟨fl (A2 true) y7.2,2⟩]) (fun y=>y28=.inr y) gg ?_ ?_
   ·refine RW.blk ?_
    refine RW.iter (σ:=Int×(List (List UInt8))×(List TWrite)) ey28 (fun s6=>[(1,.j x1),(2,.j x2),(3,.str x3),(4,.ptr 0 0),(8,.ptr 1 0),(10,.ptr 2 0),(11,.j s6.1)]) (fun s6=>[some ⟨A3 false x0,0⟩,some ⟨[.nils,.nils],0⟩,some ⟨[.sl 3 0 s6.2.1.length,.sl 4 0 s6.2.2.length],0⟩,some ⟨fl (encS true) s6.2.1,1⟩,some ⟨fl (A2 true) s6.2.2,2⟩]) (Gh.y0 [0,1,2,3,4]) (fun s6 B o hS13 hB13 hE13=>?_)
    unfold D5 at hS13;refine RW.seq (RW.sr 3 rfl ?_)
    refine rl.gen rfl rfl fun b hb=>?_
    cases b
    ·have h15:=A4 hS13 hb;refine rl.done (RW.cond_f rfl (RW.exit (C4 ?_)));cases h15
     exact ⟨_,(hE13 _ rfl).symm,(Gh.y0 [1,2,3,4])⟩
    ·have h16:=A5 hS13 hb;refine rl.done (RW.cond_t rfl (RW.skip (RW.blk (RW.sf 7 rfl (RW.sf 5 rfl ?_)))));refine RW.kp [1,2,3,4,8,10,11,12,13] [(1,.j x1),(2,.j x2),(3,.str x3),(4,.ptr 0 0),(8,.ptr 1 0),(10,.ptr 2 0),(11,.j s6.1),(12,.j (w64 (x1+(w64 (Int.tdiv (w64 (x2+s6.1)) 32))))),(13,.j (Int.tmod (w64 (x2+s6.1)) 32))] [some ⟨A3 false x0,0⟩,some ⟨[.nils,.nils],0⟩,some ⟨[.sl 3 0 s6.2.1.length,.sl 4 0 s6.2.2.length],0⟩,some ⟨fl (encS true) s6.2.1,1⟩,some ⟨fl (A2 true) s6.2.2,2⟩] rfl rfl ?_;refine RW.sf 3 rfl (RW.seq (RW.sr 5 rfl ?_))
     refine rl.gen rfl rfl fun b hb=>?_
     cases b
     ·have h17:=A4 h16 hb;refine rl.done (RW.cond_f rfl (RW.skip (RW.sr 2 rfl ?_)));obtain ⟨v8,e8,h18⟩:=A1 h17;refine rl.call rfl rfl rfl (A6.y (r':=.tup [.str v8.1,.bool v8.2]) (Gm e8) ?_);refine rl.f 5 rfl ?_;refine RW.kp [1,2,3,4,8,10,11,12,13,14,15,16] [(1,.j x1),(2,.j x2),(3,.str x3),(4,.ptr 0 0),(8,.ptr 1 0),(10,.ptr 2 0),(11,.j s6.1),(12,.j (w64 (x1+(w64 (Int.tdiv (w64 (x2+s6.1)) 32))))),(13,.j (Int.tmod (w64 (x2+s6.1)) 32)),(14,.j (w64 (32 - (Int.tmod (w64 (x2+s6.1)) 32)))),(15,.str v8.1),(16,.bool v8.2)] [some ⟨A3 false x0,0⟩,some ⟨[.nils,.nils],0⟩,some ⟨[.sl 3 0 s6.2.1.length,.sl 4 0 s6.2.2.length],0⟩,some ⟨fl (encS true) s6.2.1,1⟩,some ⟨fl (A2 true) s6.2.2,2⟩] rfl rfl ?_;refine RW.seq (RW.seq ?_);obtain ⟨y9,ey9,h19⟩:=A1 h18
      refine RW.cutq (σ:=Bool) (fun y9=>[(1,.j x1),(2,.j x2),(3,.str x3),(4,.ptr 0 0),(8,.ptr 1 0),(10,.ptr 2 0),(11,.j s6.1),(12,.j (w64 (x1+(w64 (Int.tdiv (w64 (x2+s6.1)) 32))))),(13,.j (Int.tmod (w64 (x2+s6.1)) 32)),(14,.j (w64 (32 - (Int.tmod (w64 (x2+s6.1)) 32)))),(15,.str v8.1),(77,.bool y9)]) (fun y9=>[some ⟨A3 false x0,0⟩,some ⟨[.nils,.nils],0⟩,some ⟨[.sl 3 0 s6.2.1.length,.sl 4 0 s6.2.2.length],0⟩,some ⟨fl (encS true) s6.2.1,1⟩,some ⟨fl (A2 true) s6.2.2,2⟩]) (fun y=>y9=y) gg ?_ ?_
      ·refine RW.reg ?_;refine rl.run 3 rfl ?_
       cases hb:(!v8.2)
       ·have h20:=A4 ey9 hb;refine rl.run 2 rfl ?_
        refine rl.gen rfl rfl fun b hb=>?_
        cases b
        ·have h21:=A4 h20 hb;refine rl.f 1 rfl ?_;cases h21
         exact ⟨_,rfl,(Gh.y0 [0,1,2,3,4])⟩
        ·have h22:=A5 h20 hb;refine rl.f 1 rfl ?_;cases h22
         exact ⟨_,rfl,(Gh.y0 [0,1,2,3,4])⟩
       ·have h23:=A5 ey9 hb;refine rl.f 4 rfl ?_;cases h23
        exact ⟨_,rfl,(Gh.y0 [0,1,2,3,4])⟩
      ·intro y hC
       subst hC
       cases hb:y9
       ·have h24:=A4 h19 hb;refine RW.cond_f rfl (RW.skip ?_);refine RW.sdrwF [⟨[.nils,.nils],0⟩] ?_;refine A0.op rfl rfl (A0.op rfl rfl (A0.op rfl rfl (A0.op rfl rfl ?_)));obtain ⟨v10,e10,h25⟩:=A1 h24;refine A0.op rfl (Gj rfl rfl rfl Fn e10) ?_;refine A0.op rfl rfl (A0.op rfl rfl (A0.op rfl rfl (A0.op rfl rfl (A0.op rfl rfl ?_))));obtain ⟨v11,e11,h26⟩:=A1 h25;refine A0.op rfl (Gj rfl rfl rfl Mc e11) ?_;obtain ⟨v12,e12,h27⟩:=A1 h26;refine A0.op rfl (Q3 rfl rfl e12) ?_;refine A0.op rfl rfl (A0.op rfl rfl (A0.op rfl rfl (A0.op rfl rfl ?_)));obtain ⟨v13,e13,h28⟩:=A1 h27;refine A0.op rfl (Gj rfl rfl rfl Md e13) ?_;obtain ⟨v14,e14,h29⟩:=A1 h28;refine A0.op rfl (Q3 rfl rfl e14) ?_;obtain ⟨v15,e15,h30⟩:=A1 h29;refine A0.ccall rfl rfl rfl (A6.z (r':=.tup [.agg (C2 6 7 v15.1),.bool v15.2]) (H':=[some ⟨A3 false x0,0⟩,some ⟨[.nils,.nils],0⟩,some ⟨[.sl 3 0 s6.2.1.length,.sl 4 0 s6.2.2.length],0⟩,some ⟨fl (encS true) s6.2.1,1⟩,some ⟨fl (A2 true) s6.2.2,2⟩,some ⟨[.nils,.nils],0⟩,some ⟨fl (encS true) v15.1.Sectors,1⟩,some ⟨fl (A2 true) v15.1.Cache,2⟩]) (Fq e15) ?_);refine A0.op rfl rfl (A0.op rfl rfl (A0.op rfl rfl ?_));refine A0.flt rfl (.cons rfl .nil) ?_;refine A0.chnB rfl rfl (.here (.rx rfl) (.skip rfl (.skip rfl (.skip rfl (.skip rfl (.skip rfl (.skip rfl (.skip rfl (.skip rfl (.skip rfl (.skip rfl (.skip rfl (.skip rfl (.skip rfl (.skip rfl (.skip rfl (.skip rfl (.skip rfl (.skip rfl (.skip rfl (.skip rfl .nil))))))))))))))))))))) ?_;refine A0.op rfl rfl (A0.done ?_);refine RW.kp [1,2,3,4,8,10,11,14,17,18] [(1,.j x1),(2,.j x2),(3,.str x3),(4,.ptr 0 0),(8,.ptr 1 0),(10,.ptr 2 0),(11,.j s6.1),(14,.j (w64 (32 - (Int.tmod (w64 (x2+s6.1)) 32)))),(17,.ptr 5 0),(18,.bool v15.2)] [some ⟨A3 false x0,0⟩,some ⟨[.nils,.nils],0⟩,some ⟨[.sl 3 0 s6.2.1.length,.sl 4 0 s6.2.2.length],0⟩,some ⟨fl (encS true) s6.2.1,1⟩,some ⟨fl (A2 true) s6.2.2,2⟩,some ⟨C2 6 7 v15.1,0⟩,some ⟨fl (encS true) v15.1.Sectors,1⟩,some ⟨fl (A2 true) v15.1.Cache,2⟩] rfl rfl ?_;refine RW.seq (RW.sf 2 rfl ?_)
        cases hb:(!v15.2)
        ·have h31:=A4 h30 hb;refine RW.cond_f rfl (RW.skip (RW.sf 2 rfl (RW.reg (rl.f 4 rfl ?_))));cases h31
         exact hB13 _ rfl _ _ (Gh.y0 [0,1,2,6,7])
        ·have h32:=A5 h30 hb;refine RW.cond_t rfl (RW.sr 1 rfl ?_);obtain ⟨v16,e16,h33⟩:=A1 h32;refine rl.call rfl rfl rfl (A6.z (r':=.agg (C2 8 9 v16)) (H':=[some ⟨A3 false x0,0⟩,some ⟨[.nils,.nils],0⟩,some ⟨[.sl 3 0 s6.2.1.length,.sl 4 0 s6.2.2.length],0⟩,some ⟨fl (encS true) s6.2.1,1⟩,some ⟨fl (A2 true) s6.2.2,2⟩,some ⟨C2 6 7 v15.1,0⟩,some ⟨fl (encS true) v15.1.Sectors,1⟩,some ⟨fl (A2 true) v15.1.Cache,2⟩,some ⟨fl (encS true) v16.Sectors,1⟩,some ⟨fl (A2 true) v16.Cache,2⟩]) (K6 e16) ?_);refine rl.f 2 rfl ?_;refine RW.kp [8,9] [(8,.ptr 1 0),(9,.bool false)] [some ⟨A3 false x0,0⟩,some ⟨C2 8 9 v16,0⟩,some ⟨[.sl 3 0 s6.2.1.length,.sl 4 0 s6.2.2.length],0⟩,some ⟨fl (encS true) s6.2.1,1⟩,some ⟨fl (A2 true) s6.2.2,2⟩,some ⟨C2 6 7 v15.1,0⟩,some ⟨fl (encS true) v15.1.Sectors,1⟩,some ⟨fl (A2 true) v15.1.Cache,2⟩,some ⟨fl (encS true) v16.Sectors,1⟩,some ⟨fl (A2 true) v16.Cache,2⟩] rfl rfl ?_;refine RW.ret ?_;cases h33;have h34:=elimL h14 (hE13 _ rfl);cases h34
         exact RRet.y
       ·have h35:=A5 h19 hb;refine RW.cond_t rfl (RW.sr 1 rfl ?_);obtain ⟨v17,e17,h36⟩:=A1 h35;refine rl.call rfl rfl rfl (A6.z (r':=.agg (C2 5 6 v17)) (H':=[some ⟨A3 false x0,0⟩,some ⟨[.nils,.nils],0⟩,some ⟨[.sl 3 0 s6.2.1.length,.sl 4 0 s6.2.2.length],0⟩,some ⟨fl (encS true) s6.2.1,1⟩,some ⟨fl (A2 true) s6.2.2,2⟩,some ⟨fl (encS true) v17.Sectors,1⟩,some ⟨fl (A2 true) v17.Cache,2⟩]) (K6 e17) ?_);refine rl.f 2 rfl ?_;refine RW.kp [8,9] [(8,.ptr 1 0),(9,.bool false)] [some ⟨A3 false x0,0⟩,some ⟨C2 5 6 v17,0⟩,some ⟨[.sl 3 0 s6.2.1.length,.sl 4 0 s6.2.2.length],0⟩,some ⟨fl (encS true) s6.2.1,1⟩,some ⟨fl (A2 true) s6.2.2,2⟩,some ⟨fl (encS true) v17.Sectors,1⟩,some ⟨fl (A2 true) v17.Cache,2⟩] rfl rfl ?_;refine RW.ret ?_;cases h36;have h37:=elimL h14 (hE13 _ rfl);cases h37
        exact RRet.y
     ·have h38:=A5 h16 hb;refine rl.done (RW.cond_t rfl (RW.reg (rl.f 5 rfl (RW.sr 2 rfl ?_))));obtain ⟨v18,e18,h39⟩:=A1 h38;refine rl.call rfl rfl rfl (A6.y (r':=.tup [.str v18.1,.bool v18.2]) (Gm e18) ?_);refine rl.f 5 rfl ?_;refine RW.kp [1,2,3,4,8,10,11,12,13,14,15,16] [(1,.j x1),(2,.j x2),(3,.str x3),(4,.ptr 0 0),(8,.ptr 1 0),(10,.ptr 2 0),(11,.j s6.1),(12,.j (w64 (x1+(w64 (Int.tdiv (w64 (x2+s6.1)) 32))))),(13,.j (Int.tmod (w64 (x2+s6.1)) 32)),(14,.j (w64 ((x3.length:Int) - s6.1))),(15,.str v18.1),(16,.bool v18.2)] [some ⟨A3 false x0,0⟩,some ⟨[.nils,.nils],0⟩,some ⟨[.sl 3 0 s6.2.1.length,.sl 4 0 s6.2.2.length],0⟩,some ⟨fl (encS true) s6.2.1,1⟩,some ⟨fl (A2 true) s6.2.2,2⟩] rfl rfl ?_;refine RW.seq (RW.seq ?_);obtain ⟨y19,ey19,h40⟩:=A1 h39
      refine RW.cutq (σ:=Bool) (fun y19=>[(1,.j x1),(2,.j x2),(3,.str x3),(4,.ptr 0 0),(8,.ptr 1 0),(10,.ptr 2 0),(11,.j s6.1),(12,.j (w64 (x1+(w64 (Int.tdiv (w64 (x2+s6.1)) 32))))),(13,.j (Int.tmod (w64 (x2+s6.1)) 32)),(14,.j (w64 ((x3.length:Int) - s6.1))),(15,.str v18.1),(77,.bool y19)]) (fun y19=>[some ⟨A3 false x0,0⟩,some ⟨[.nils,.nils],0⟩,some ⟨[.sl 3 0 s6.2.1.length,.sl 4 0 s6.2.2.length],0⟩,some ⟨fl (encS true) s6.2.1,1⟩,some ⟨fl (A2 true) s6.2.2,2⟩]) (fun y=>y19=y) gg ?_ ?_
      ·refine RW.reg ?_;refine rl.run 3 rfl ?_
       cases hb:(!v18.2)
       ·have h41:=A4 ey19 hb;refine rl.run 2 rfl ?_
        refine rl.gen rfl rfl fun b hb=>?_
        cases b
        ·have h42:=A4 h41 hb;refine rl.f 1 rfl ?_;cases h42
         exact ⟨_,rfl,(Gh.y0 [0,1,2,3,4])⟩
        ·have h43:=A5 h41 hb;refine rl.f 1 rfl ?_;cases h43
         exact ⟨_,rfl,(Gh.y0 [0,1,2,3,4])⟩
       ·have h44:=A5 ey19 hb;refine rl.f 4 rfl ?_;cases h44
        exact ⟨_,rfl,(Gh.y0 [0,1,2,3,4])⟩
      ·intro y hC
       subst hC
       cases hb:y19
       ·have h45:=A4 h40 hb;refine RW.cond_f rfl (RW.skip ?_);refine RW.sdrwF [⟨[.nils,.nils],0⟩] ?_;refine A0.op rfl rfl (A0.op rfl rfl (A0.op rfl rfl (A0.op rfl rfl ?_)));obtain ⟨v20,e20,h46⟩:=A1 h45;refine A0.op rfl (Gj rfl rfl rfl Fn e20) ?_;refine A0.op rfl rfl (A0.op rfl rfl (A0.op rfl rfl (A0.op rfl rfl (A0.op rfl rfl ?_))));obtain ⟨v21,e21,h47⟩:=A1 h46;refine A0.op rfl (Gj rfl rfl rfl Mc e21) ?_;obtain ⟨v22,e22,h48⟩:=A1 h47;refine A0.op rfl (Q3 rfl rfl e22) ?_;refine A0.op rfl rfl (A0.op rfl rfl (A0.op rfl rfl (A0.op rfl rfl ?_)));obtain ⟨v23,e23,h49⟩:=A1 h48;refine A0.op rfl (Gj rfl rfl rfl Md e23) ?_;obtain ⟨v24,e24,h50⟩:=A1 h49;refine A0.op rfl (Q3 rfl rfl e24) ?_;obtain ⟨v25,e25,h51⟩:=A1 h50;refine A0.ccall rfl rfl rfl (A6.z (r':=.tup [.agg (C2 6 7 v25.1),.bool v25.2]) (H':=[some ⟨A3 false x0,0⟩,some ⟨[.nils,.nils],0⟩,some ⟨[.sl 3 0 s6.2.1.length,.sl 4 0 s6.2.2.length],0⟩,some ⟨fl (encS true) s6.2.1,1⟩,some ⟨fl (A2 true) s6.2.2,2⟩,some ⟨[.nils,.nils],0⟩,some ⟨fl (encS true) v25.1.Sectors,1⟩,some ⟨fl (A2 true) v25.1.Cache,2⟩]) (Fq e25) ?_);refine A0.op rfl rfl (A0.op rfl rfl (A0.op rfl rfl ?_));refine A0.flt rfl (.cons rfl .nil) ?_;refine A0.chnB rfl rfl (.here (.rx rfl) (.skip rfl (.skip rfl (.skip rfl (.skip rfl (.skip rfl (.skip rfl (.skip rfl (.skip rfl (.skip rfl (.skip rfl (.skip rfl (.skip rfl (.skip rfl (.skip rfl (.skip rfl (.skip rfl (.skip rfl (.skip rfl (.skip rfl (.skip rfl .nil))))))))))))))))))))) ?_;refine A0.op rfl rfl (A0.done ?_);refine RW.kp [1,2,3,4,8,10,11,14,17,18] [(1,.j x1),(2,.j x2),(3,.str x3),(4,.ptr 0 0),(8,.ptr 1 0),(10,.ptr 2 0),(11,.j s6.1),(14,.j (w64 ((x3.length:Int) - s6.1))),(17,.ptr 5 0),(18,.bool v25.2)] [some ⟨A3 false x0,0⟩,some ⟨[.nils,.nils],0⟩,some ⟨[.sl 3 0 s6.2.1.length,.sl 4 0 s6.2.2.length],0⟩,some ⟨fl (encS true) s6.2.1,1⟩,some ⟨fl (A2 true) s6.2.2,2⟩,some ⟨C2 6 7 v25.1,0⟩,some ⟨fl (encS true) v25.1.Sectors,1⟩,some ⟨fl (A2 true) v25.1.Cache,2⟩] rfl rfl ?_;refine RW.seq (RW.sf 2 rfl ?_)
        cases hb:(!v25.2)
        ·have h52:=A4 h51 hb;refine RW.cond_f rfl (RW.skip (RW.sf 2 rfl (RW.reg (rl.f 4 rfl ?_))));cases h52
         exact hB13 _ rfl _ _ (Gh.y0 [0,1,2,6,7])
        ·have h53:=A5 h51 hb;refine RW.cond_t rfl (RW.sr 1 rfl ?_);obtain ⟨v26,e26,h54⟩:=A1 h53;refine rl.call rfl rfl rfl (A6.z (r':=.agg (C2 8 9 v26)) (H':=[some ⟨A3 false x0,0⟩,some ⟨[.nils,.nils],0⟩,some ⟨[.sl 3 0 s6.2.1.length,.sl 4 0 s6.2.2.length],0⟩,some ⟨fl (encS true) s6.2.1,1⟩,some ⟨fl (A2 true) s6.2.2,2⟩,some ⟨C2 6 7 v25.1,0⟩,some ⟨fl (encS true) v25.1.Sectors,1⟩,some ⟨fl (A2 true) v25.1.Cache,2⟩,some ⟨fl (encS true) v26.Sectors,1⟩,some ⟨fl (A2 true) v26.Cache,2⟩]) (K6 e26) ?_);refine rl.f 2 rfl ?_;refine RW.kp [8,9] [(8,.ptr 1 0),(9,.bool false)] [some ⟨A3 false x0,0⟩,some ⟨C2 8 9 v26,0⟩,some ⟨[.sl 3 0 s6.2.1.length,.sl 4 0 s6.2.2.length],0⟩,some ⟨fl (encS true) s6.2.1,1⟩,some ⟨fl (A2 true) s6.2.2,2⟩,some ⟨C2 6 7 v25.1,0⟩,some ⟨fl (encS true) v25.1.Sectors,1⟩,some ⟨fl (A2 true) v25.1.Cache,2⟩,some ⟨fl (encS true) v26.Sectors,1⟩,some ⟨fl (A2 true) v26.Cache,2⟩] rfl rfl ?_;refine RW.ret ?_;cases h54;have h55:=elimL h14 (hE13 _ rfl);cases h55
         exact RRet.y
       ·have h56:=A5 h40 hb;refine RW.cond_t rfl (RW.sr 1 rfl ?_);obtain ⟨v27,e27,h57⟩:=A1 h56;refine rl.call rfl rfl rfl (A6.z (r':=.agg (C2 5 6 v27)) (H':=[some ⟨A3 false x0,0⟩,some ⟨[.nils,.nils],0⟩,some ⟨[.sl 3 0 s6.2.1.length,.sl 4 0 s6.2.2.length],0⟩,some ⟨fl (encS true) s6.2.1,1⟩,some ⟨fl (A2 true) s6.2.2,2⟩,some ⟨fl (encS true) v27.Sectors,1⟩,some ⟨fl (A2 true) v27.Cache,2⟩]) (K6 e27) ?_);refine rl.f 2 rfl ?_;refine RW.kp [8,9] [(8,.ptr 1 0),(9,.bool false)] [some ⟨A3 false x0,0⟩,some ⟨C2 5 6 v27,0⟩,some ⟨[.sl 3 0 s6.2.1.length,.sl 4 0 s6.2.2.length],0⟩,some ⟨fl (encS true) s6.2.1,1⟩,some ⟨fl (A2 true) s6.2.2,2⟩,some ⟨fl (encS true) v27.Sectors,1⟩,some ⟨fl (A2 true) v27.Cache,2⟩] rfl rfl ?_;refine RW.ret ?_;cases h57;have h58:=elimL h14 (hE13 _ rfl);cases h58
        exact RRet.y
   ·intro y7 hC
    have h14:=elimR h14 hC;refine RW.sf 3 rfl (RW.ret ?_);cases h14
    exact RRet.y
  ·have h59:=A5 h2 hb;refine RW.cond_t rfl (RW.sf 3 rfl (RW.ret ?_));cases h59
   exact RRet.y
theorem V5 {x0:TDisk} {r:TDisk} (hF:G9 x0=some r):A7 Tryz.prog 111 [.agg (A3 false x0)] (.agg (A3 true r)):=by
 refine A7.q Ut ?_;unfold G9 at hF;refine RW.sf 2 rfl (RW.sr 1 rfl ?_);obtain ⟨v1,e1,h1⟩:=A1 hF;refine rl.call rfl rfl rfl (A6.z (r':=.agg (C2 2 3 v1)) (H':=[some ⟨A3 false x0,0⟩,some ⟨[.nils,.nils],0⟩,some ⟨fl (encS true) v1.Sectors,1⟩,some ⟨fl (A2 true) v1.Cache,2⟩]) (K6 e1) ?_);refine rl.f 2 rfl (RW.seq (RW.sr 1 rfl ?_));obtain ⟨v2,e2,h2⟩:=A1 h1;refine rl.call rfl rfl rfl (A6.y (r':=.bool v2) (Dz e2) ?_)
 cases hb:v2
 ·have h3:=A4 h2 hb;refine rl.f 1 rfl (RW.cond_t rfl (RW.sf 2 rfl (RW.ret ?_)));cases h3
  exact RRet.y
 ·have h4:=A5 h2 hb;refine rl.f 1 rfl (RW.cond_f rfl (RW.skip (RW.seq (RW.sf 1 rfl ?_))));obtain ⟨y9,ey9,h6⟩:=A1 h4
  refine RW.cutq (σ:=(List (List UInt8))) (fun y4=>[(2,.ptr 0 0),(3,.ptr 1 0)]) (fun y4=>[some ⟨[.nils,.nils],0⟩,some ⟨[.sl 2 0 y4.length,.sl 3 0 v1.Cache.length],0⟩,some ⟨fl (encS true) y4,1⟩,some ⟨fl (A2 true) v1.Cache,2⟩]) (fun y=>y9=y) gg ?_ ?_
  ·refine RW.blk ?_
   refine RW.iter (σ:=Int×(List (List UInt8))) ey9 (fun s3=>[(1,.ptr 0 0),(2,.ptr 1 0),(3,.ptr 2 0),(4,.j s3.1)]) (fun s3=>[some ⟨A3 false x0,0⟩,some ⟨[.nils,.nils],0⟩,some ⟨[.sl 3 0 s3.2.length,.sl 4 0 v1.Cache.length],0⟩,some ⟨fl (encS true) s3.2,1⟩,some ⟨fl (A2 true) v1.Cache,2⟩]) (Gh.y0 [0,1,4,2,3]) (fun s3 B o hS5 hB5 hE5=>?_)
   unfold Az at hS5;refine RW.seq (RW.sr 4 rfl ?_)
   refine rl.gen rfl rfl fun b hb=>?_
   cases b
   ·have h7:=A4 hS5 hb;refine rl.done (RW.cond_f rfl (RW.exit (C4 ?_)));cases h7
    exact ⟨_,(hE5 _ rfl).symm,(Gh.y0 [1,2,3,4])⟩
   ·have h8:=A5 hS5 hb;refine rl.done (RW.cond_t rfl (RW.skip (RW.seq (RW.blk (RW.drw (A0.op rfl rfl (A0.op rfl rfl (A0.op rfl rfl (A0.op rfl rfl (A0.op rfl rfl ?_))))))))));obtain ⟨v5,e5,h9⟩:=A1 h8;refine A0.op rfl (C0 (enc:=A2) (o:=false) rfl rfl rfl e5) ?_;refine A0.op rfl rfl ?_;refine A0.op rfl (H7 (off':=0) B2 rfl e5 rfl rfl rfl) ?_;refine A0.op rfl rfl (A0.op rfl rfl (A0.op rfl rfl ?_));obtain ⟨v6,e6,h10⟩:=A1 h9;refine A0.op rfl (C0 (enc:=A2) (o:=false) rfl rfl rfl e6) ?_;refine A0.op rfl rfl ?_;refine A0.op rfl (H7 (off':=1) B2 rfl e6 rfl rfl rfl) ?_;obtain ⟨v7,e7,h11⟩:=A1 h10;refine A0.op rfl (M7 rfl rfl rfl rfl e7) ?_;obtain ⟨v8,e8,h12⟩:=A1 h11;refine A0.chn rfl (Yz (off':=0) (o:=true) (e':=v6.Text) ekS e7 rfl rfl rfl rfl rfl rfl rfl rfl rfl e8) ?_;refine A0.done (RW.reg (rl.f 3 rfl ?_));cases h12
    exact hB5 _ rfl _ _ (Gh.ren0 [0,1,2,3,4] (.c rfl rfl (.keep (ekS.rlst) (.keep (B2.rlst) .nil)) (.c rfl rfl (.keep .nils (.keep .nils .nil)) (.c rfl rfl (.slq rfl (Co e8) (.slq rfl rfl .nil)) (.same rfl (ekS.fref _ _) (.same rfl (B2.fref _ _) .nil))))) rfl (.p rfl rfl (.p rfl rfl (.p rfl rfl (.i rfl .nil)))))
  ·intro y4 hC
   subst hC;refine RW.sf 3 rfl (RW.sf 2 rfl (RW.ret ?_));cases h6
   exact RRet.y
theorem Ve {x0:TCheck} {r:Bool} (hF:Cg x0=some r):A7 Tryz.prog 45 [.agg (B7 false x0)] (.bool r):=by
 refine A7.q Xy ?_;unfold Cg at hF;refine RW.sf 2 rfl (RW.seq (RW.seq ?_));obtain ⟨y1,ey1,h1⟩:=A1 hF
 refine RW.cutq (σ:=Bool) (fun y1=>[(1,.ptr 0 0),(34,.bool y1)]) (fun y1=>[some ⟨B7 false x0,0⟩]) (fun y=>y1=y) gg ?_ ?_
 ·refine RW.reg ?_;refine rl.run 2 rfl ?_;obtain ⟨v2,e2,h2⟩:=A1 ey1;refine rl.call rfl rfl rfl (A6.y (r':=.bool v2) (C1 e2) ?_)
  cases hb:v2
  ·have h3:=A4 h2 hb;refine rl.f 26 rfl ?_;cases h3
   exact ⟨_,rfl,(Gh.y0 [0])⟩
  ·have h4:=A5 h2 hb;refine rl.run 4 rfl ?_;obtain ⟨v3,e3,h5⟩:=A1 h4;refine rl.call rfl rfl rfl (A6.y (r':=.bool v3) (C1 e3) ?_)
   cases hb:v3
   ·have h6:=A4 h5 hb;refine rl.f 21 rfl ?_;cases h6
    exact ⟨_,rfl,(Gh.y0 [0])⟩
   ·have h7:=A5 h5 hb;refine rl.run 5 rfl ?_;obtain ⟨v4,e4,h8⟩:=A1 h7;refine rl.call rfl rfl rfl (A6.y (r':=.bool v4) (C1 e4) ?_)
    cases hb:v4
    ·have h9:=A4 h8 hb;refine rl.f 15 rfl ?_;cases h9
     exact ⟨_,rfl,(Gh.y0 [0])⟩
    ·have h10:=A5 h8 hb;refine rl.run 5 rfl ?_;obtain ⟨v5,e5,h11⟩:=A1 h10;refine rl.call rfl rfl rfl (A6.y (r':=.bool v5) (C1 e5) ?_)
     cases hb:v5
     ·have h12:=A4 h11 hb;refine rl.f 9 rfl ?_;cases h12
      exact ⟨_,rfl,(Gh.y0 [0])⟩
     ·have h13:=A5 h11 hb;refine rl.run 6 rfl ?_;obtain ⟨v6,e6,h14⟩:=A1 h13;refine rl.call rfl rfl rfl (A6.y (r':=.bool v6) (C1 e6) ?_)
      cases hb:v6
      ·have h15:=A4 h14 hb;refine rl.f 2 rfl ?_;cases h15
       exact ⟨_,rfl,(Gh.y0 [0])⟩
      ·have h16:=A5 h14 hb;refine rl.f 2 rfl ?_;cases h16
       exact ⟨_,rfl,(Gh.y0 [0])⟩
 ·intro y hC
  subst hC
  cases hb:y1
  ·have h17:=A4 h1 hb;refine RW.cond_f rfl (RW.skip (RW.seq (RW.sf 1 rfl ?_)));obtain ⟨y18,ey18,h19⟩:=A1 h17
   refine RW.cutq (σ:=Unit) (fun y8=>[]) (fun y8=>[]) (fun y=>y18=.inr y) gg ?_ ?_
   ·refine RW.blk ?_
    refine RW.iter (σ:=Int) ey18 (fun s7=>[(1,.ptr 0 0),(3,.j s7)]) (fun s7=>[some ⟨B7 false x0,0⟩]) (Gh.y0 [0]) (fun s7 B o hS18 hB18 hE18=>?_)
    unfold Z6 at hS18;refine RW.seq (RW.sr 4 rfl ?_)
    refine rl.gen rfl rfl fun b hb=>?_
    cases b
    ·have h20:=A4 hS18 hb;refine rl.done (RW.cond_f rfl (RW.exit (C4 ?_)));cases h20
     exact ⟨_,(hE18 _ rfl).symm,(Gh.y0 [])⟩
    ·have h21:=A5 hS18 hb;refine rl.done (RW.cond_t rfl (RW.skip (RW.seq (RW.blk (RW.sr 3 rfl ?_)))));obtain ⟨v9,e9,h22⟩:=A1 h21;refine rl.op (C0 (enc:=C8) (o:=false) rfl rfl rfl e9) ?_;refine rl.op (K2 (off':=0) (vs:=(C8 false v9)) Z0 rfl e9 rfl rfl rfl) ?_;refine rl.f 2 rfl (RW.seq (RW.seq ?_));obtain ⟨y10,ey10,h23⟩:=A1 h22
     refine RW.cutq (σ:=Bool) (fun y10=>[(1,.ptr 0 0),(3,.j s7),(4,.ptr 1 0),(75,.bool y10)]) (fun y10=>[some ⟨B7 false x0,0⟩,some ⟨C8 false v9,0⟩]) (fun y=>y10=y) gg ?_ ?_
     ·refine RW.drw ?_;refine A0.op rfl rfl (A0.op rfl rfl ?_);obtain ⟨v11,e11,h24⟩:=A1 ey10;refine A0.call rfl rfl rfl (A6.y (r':=.bool v11) (C1 e11) ⟨rfl,?_⟩)
      cases hb:v11
      ·have h25:=A4 h24 hb;refine A0.op rfl rfl (A0.op rfl rfl (A0.off rfl (A0.off rfl (A0.off rfl (A0.off rfl (A0.off rfl (A0.off rfl (A0.off rfl (A0.op rfl rfl (A0.op rfl rfl (A0.off rfl ?_)))))))))));refine A0.off rfl (A0.off rfl (A0.off rfl (A0.off rfl (A0.off rfl (A0.off rfl (A0.off rfl (A0.off rfl (A0.off rfl (A0.off rfl (A0.off rfl (A0.off rfl ?_)))))))))));refine A0.off rfl (A0.op rfl rfl (A0.done ?_));cases h25
       exact ⟨_,rfl,(Gh.y0 [0,1])⟩
      ·have h26:=A5 h24 hb;refine A0.op rfl rfl (A0.op rfl rfl (A0.op rfl rfl (A0.op rfl rfl (A0.op rfl rfl (A0.op rfl rfl (A0.op rfl rfl ?_))))));obtain ⟨v12,e12,h27⟩:=A1 h26;refine A0.call rfl rfl rfl (A6.y (r':=.bool v12) (C1 e12) ⟨rfl,?_⟩)
       cases hb:v12
       ·have h28:=A4 h27 hb;refine A0.op rfl rfl (A0.op rfl rfl (A0.op rfl rfl (A0.off rfl (A0.off rfl (A0.off rfl (A0.off rfl (A0.off rfl (A0.off rfl (A0.off rfl (A0.off rfl (A0.off rfl ?_)))))))))));refine A0.off rfl (A0.off rfl (A0.off rfl (A0.off rfl (A0.off rfl (A0.op rfl rfl (A0.done ?_))))));cases h28
        exact ⟨_,rfl,(Gh.y0 [0,1])⟩
       ·have h29:=A5 h27 hb;refine A0.op rfl rfl (A0.op rfl rfl (A0.op rfl rfl (A0.op rfl rfl ?_)))
        refine A0.gen rfl rfl fun b hb=>?_
        cases b
        ·have h30:=A4 h29 hb;refine A0.op rfl rfl (A0.off rfl (A0.off rfl (A0.off rfl (A0.off rfl (A0.off rfl (A0.off rfl (A0.off rfl (A0.off rfl (A0.off rfl (A0.off rfl (A0.op rfl rfl ?_)))))))))));refine A0.op rfl rfl (A0.done ?_);cases h30
         exact ⟨_,rfl,(Gh.y0 [0,1])⟩
        ·have h31:=A5 h29 hb;refine A0.op rfl rfl (A0.op rfl rfl (A0.op rfl rfl (A0.op rfl rfl (A0.op rfl rfl ?_))));obtain ⟨v13,e13,h32⟩:=A1 h31;refine A0.op rfl (C0 (enc:=C8) (o:=false) rfl rfl rfl e13) ?_;refine A0.op rfl rfl ?_;refine A0.op rfl (H7 (off':=1) Z0 rfl e13 rfl rfl rfl) ?_;refine A0.op rfl rfl (A0.op rfl rfl ?_)
         refine A0.gen rfl rfl fun b hb=>?_
         cases b
         ·have h33:=A4 h32 hb;refine A0.op rfl rfl (A0.op rfl rfl (A0.done ?_));cases h33
          exact ⟨_,rfl,(Gh.y0 [0,1])⟩
         ·have h34:=A5 h32 hb;refine A0.op rfl rfl (A0.op rfl rfl (A0.done ?_));cases h34
          exact ⟨_,rfl,(Gh.y0 [0,1])⟩
     ·intro y hC
      subst hC
      cases hb:y10
      ·have h35:=A4 h23 hb;refine RW.cond_f rfl (RW.skip (RW.sf 1 rfl ?_));obtain ⟨y17,ey17,h37⟩:=A1 h35
       refine RW.cutq (σ:=Unit) (fun y15=>[(1,.ptr 0 0),(3,.j s7)]) (fun y15=>[some ⟨B7 false x0,0⟩]) (fun y=>y17=.inr y) gg ?_ ?_
       ·refine RW.blk ?_
        refine RW.iter (σ:=Int) ey17 (fun s14=>[(1,.ptr 0 0),(3,.j s7),(4,.ptr 1 0),(5,.j s14)]) (fun s14=>[some ⟨B7 false x0,0⟩,some ⟨C8 false v9,0⟩]) (Gh.y0 [0,1]) (fun s14 B o hS36 hB36 hE36=>?_)
        unfold Ah at hS36;refine RW.seq (RW.sr 2 rfl ?_)
        refine rl.gen rfl rfl fun b hb=>?_
        cases b
        ·have h38:=A4 hS36 hb;refine rl.done (RW.cond_f rfl (RW.exit (C4 ?_)));cases h38
         exact ⟨_,(hE36 _ rfl).symm,(Gh.y0 [0])⟩
        ·have h39:=A5 hS36 hb;refine rl.done (RW.cond_t rfl (RW.skip (RW.seq (RW.blk (RW.sdrw (A0.op rfl rfl (A0.op rfl rfl (A0.op rfl rfl ?_))))))));obtain ⟨v16,e16,h40⟩:=A1 h39;refine A0.op rfl (C0 (enc:=C8) (o:=false) rfl rfl rfl e16) ?_;refine A0.op rfl rfl ?_;refine A0.op rfl (H7 (off':=0) Z0 rfl e16 rfl rfl rfl) ?_;refine A0.op rfl rfl (A0.op rfl rfl ?_)
         refine A0.gen rfl rfl fun b hb=>?_
         cases b
         ·have h41:=A4 h40 hb;refine A0.done ?_;refine RW.kp [1,3,4,5,89] [(1,.ptr 0 0),(3,.j s7),(4,.ptr 1 0),(5,.j s14),(89,.bool false)] [some ⟨B7 false x0,0⟩,some ⟨C8 false v9,0⟩] rfl rfl ?_;refine RW.cond_f rfl (RW.skip (RW.reg (rl.f 3 rfl ?_)));cases h41
          exact hB36 _ rfl _ _ (Gh.y0 [0,1])
         ·have h42:=A5 h40 hb;refine A0.done ?_;refine RW.kp [1,3,4,5,89] [(1,.ptr 0 0),(3,.j s7),(4,.ptr 1 0),(5,.j s14),(89,.bool true)] [some ⟨B7 false x0,0⟩,some ⟨C8 false v9,0⟩] rfl rfl ?_;refine RW.cond_t rfl (RW.sf 1 rfl (RW.ret ?_));cases h42;have h43:=elimL h37 (hE36 _ rfl);cases h43;have h44:=elimL h19 (hE18 _ rfl);cases h44
          exact RRet.y
       ·intro y15 hC
        have h37:=elimR h37 hC;refine RW.reg (rl.f 3 rfl ?_);cases h37
        exact hB18 _ rfl _ _ (Gh.y0 [0])
      ·have h45:=A5 h23 hb;refine RW.cond_t rfl (RW.sf 1 rfl (RW.ret ?_));cases h45;have h46:=elimL h19 (hE18 _ rfl);cases h46
       exact RRet.y
   ·intro y8 hC
    have h19:=elimR h19 hC;refine RW.sf 1 rfl (RW.ret ?_);cases h19
    exact RRet.y
  ·have h47:=A5 h1 hb;refine RW.cond_t rfl (RW.sf 1 rfl (RW.ret ?_));cases h47
   exact RRet.y
theorem D2 {x0:Int} {r:List UInt8} (hF:D8 x0=some r):A7 Tryz.prog 97 [.j x0] (.str r):=by
 refine A7.q A0j ?_;unfold D8 at hF;refine RW.sf 1 rfl (RW.sf 2 rfl (RW.seq ?_));refine RW.gh (Gh.nil_t 3 1 rfl) ?_;obtain ⟨y4,ey4,h2⟩:=A1 hF
 refine RW.cutq (σ:=Int×(List Int)) (fun y2=>[(0,.j y2.1),(3,.sl 0 0 y2.2.length)]) (fun y2=>[some ⟨fl (encB true) y2.2,1⟩]) (fun y=>y4=y) gg ?_ ?_
 ·refine RW.blk ?_
  refine RW.iter (σ:=Int×(List Int)) ey4 (fun s1=>[(0,.j s1.1),(3,.sl 0 0 s1.2.length)]) (fun s1=>[some ⟨fl (encB true) s1.2,1⟩]) (Gh.y0 [0]) (fun s1 B o hS1 hB1 hE1=>?_)
  unfold X3 at hS1;refine RW.seq (RW.sr 1 rfl ?_)
  refine rl.gen rfl rfl fun b hb=>?_
  cases b
  ·have h3:=A4 hS1 hb;refine rl.done (RW.cond_f rfl (RW.exit (C4 ?_)));cases h3
   exact ⟨_,(hE1 _ rfl).symm,(Gh.y0 [0])⟩
  ·have h4:=A5 hS1 hb;refine rl.done (RW.cond_t rfl (RW.skip (RW.blk (RW.sr 6 rfl ?_))));obtain ⟨v3,e3,h5⟩:=A1 h4;refine rl.op (Ar rfl rfl (Y4 (l:=s1.2) (m:=[IntKind.u8.wrap (w64 ((Int.tmod s1.1 128)+128))]) (o:=true) ekB rfl rfl (Q9 (m:=[IntKind.u8.wrap (w64 ((Int.tmod s1.1 128)+128))]) (o:=true) fkB rfl rfl) rfl (fkB.fst _ _) e3)) ?_;refine rl.f 1 rfl (RW.reg (rl.f 3 rfl ?_));cases h5
   exact hB1 _ rfl _ _ (Gh.y0 [2])
 ·intro y2 hC
  subst hC;refine RW.sr 4 rfl ?_;obtain ⟨v5,e5,h6⟩:=A1 h2;refine rl.op (Ar rfl rfl (Y4 (l:=y4.2) (m:=[IntKind.u8.wrap y4.1]) (o:=true) ekB rfl rfl (Q9 (m:=[IntKind.u8.wrap y4.1]) (o:=true) fkB rfl rfl) rfl (fkB.fst _ _) e5)) ?_;refine rl.op (Jl (o:=true) (l:=v5) rfl rfl) ?_;refine rl.f 1 rfl (RW.ret ?_);cases h6
  exact RRet.y
theorem Vg {x0:Int} {r:List UInt8} (hF:Bw x0=some r):A7 Tryz.prog 153 [.int .u32 x0] (.str r):=by
 refine A7.q Zu ?_;unfold Bw at hF;refine RW.sf 1 rfl (RW.sr 12 rfl ?_);refine rl.op (Jl (o:=true) (l:=[IntKind.u8.wrap (shrv .u32 x0 24),IntKind.u8.wrap (shrv .u32 x0 16),IntKind.u8.wrap (shrv .u32 x0 8),IntKind.u8.wrap x0]) rfl rfl) ?_;refine rl.f 1 rfl ?_;refine RW.kp [2] [(2,.str ([IntKind.u8.wrap (shrv .u32 x0 24),IntKind.u8.wrap (shrv .u32 x0 16),IntKind.u8.wrap (shrv .u32 x0 8),IntKind.u8.wrap x0].map ofI))] [some ⟨fl (encB true) [IntKind.u8.wrap (shrv .u32 x0 24),IntKind.u8.wrap (shrv .u32 x0 16),IntKind.u8.wrap (shrv .u32 x0 8),IntKind.u8.wrap x0],1⟩] rfl rfl ?_;refine RW.ret ?_;cases hF
 exact RRet.y
theorem Tv {x0:Int} {x1:List UInt8} {r:Int} (hF:Ck x0 x1=some r):A7 Tryz.prog 178 [.int .u32 x0,.str x1] (.int .u32 r):=by
 refine A7.q Xg ?_;unfold Ck at hF;refine RW.sf 1 rfl (RW.seq (RW.sf 1 rfl ?_));obtain ⟨y7,ey7,h2⟩:=A1 hF
 refine RW.cutq (σ:=Int) (fun y2=>[(0,.int .u32 y2)]) (fun y2=>[]) (fun y=>y7=y) gg ?_ ?_
 ·refine RW.blk ?_
  refine RW.iter (σ:=Int×Int) ey7 (fun s1=>[(0,.int .u32 s1.1),(1,.str x1),(5,.j s1.2)]) (fun s1=>[]) (Gh.y0 []) (fun s1 B o hS1 hB1 hE1=>?_)
  unfold Ak at hS1;refine RW.seq (RW.sr 3 rfl ?_)
  refine rl.gen rfl rfl fun b hb=>?_
  cases b
  ·have h3:=A4 hS1 hb;refine rl.done (RW.cond_f rfl (RW.exit (C4 ?_)));cases h3
   exact ⟨_,(hE1 _ rfl).symm,(Gh.y0 [])⟩
  ·have h4:=A5 hS1 hb;refine rl.done (RW.cond_t rfl (RW.skip (RW.seq (RW.blk (RW.sr 3 rfl ?_)))));obtain ⟨v3,e3,h5⟩:=A1 h4;refine rl.op (Wl rfl rfl e3) ?_;refine rl.f 3 rfl (RW.sf 1 rfl ?_);obtain ⟨y6,ey6,h7⟩:=A1 h5
   refine RW.cutq (σ:=Int) (fun y5=>[(0,.int .u32 y5),(1,.str x1),(5,.j s1.2)]) (fun y5=>[]) (fun y=>y6=y) gg ?_ ?_
   ·refine RW.blk ?_
    refine RW.iter (σ:=Int×Int) ey6 (fun s4=>[(0,.int .u32 s4.1),(1,.str x1),(5,.j s1.2),(6,.j s4.2)]) (fun s4=>[]) (Gh.y0 []) (fun s4 B o hS6 hB6 hE6=>?_)
    unfold Al at hS6;refine RW.seq (RW.sr 1 rfl ?_)
    refine rl.gen rfl rfl fun b hb=>?_
    cases b
    ·have h8:=A4 hS6 hb;refine rl.done (RW.cond_f rfl (RW.exit (C4 ?_)));cases h8
     exact ⟨_,(hE6 _ rfl).symm,(Gh.y0 [])⟩
    ·have h9:=A5 hS6 hb;refine rl.done (RW.cond_t rfl (RW.skip (RW.seq (RW.blk (RW.sr 2 rfl ?_)))))
     refine rl.gen rfl rfl fun b hb=>?_
     cases b
     ·have h10:=A4 h9 hb;refine rl.f 1 rfl (RW.sf 3 rfl (RW.sf 1 rfl (RW.cond_f rfl (RW.skip (RW.reg (rl.run 3 rfl ?_))))));refine rl.done ?_;cases h10
      exact hB6 _ rfl _ _ (Gh.y0 [])
     ·have h11:=A5 h9 hb;refine rl.f 1 rfl (RW.sf 3 rfl (RW.sf 1 rfl (RW.cond_t rfl (RW.reg (rl.f 3 rfl ?_)))));refine RW.reg (rl.f 3 rfl ?_);cases h11
      exact hB6 _ rfl _ _ (Gh.y0 [])
   ·intro y5 hC
    subst hC;refine RW.reg (rl.f 3 rfl ?_);cases h7
    exact hB1 _ rfl _ _ (Gh.y0 [])
 ·intro y2 hC
  subst hC;refine RW.sf 2 rfl (RW.ret ?_);cases h2
  exact RRet.y
theorem Xf {x0:List UInt8} {r:Int} (hF:Cz x0=some r):A7 Tryz.prog 154 [.str x0] (.int .u32 r):=by
 refine A7.q A25 ?_;unfold Cz at hF;refine RW.sf 1 rfl (RW.sr 1 rfl ?_);obtain ⟨v1,e1,h1⟩:=A1 hF;refine rl.call rfl rfl rfl (A6.y (r':=.int .u32 v1) (Tv e1) ?_);refine rl.f 1 rfl (RW.ret ?_);cases h1
 exact RRet.y
theorem Ku {x0:List UInt8} {r:(List UInt8)×Bool} (hF:Bk x0=some r):A7 Tryz.prog 98 [.str x0] (.tup [.str r.1,.bool r.2]):=by
 refine A7.q A05 ?_;unfold Bk at hF;refine RW.sf 2 rfl (RW.seq (RW.sr 2 rfl ?_))
 refine rl.gen rfl rfl fun b hb=>?_
 cases b
 ·have h1:=A4 hF hb;refine rl.done (RW.cond_f rfl (RW.skip (RW.sr 2 rfl ?_)));obtain ⟨v1,e1,h2⟩:=A1 h1;refine rl.call rfl rfl rfl (A6.y (r':=.int .u32 v1) (Xf e1) ?_);obtain ⟨v2,e2,h3⟩:=A1 h2;refine rl.call rfl rfl rfl (A6.y (r':=.str v2) (Vg e2) ?_);obtain ⟨v3,e3,h4⟩:=A1 h3;refine rl.op (Q3 rfl rfl e3) ?_;refine rl.f 2 rfl (RW.ret ?_);cases h4
  exact RRet.y
 ·have h5:=A5 hF hb;refine rl.done (RW.cond_t rfl (RW.sf 2 rfl (RW.ret ?_)));cases h5
  exact RRet.y
theorem P3 {x0:List UInt8} {r:List UInt8} (hF:Q0 x0=some r):A7 Tryz.prog 99 [.str x0] (.str r):=by
 refine A7.q Xa ?_;unfold Q0 at hF;refine RW.sf 1 rfl (RW.sr 2 rfl ?_);obtain ⟨v1,e1,h1⟩:=A1 hF;refine rl.call rfl rfl rfl (A6.y (r':=.str v1) (D2 e1) ?_);refine rl.run 1 rfl ?_;obtain ⟨v2,e2,h2⟩:=A1 h1;refine rl.op (Q3 rfl rfl e2) ?_;refine rl.f 1 rfl (RW.ret ?_);cases h2
 exact RRet.y
theorem Pw {x0:TCheck} {r:(List UInt8)×Bool} (hF:V1 x0=some r):A7 Tryz.prog 37 [.agg (B7 false x0)] (.tup [.str r.1,.bool r.2]):=by
 refine A7.q Vn ?_;unfold V1 at hF;refine RW.sf 3 rfl (RW.seq (RW.sr 1 rfl ?_));obtain ⟨v1,e1,h1⟩:=A1 hF;refine rl.call rfl rfl rfl (A6.y (r':=.bool v1) (Ve e1) ?_)
 cases hb:v1
 ·have h2:=A4 h1 hb;refine rl.f 1 rfl (RW.cond_t rfl (RW.sf 2 rfl (RW.ret ?_)));cases h2
  exact RRet.y
 ·have h3:=A5 h1 hb;refine rl.f 1 rfl (RW.cond_f rfl (RW.skip (RW.sdrw (A0.op rfl rfl (A0.op rfl rfl ?_)))));obtain ⟨v2,e2,h4⟩:=A1 h3;refine A0.call rfl rfl rfl (A6.y (r':=.str v2) (D2 e2) ⟨rfl,?_⟩);refine A0.op rfl rfl (A0.op rfl rfl ?_);obtain ⟨v3,e3,h5⟩:=A1 h4;refine A0.call rfl rfl rfl (A6.y (r':=.str v3) (D2 e3) ⟨rfl,?_⟩);obtain ⟨v4,e4,h6⟩:=A1 h5;refine A0.op rfl (Q3 rfl rfl e4) ?_;refine A0.op rfl rfl (A0.op rfl rfl ?_);obtain ⟨v5,e5,h7⟩:=A1 h6;refine A0.call rfl rfl rfl (A6.y (r':=.str v5) (D2 e5) ⟨rfl,?_⟩);obtain ⟨v6,e6,h8⟩:=A1 h7;refine A0.op rfl (Q3 rfl rfl e6) ?_;refine A0.op rfl rfl (A0.op rfl rfl ?_);obtain ⟨v7,e7,h9⟩:=A1 h8;refine A0.call rfl rfl rfl (A6.y (r':=.str v7) (D2 e7) ⟨rfl,?_⟩);obtain ⟨v8,e8,h10⟩:=A1 h9;refine A0.op rfl (Q3 rfl rfl e8) ?_;refine A0.op rfl rfl (A0.op rfl rfl (A0.op rfl rfl ?_));obtain ⟨v9,e9,h11⟩:=A1 h10;refine A0.call rfl rfl rfl (A6.y (r':=.str v9) (D2 e9) ⟨rfl,?_⟩);obtain ⟨v10,e10,h12⟩:=A1 h11;refine A0.op rfl (Q3 rfl rfl e10) ?_;refine A0.op rfl rfl (A0.done ?_);refine RW.kp [1,4] [(1,.ptr 0 0),(4,.str v10)] [some ⟨B7 false x0,0⟩] rfl rfl ?_;refine RW.seq (RW.sf 1 rfl ?_);obtain ⟨y19,ey19,h14⟩:=A1 h12
  refine RW.cutq (σ:=(List UInt8)) (fun y12=>[(4,.str y12)]) (fun y12=>[]) (fun y=>y19=y) gg ?_ ?_
  ·refine RW.blk ?_
   refine RW.iter (σ:=(List UInt8)×Int) ey19 (fun s11=>[(1,.ptr 0 0),(4,.str s11.1),(5,.j s11.2)]) (fun s11=>[some ⟨B7 false x0,0⟩]) (Gh.y0 [0]) (fun s11 B o hS13 hB13 hE13=>?_)
   unfold V6 at hS13;refine RW.seq (RW.sr 4 rfl ?_)
   refine rl.gen rfl rfl fun b hb=>?_
   cases b
   ·have h15:=A4 hS13 hb;refine rl.done (RW.cond_f rfl (RW.exit (C4 ?_)));cases h15
    exact ⟨_,(hE13 _ rfl).symm,(Gh.y0 [])⟩
   ·have h16:=A5 hS13 hb;refine rl.done (RW.cond_t rfl (RW.skip (RW.seq (RW.blk (RW.drw (A0.op rfl rfl (A0.op rfl rfl (A0.op rfl rfl (A0.op rfl rfl ?_)))))))));obtain ⟨v13,e13,h17⟩:=A1 h16;refine A0.op rfl (C0 (enc:=C8) (o:=false) rfl rfl rfl e13) ?_;refine A0.op rfl rfl ?_;refine A0.op rfl (H7 (off':=0) Z0 rfl e13 rfl rfl rfl) ?_;obtain ⟨v14,e14,h18⟩:=A1 h17;refine A0.call rfl rfl rfl (A6.y (r':=.str v14) (D2 e14) ⟨rfl,?_⟩);obtain ⟨v15,e15,h19⟩:=A1 h18;refine A0.op rfl (Q3 rfl rfl e15) ?_;refine A0.op rfl rfl (A0.op rfl rfl (A0.op rfl rfl ?_));obtain ⟨v16,e16,h20⟩:=A1 h19;refine A0.op rfl (C0 (enc:=C8) (o:=false) rfl rfl rfl e16) ?_;refine A0.op rfl rfl ?_;refine A0.op rfl (H7 (off':=1) Z0 rfl e16 rfl rfl rfl) ?_;obtain ⟨v17,e17,h21⟩:=A1 h20;refine A0.call rfl rfl rfl (A6.y (r':=.str v17) (D2 e17) ⟨rfl,?_⟩);obtain ⟨v18,e18,h22⟩:=A1 h21;refine A0.op rfl (Q3 rfl rfl e18) ?_;refine A0.op rfl rfl (A0.done (RW.reg (rl.f 3 rfl ?_)));cases h22
    exact hB13 _ rfl _ _ (Gh.y0 [0])
  ·intro y12 hC
   subst hC;refine RW.sr 1 rfl ?_;obtain ⟨v20,e20,h23⟩:=A1 h14;refine rl.call rfl rfl rfl (A6.y (r':=.tup [.str v20.1,.bool v20.2]) (Ku e20) ?_);refine rl.f 5 rfl (RW.sr 1 rfl ?_);obtain ⟨v21,e21,h24⟩:=A1 h23;refine rl.call rfl rfl rfl (A6.y (r':=.str v21) (P3 e21) ?_);refine rl.f 1 rfl (RW.seq (RW.seq ?_));obtain ⟨y22,ey22,h25⟩:=A1 h24
   refine RW.cutq (σ:=Bool) (fun y22=>[(8,.str v21),(69,.bool y22)]) (fun y22=>[]) (fun y=>y22=y) gg ?_ ?_
   ·refine RW.reg ?_;refine rl.run 3 rfl ?_
    cases hb:(!v20.2)
    ·have h26:=A4 ey22 hb;refine rl.run 2 rfl ?_
     refine rl.gen rfl rfl fun b hb=>?_
     cases b
     ·have h27:=A4 h26 hb;refine rl.f 1 rfl ?_;cases h27
      exact ⟨_,rfl,(Gh.y0 [])⟩
     ·have h28:=A5 h26 hb;refine rl.f 1 rfl ?_;cases h28
      exact ⟨_,rfl,(Gh.y0 [])⟩
    ·have h29:=A5 ey22 hb;refine rl.f 4 rfl ?_;cases h29
     exact ⟨_,rfl,(Gh.y0 [])⟩
   ·intro y hC
    subst hC
    cases hb:y22
    ·have h30:=A4 h25 hb;refine RW.cond_f rfl (RW.skip (RW.sf 3 rfl (RW.ret ?_)));cases h30
     exact RRet.y
    ·have h31:=A5 h25 hb;refine RW.cond_t rfl (RW.sf 2 rfl (RW.ret ?_));cases h31
     exact RRet.y
theorem Mr {x0:TDisk} {x1:TCheck} {r:TDisk×Bool} (hF:R6 x0 x1=some r):A7 Tryz.prog 42 [.agg (A3 false x0),.agg (B7 false x1)] (.tup [.agg (A3 true r.1),.bool r.2]):=by
 refine A7.q Qt ?_;unfold R6 at hF;refine RW.sf 4 rfl (RW.sr 1 rfl ?_);obtain ⟨v1,e1,h1⟩:=A1 hF;refine rl.call rfl rfl rfl (A6.y (r':=.tup [.str v1.1,.bool v1.2]) (Pw e1) ?_);refine rl.f 5 rfl (RW.seq (RW.seq ?_));obtain ⟨y2,ey2,h2⟩:=A1 h1
 refine RW.cutq (σ:=Bool) (fun y2=>[(2,.ptr 0 0),(3,.ptr 1 0),(4,.ptr 2 0),(6,.str v1.1),(21,.bool y2)]) (fun y2=>[some ⟨A3 false x0,0⟩,some ⟨B7 false x1,0⟩,some ⟨[.nils,.nils],0⟩]) (fun y=>y2=y) gg ?_ ?_
 ·refine RW.reg ?_;refine rl.run 3 rfl ?_
  cases hb:(!v1.2)
  ·have h3:=A4 ey2 hb;refine rl.run 1 rfl ?_;obtain ⟨v3,e3,h4⟩:=A1 h3;refine rl.call rfl rfl rfl (A6.y (r':=.bool v3) (Dz e3) ?_)
   cases hb:v3
   ·have h5:=A4 h4 hb;refine rl.f 2 rfl ?_;cases h5
    exact ⟨_,rfl,(Gh.y0 [0,1,2])⟩
   ·have h6:=A5 h4 hb;refine rl.f 2 rfl ?_;cases h6
    exact ⟨_,rfl,(Gh.y0 [0,1,2])⟩
  ·have h7:=A5 ey2 hb;refine rl.f 4 rfl ?_;cases h7
   exact ⟨_,rfl,(Gh.y0 [0,1,2])⟩
 ·intro y hC
  subst hC
  cases hb:y2
  ·have h8:=A4 h2 hb;refine RW.cond_f rfl (RW.skip (RW.sr 6 rfl ?_));obtain ⟨v4,e4,h9⟩:=A1 h8;refine rl.call rfl rfl rfl (A6.y (r':=.tup [.agg (A3 false v4.1),.bool v4.2]) (Gl e4) ?_);refine rl.f 6 rfl ?_;refine RW.kp [2,4,8,9] [(2,.ptr 0 0),(4,.ptr 2 0),(8,.ptr 3 0),(9,.bool v4.2)] [some ⟨A3 false x0,0⟩,some ⟨B7 false x1,0⟩,some ⟨[.nils,.nils],0⟩,some ⟨A3 false v4.1,0⟩] rfl rfl ?_;refine RW.seq (RW.sf 2 rfl ?_)
   cases hb:(!v4.2)
   ·have h10:=A4 h9 hb;refine RW.cond_f rfl (RW.skip (RW.sr 1 rfl ?_));obtain ⟨v5,e5,h11⟩:=A1 h10;refine rl.call rfl rfl rfl (A6.z (r':=.agg (C2 4 5 v5)) (H':=[some ⟨A3 false x0,0⟩,some ⟨B7 false x1,0⟩,some ⟨[.nils,.nils],0⟩,some ⟨A3 false v4.1,0⟩,some ⟨fl (encS true) v5.Sectors,1⟩,some ⟨fl (A2 true) v5.Cache,2⟩]) (V5 e5) ?_);refine rl.f 2 rfl (RW.ret ?_);cases h11
    exact RRet.y
   ·have h12:=A5 h9 hb;refine RW.cond_t rfl (RW.sr 1 rfl ?_);obtain ⟨v6,e6,h13⟩:=A1 h12;refine rl.call rfl rfl rfl (A6.z (r':=.agg (C2 4 5 v6)) (H':=[some ⟨A3 false x0,0⟩,some ⟨B7 false x1,0⟩,some ⟨[.nils,.nils],0⟩,some ⟨A3 false v4.1,0⟩,some ⟨fl (encS true) v6.Sectors,1⟩,some ⟨fl (A2 true) v6.Cache,2⟩]) (K6 e6) ?_);refine rl.f 2 rfl (RW.ret ?_);cases h13
    exact RRet.y
  ·have h14:=A5 h2 hb;refine RW.cond_t rfl (RW.sr 1 rfl ?_);obtain ⟨v7,e7,h15⟩:=A1 h14;refine rl.call rfl rfl rfl (A6.z (r':=.agg (C2 3 4 v7)) (H':=[some ⟨A3 false x0,0⟩,some ⟨B7 false x1,0⟩,some ⟨[.nils,.nils],0⟩,some ⟨fl (encS true) v7.Sectors,1⟩,some ⟨fl (A2 true) v7.Cache,2⟩]) (K6 e7) ?_);refine rl.f 2 rfl (RW.ret ?_);cases h15
   exact RRet.y
theorem Jw {x0:TFrame} {r:Bool} (hF:Z9 x0=some r):A7 Tryz.prog 170 [.agg (C3 false x0)] (.bool r):=by
 refine A7.q Zl ?_;unfold Z9 at hF;refine RW.sf 2 rfl (RW.seq ?_);obtain ⟨y1,ey1,h1⟩:=A1 hF
 refine RW.cutq (σ:=Bool) (fun y1=>[(2,.bool y1)]) (fun y1=>[]) (fun y=>y1=y) gg ?_ ?_
 ·refine RW.reg ?_;refine rl.run 2 rfl ?_;obtain ⟨v2,e2,h2⟩:=A1 ey1;refine rl.call rfl rfl rfl (A6.y (r':=.bool v2) (C1 e2) ?_)
  cases hb:v2
  ·have h3:=A4 h2 hb;refine rl.f 12 rfl ?_;cases h3
   exact ⟨_,rfl,(Gh.y0 [])⟩
  ·have h4:=A5 h2 hb;refine rl.run 3 rfl ?_;obtain ⟨v3,e3,h5⟩:=A1 h4;refine rl.call rfl rfl rfl (A6.y (r':=.bool v3) (C1 e3) ?_)
   cases hb:v3
   ·have h6:=A4 h5 hb;refine rl.f 8 rfl ?_;cases h6
    exact ⟨_,rfl,(Gh.y0 [])⟩
   ·have h7:=A5 h5 hb;refine rl.run 5 rfl ?_;obtain ⟨v4,e4,h8⟩:=A1 h7;refine rl.call rfl rfl rfl (A6.y (r':=.bool v4) (C1 e4) ?_);refine rl.f 2 rfl ?_;cases h8
    exact ⟨_,rfl,(Gh.y0 [])⟩
 ·intro y hC
  subst hC;refine RW.ret ?_;cases h1
  exact RRet.y
theorem Ay {x0:TFrame} {r:(List UInt8)×Bool} (hF:J7 x0=some r):A7 Tryz.prog 146 [.agg (C3 false x0)] (.tup [.str r.1,.bool r.2]):=by
 refine A7.q Uo ?_;unfold J7 at hF;refine RW.sf 3 rfl (RW.seq (RW.sr 1 rfl ?_));obtain ⟨v1,e1,h1⟩:=A1 hF;refine rl.call rfl rfl rfl (A6.y (r':=.bool v1) (Jw e1) ?_)
 cases hb:v1
 ·have h2:=A4 h1 hb;refine rl.f 1 rfl (RW.cond_t rfl (RW.sf 2 rfl (RW.ret ?_)));cases h2
  exact RRet.y
 ·have h3:=A5 h1 hb;refine rl.f 1 rfl (RW.cond_f rfl (RW.skip (RW.sdrw (A0.op rfl rfl (A0.op rfl rfl ?_)))));obtain ⟨v2,e2,h4⟩:=A1 h3;refine A0.call rfl rfl rfl (A6.y (r':=.str v2) (D2 e2) ⟨rfl,?_⟩);refine A0.op rfl rfl (A0.op rfl rfl ?_);obtain ⟨v3,e3,h5⟩:=A1 h4;refine A0.call rfl rfl rfl (A6.y (r':=.str v3) (D2 e3) ⟨rfl,?_⟩);obtain ⟨v4,e4,h6⟩:=A1 h5;refine A0.op rfl (Q3 rfl rfl e4) ?_;refine A0.op rfl rfl (A0.op rfl rfl (A0.op rfl rfl ?_));obtain ⟨v5,e5,h7⟩:=A1 h6;refine A0.call rfl rfl rfl (A6.y (r':=.str v5) (D2 e5) ⟨rfl,?_⟩);obtain ⟨v6,e6,h8⟩:=A1 h7;refine A0.op rfl (Q3 rfl rfl e6) ?_;refine A0.op rfl rfl (A0.op rfl rfl ?_);obtain ⟨v7,e7,h9⟩:=A1 h8;refine A0.op rfl (Q3 rfl rfl e7) ?_;obtain ⟨v8,e8,h10⟩:=A1 h9;refine A0.call rfl rfl rfl (A6.y (r':=.tup [.str v8.1,.bool v8.2]) (Ku e8) ⟨rfl,?_⟩);refine A0.op rfl rfl (A0.op rfl rfl (A0.op rfl rfl (A0.op rfl rfl (A0.done ?_))));refine RW.kp [2,3] [(2,.str v8.1),(3,.bool v8.2)] [some ⟨C3 false x0,0⟩] rfl rfl ?_;refine RW.ret ?_;cases h10
  exact RRet.y
theorem Rs {x0:Int} {r:Int} (hF:T3 x0=some r):A7 Tryz.prog 171 [.j x0] (.j r):=by
 refine A7.q Wo ?_;unfold T3 at hF;refine RW.sf 1 rfl (RW.seq (RW.sr 1 rfl ?_));obtain ⟨v1,e1,h1⟩:=A1 hF;refine rl.call rfl rfl rfl (A6.y (r':=.bool v1) (C1 e1) ?_)
 cases hb:v1
 ·have h2:=A4 h1 hb;refine rl.f 1 rfl (RW.cond_t rfl (RW.sf 1 rfl (RW.ret ?_)));cases h2
  exact RRet.y
 ·have h3:=A5 h1 hb;refine rl.f 1 rfl (RW.cond_f rfl (RW.skip (RW.sf 4 rfl (RW.ret ?_))));cases h3
  exact RRet.y
theorem M1 {x0:TDisk} {x1:Int} {x2:Int} {x3:List UInt8} {r:TDisk×Bool} (hF:F8 x0 x1 x2 x3=some r):A7 Tryz.prog 147 [.agg (A3 false x0),.j x1,.j x2,.str x3] (.tup [.agg (A3 true r.1),.bool r.2]):=by
 refine A7.q Wp ?_;unfold F8 at hF;refine RW.sf 3 rfl (RW.seq (RW.seq ?_));obtain ⟨y1,ey1,h1⟩:=A1 hF
 refine RW.cutq (σ:=Bool) (fun y1=>[(1,.j x1),(2,.j x2),(3,.str x3),(4,.ptr 0 0),(8,.ptr 1 0),(24,.bool y1)]) (fun y1=>[some ⟨A3 false x0,0⟩,some ⟨[.nils,.nils],0⟩]) (fun y=>y1=y) gg ?_ ?_
 ·refine RW.reg ?_;refine rl.run 1 rfl ?_;obtain ⟨v2,e2,h2⟩:=A1 ey1;refine rl.call rfl rfl rfl (A6.y (r':=.bool v2) (C1 e2) ?_)
  cases hb:v2
  ·have h3:=A4 h2 hb;refine rl.f 13 rfl ?_;cases h3
   exact ⟨_,rfl,(Gh.y0 [0,1])⟩
  ·have h4:=A5 h2 hb;refine rl.run 3 rfl ?_;obtain ⟨v3,e3,h5⟩:=A1 h4;refine rl.call rfl rfl rfl (A6.y (r':=.bool v3) (C1 e3) ?_)
   cases hb:v3
   ·have h6:=A4 h5 hb;refine rl.f 9 rfl ?_;cases h6
    exact ⟨_,rfl,(Gh.y0 [0,1])⟩
   ·have h7:=A5 h5 hb;refine rl.run 7 rfl ?_
    refine rl.gen rfl rfl fun b hb=>?_
    cases b
    ·have h8:=A4 h7 hb;refine rl.f 1 rfl ?_;cases h8
     exact ⟨_,rfl,(Gh.y0 [0,1])⟩
    ·have h9:=A5 h7 hb;refine rl.f 1 rfl ?_;cases h9
     exact ⟨_,rfl,(Gh.y0 [0,1])⟩
 ·intro y hC
  subst hC
  cases hb:y1
  ·have h10:=A4 h1 hb;refine RW.cond_f rfl (RW.skip (RW.sdrw (A0.op rfl rfl (A0.op rfl rfl ?_))));obtain ⟨v4,e4,h11⟩:=A1 h10;refine A0.call rfl rfl rfl (A6.y (r':=.j v4) (Rs e4) ⟨rfl,?_⟩);refine A0.op rfl rfl (A0.op rfl rfl ?_);obtain ⟨v5,e5,h12⟩:=A1 h11;refine A0.ccall rfl rfl rfl (A6.z (r':=.tup [.agg (C2 2 3 v5.1),.bool v5.2]) (H':=[some ⟨A3 false x0,0⟩,some ⟨[.nils,.nils],0⟩,some ⟨fl (encS true) v5.1.Sectors,1⟩,some ⟨fl (A2 true) v5.1.Cache,2⟩]) (Gl e5) ?_);refine A0.op rfl rfl (A0.op rfl rfl ?_);refine A0.chn rfl rfl ?_;refine A0.op rfl rfl (A0.done ?_);refine RW.kp [8,9] [(8,.ptr 1 0),(9,.bool v5.2)] [some ⟨A3 false x0,0⟩,some ⟨C2 2 3 v5.1,0⟩,some ⟨fl (encS true) v5.1.Sectors,1⟩,some ⟨fl (A2 true) v5.1.Cache,2⟩] rfl rfl ?_;refine RW.ret ?_;cases h12
   exact RRet.y
  ·have h13:=A5 h1 hb;refine RW.cond_t rfl (RW.sr 1 rfl ?_);obtain ⟨v6,e6,h14⟩:=A1 h13;refine rl.call rfl rfl rfl (A6.z (r':=.agg (C2 2 3 v6)) (H':=[some ⟨A3 false x0,0⟩,some ⟨[.nils,.nils],0⟩,some ⟨fl (encS true) v6.Sectors,1⟩,some ⟨fl (A2 true) v6.Cache,2⟩]) (K6 e6) ?_);refine rl.f 2 rfl (RW.ret ?_);cases h14
   exact RRet.y
theorem Jb {x0:TLog} {r:List Int} (hF:P8 x0=some r):A7 Tryz.prog 34 [.agg (B5 false x0)] (.lst true 1 (fl (encI true) r) r.length):=by
 refine A7.q Ws ?_;unfold P8 at hF;refine RW.sf 2 rfl (RW.sf 2 rfl (RW.seq (RW.sf 1 rfl ?_)));refine RW.gh (Gh.nil_t 3 1 rfl) ?_;obtain ⟨y9,ey9,h2⟩:=A1 hF
 refine RW.cutq (σ:=(List Int)) (fun y2=>[(3,.sl 0 0 y2.length)]) (fun y2=>[some ⟨fl (encI true) y2,1⟩]) (fun y=>y9=y) gg ?_ ?_
 ·refine RW.blk ?_
  refine RW.iter (σ:=Int×(List Int)) ey9 (fun s1=>[(1,.ptr 0 0),(3,.sl 1 0 s1.2.length),(4,.j s1.1)]) (fun s1=>[some ⟨B5 false x0,0⟩,some ⟨fl (encI true) s1.2,1⟩]) (Gh.y0 [0,1]) (fun s1 B o hS1 hB1 hE1=>?_)
  unfold Br at hS1;refine RW.seq (RW.seq ?_);obtain ⟨y3,ey3,h3⟩:=A1 hS1
  refine RW.cutq (σ:=Bool) (fun y3=>[(1,.ptr 0 0),(3,.sl 1 0 s1.2.length),(4,.j s1.1),(15,.bool y3)]) (fun y3=>[some ⟨B5 false x0,0⟩,some ⟨fl (encI true) s1.2,1⟩]) (fun y=>y3=y) gg ?_ ?_
  ·refine RW.reg ?_;refine rl.run 3 rfl ?_
   refine rl.gen rfl rfl fun b hb=>?_
   cases b
   ·have h4:=A4 ey3 hb;refine rl.f 4 rfl ?_;cases h4
    exact ⟨_,rfl,(Gh.y0 [0,1])⟩
   ·have h5:=A5 ey3 hb;refine rl.run 2 rfl ?_
    refine rl.gen rfl rfl fun b hb=>?_
    cases b
    ·have h6:=A4 h5 hb;refine rl.f 1 rfl ?_;cases h6
     exact ⟨_,rfl,(Gh.y0 [0,1])⟩
    ·have h7:=A5 h5 hb;refine rl.f 1 rfl ?_;cases h7
     exact ⟨_,rfl,(Gh.y0 [0,1])⟩
  ·intro y hC
   subst hC
   cases hb:y3
   ·have h8:=A4 h3 hb;refine RW.cond_f rfl (RW.exit (C4 ?_));cases h8
    exact ⟨_,(hE1 _ rfl).symm,(Gh.y0 [1])⟩
   ·have h9:=A5 h3 hb;refine RW.cond_t rfl (RW.skip (RW.seq (RW.blk (RW.sf 1 rfl (RW.seq (RW.sf 1 rfl ?_))))));obtain ⟨y7,ey7,h11⟩:=A1 h9
    refine RW.cutq (σ:=Bool) (fun y5=>[(1,.ptr 0 0),(3,.sl 1 0 s1.2.length),(4,.j s1.1),(5,.bool y5)]) (fun y5=>[some ⟨B5 false x0,0⟩,some ⟨fl (encI true) s1.2,1⟩]) (fun y=>y7=y) gg ?_ ?_
    ·refine RW.blk ?_
     refine RW.iter (σ:=Bool×Int) ey7 (fun s4=>[(1,.ptr 0 0),(3,.sl 1 0 s1.2.length),(4,.j s1.1),(5,.bool s4.1),(6,.j s4.2)]) (fun s4=>[some ⟨B5 false x0,0⟩,some ⟨fl (encI true) s1.2,1⟩]) (Gh.y0 [0,1]) (fun s4 B o hS10 hB10 hE10=>?_)
     unfold R9 at hS10;refine RW.seq (RW.sr 4 rfl ?_)
     refine rl.gen rfl rfl fun b hb=>?_
     cases b
     ·have h12:=A4 hS10 hb;refine rl.done (RW.cond_f rfl (RW.exit (C4 ?_)));cases h12
      exact ⟨_,(hE10 _ rfl).symm,(Gh.y0 [0,1])⟩
     ·have h13:=A5 hS10 hb;refine rl.done (RW.cond_t rfl (RW.skip (RW.seq (RW.blk (RW.reg (rl.run 2 rfl ?_))))))
      cases hb:s4.1
      ·have h14:=A4 h13 hb;refine rl.run 3 rfl ?_;obtain ⟨v6,e6,h15⟩:=A1 h14;refine rl.gop rfl (C0 (enc:=A8) (o:=false) rfl rfl rfl e6) ?_;refine rl.run 1 rfl ?_;refine rl.gop rfl (H7 (off':=0) B3 rfl e6 rfl rfl rfl) ?_;refine rl.run 1 rfl ?_
       refine rl.gen rfl rfl fun b hb=>?_
       cases b
       ·have h16:=A4 h15 hb;refine rl.f 2 rfl (RW.reg (rl.f 3 rfl ?_));cases h16
        exact hB10 _ rfl _ _ (Gh.y0 [0,1])
       ·have h17:=A5 h15 hb;refine rl.f 2 rfl (RW.reg (rl.f 3 rfl ?_));cases h17
        exact hB10 _ rfl _ _ (Gh.y0 [0,1])
      ·have h18:=A5 h13 hb;refine rl.f 10 rfl (RW.reg (rl.f 3 rfl ?_));cases h18
       exact hB10 _ rfl _ _ (Gh.y0 [0,1])
    ·intro y5 hC
     subst hC;refine RW.sf 2 rfl ?_
     cases hb:(!y7)
     ·have h19:=A4 h11 hb;refine RW.cond_f rfl (RW.skip (RW.reg (rl.f 3 rfl ?_)));cases h19
      exact hB1 _ rfl _ _ (Gh.y0 [0,1])
     ·have h20:=A5 h11 hb;refine RW.cond_t rfl (RW.reg (rl.run 3 rfl ?_));obtain ⟨v8,e8,h21⟩:=A1 h20;refine rl.op (Ar rfl rfl (Y4 (l:=s1.2) (m:=[s1.1]) (o:=true) ekI rfl rfl (Q9 (m:=[s1.1]) (o:=true) fkI rfl rfl) rfl (fkI.fst _ _) e8)) ?_;refine rl.f 1 rfl (RW.reg (rl.f 3 rfl ?_));cases h21
      exact hB1 _ rfl _ _ (Gh.y0 [0,3])
 ·intro y2 hC
  subst hC;refine RW.sf 2 rfl (RW.ret ?_);cases h2
  exact RRet.y
theorem Mz {x0:TLog} {x1:Int} {r:Bool×TLog} (hF:T0 x0 x1=some r):C5 Tryz.prog 0 88 [.ptr 0 0,.j x1] [some ⟨[.lst true 1 (fl (encS true) x0.Disk.Sectors) x0.Disk.Sectors.length,.lst true 2 (fl (A2 true) x0.Disk.Cache) x0.Disk.Cache.length,.j x0.Segs,.nils,.j x0.NextGen,.j x0.NextSeq,.j x0.Stamp,.j x0.NextValid],0⟩] (.bool r.1) [some ⟨B5 true r.2,0⟩]:=by
 refine C5.q Lw ?_;unfold T0 at hF
 refine RW.gh (Gh.expose (b:=0) (j:=0) rfl rfl (by decide) (ekS.fown _)) ?_
 refine RW.gh (Gh.expose (b:=0) (j:=1) rfl rfl (by decide) (B2.fown _)) ?_
 refine RW.sf 1 rfl (RW.sr 3 rfl ?_);obtain ⟨v1,e1,h1⟩:=A1 hF;refine rl.call rfl rfl rfl (A6.y (r':=L_I v1) (Jb e1) ?_);refine rl.f 1 rfl (RW.seq (RW.seq ?_));obtain ⟨y2,ey2,h2⟩:=A1 h1
 refine RW.cutq (σ:=Bool) (fun y2=>[(0,.ptr 0 0),(5,L_I v1),(21,.bool y2)]) (fun y2=>[some ⟨[.sl 1 0 x0.Disk.Sectors.length,.sl 2 0 x0.Disk.Cache.length,.j x0.Segs,.nils,.j x0.NextGen,.j x0.NextSeq,.j x0.Stamp,.j x0.NextValid],0⟩,some ⟨fl (encS true) x0.Disk.Sectors,1⟩,some ⟨fl (A2 true) x0.Disk.Cache,2⟩]) (fun y=>y2=y) gg ?_ ?_
 ·refine RW.reg ?_;refine rl.run 1 rfl ?_
  refine rl.gen rfl rfl fun b hb=>?_
  cases b
  ·have h3:=A4 ey2 hb;refine rl.run 4 rfl ?_
   refine rl.gen rfl rfl fun b hb=>?_
   cases b
   ·have h4:=A4 h3 hb;refine rl.f 1 rfl ?_;cases h4
    exact ⟨_,rfl,(Gh.rN [0,1,2])⟩
   ·have h5:=A5 h3 hb;refine rl.f 1 rfl ?_;cases h5
    exact ⟨_,rfl,(Gh.rN [0,1,2])⟩
  ·have h6:=A5 ey2 hb;refine rl.f 6 rfl ?_;cases h6
   exact ⟨_,rfl,(Gh.rN [0,1,2])⟩
 ·intro y hC
  subst hC
  cases hb:y2
  ·have h7:=A4 h2 hb;refine RW.cond_f rfl (RW.skip (RW.sr 5 rfl ?_));obtain ⟨v3,e3,h8⟩:=A1 h7;refine rl.call rfl rfl rfl (A6.y (r':=.tup [.str v3.1,.bool v3.2]) (Ay e3) ?_);refine rl.f 5 rfl (RW.sdrw (A0.op rfl rfl (A0.op rfl rfl (A0.op rfl rfl (A0.op rfl rfl (A0.op rfl rfl ?_))))));obtain ⟨v4,e4,h9⟩:=A1 h8;refine A0.op rfl (C0 (enc:=encI) (o:=false) rfl rfl rfl e4) ?_;refine A0.op rfl (H7 (off':=0) ekI rfl e4 rfl rfl rfl) ?_;refine A0.op rfl rfl ?_;obtain ⟨v5,e5,h10⟩:=A1 h9;refine A0.call rfl rfl rfl (A6.y (r':=.tup [.agg (A3 false v5.1),.bool v5.2]) (M1 e5) ⟨rfl,?_⟩);refine A0.op rfl rfl (A0.op rfl rfl (A0.op rfl rfl ?_));refine A0.chnB rfl rfl (.here (.rx rfl) (.here (.rx rfl) (.here (.rx rfl) (.here (.cl rfl rfl (A6.y (r':=.tup [.agg (A3 false v5.1),.bool v5.2]) (M1 e5) ⟨rfl,rfl⟩)) (.here (.rx rfl) (.here (.rx (H7 (off':=0) ekI rfl e4 rfl rfl rfl)) (.here (.rx (C0 (enc:=encI) (o:=false) rfl rfl rfl e4)) (.here (.rx rfl) (.here (.rx rfl) (.here (.rx rfl) (.here (.rx rfl) (.here (.rx rfl) .nil)))))))))))) ?_;refine A0.chnB rfl rfl (.here (.rx rfl) (.skip rfl (.skip rfl (.skip rfl (.skip rfl (.skip rfl (.skip rfl (.skip rfl (.skip rfl (.skip rfl (.skip rfl (.skip rfl .nil)))))))))))) ?_;refine A0.op rfl rfl (A0.done ?_);refine RW.kp [0,5,6,7,8,9] [(0,.ptr 0 0),(5,L_I v1),(6,.str v3.1),(7,.bool v3.2),(8,.ptr 3 0),(9,.bool v5.2)] [some ⟨[.sl 1 0 x0.Disk.Sectors.length,.sl 2 0 x0.Disk.Cache.length,.j x0.Segs,.nils,.j x0.NextGen,.j x0.NextSeq,.j x0.Stamp,.j x0.NextValid],0⟩,some ⟨fl (encS true) x0.Disk.Sectors,1⟩,some ⟨fl (A2 true) x0.Disk.Cache,2⟩,some ⟨A3 false v5.1,0⟩] rfl rfl ?_;refine RW.seq (RW.seq ?_);obtain ⟨y6,ey6,h11⟩:=A1 h10
   refine RW.cutq (σ:=Bool) (fun y6=>[(0,.ptr 0 0),(5,L_I v1),(6,.str v3.1),(8,.ptr 1 0),(55,.bool y6)]) (fun y6=>[some ⟨[.sl 2 0 x0.Disk.Sectors.length,.sl 3 0 x0.Disk.Cache.length,.j x0.Segs,.nils,.j x0.NextGen,.j x0.NextSeq,.j x0.Stamp,.j x0.NextValid],0⟩,some ⟨A3 false v5.1,0⟩,some ⟨fl (encS true) x0.Disk.Sectors,1⟩,some ⟨fl (A2 true) x0.Disk.Cache,2⟩]) (fun y=>y6=y) gg ?_ ?_
   ·refine RW.reg ?_;refine rl.run 3 rfl ?_
    cases hb:(!v3.2)
    ·have h12:=A4 ey6 hb;refine rl.run 4 rfl ?_
     cases hb:(!v5.2)
     ·have h13:=A4 h12 hb;refine rl.run 4 rfl ?_
      refine rl.gen rfl rfl fun b hb=>?_
      cases b
      ·have h14:=A4 h13 hb;refine rl.f 1 rfl ?_;cases h14
       exact ⟨_,rfl,(Gh.rN [0,3,1,2])⟩
      ·have h15:=A5 h13 hb;refine rl.f 1 rfl ?_;cases h15
       exact ⟨_,rfl,(Gh.rN [0,3,1,2])⟩
     ·have h16:=A5 h12 hb;refine rl.f 6 rfl ?_;cases h16
      exact ⟨_,rfl,(Gh.rN [0,3,1,2])⟩
    ·have h17:=A5 ey6 hb;refine rl.f 10 rfl ?_;cases h17
     exact ⟨_,rfl,(Gh.rN [0,3,1,2])⟩
   ·intro y hC
    subst hC
    cases hb:y6
    ·have h18:=A4 h11 hb;refine RW.cond_f rfl (RW.skip (RW.sr 2 rfl ?_));obtain ⟨v7,e7,h19⟩:=A1 h18;refine rl.call rfl rfl rfl (A6.z (r':=.agg (C2 4 5 v7)) (H':=[some ⟨[.sl 2 0 x0.Disk.Sectors.length,.sl 3 0 x0.Disk.Cache.length,.j x0.Segs,.nils,.j x0.NextGen,.j x0.NextSeq,.j x0.Stamp,.j x0.NextValid],0⟩,some ⟨A3 false v5.1,0⟩,some ⟨fl (encS true) x0.Disk.Sectors,1⟩,some ⟨fl (A2 true) x0.Disk.Cache,2⟩,some ⟨fl (encS true) v7.Sectors,1⟩,some ⟨fl (A2 true) v7.Cache,2⟩]) (V5 e7) ?_);refine rl.f 3 rfl (RW.sdrw (A0.op rfl rfl (A0.op rfl rfl (A0.op rfl rfl (A0.op rfl rfl (A0.op rfl rfl (A0.op rfl rfl ?_)))))));refine A0.chnB rfl rfl (.skip rfl (.skip rfl (.skip rfl (.skip rfl (.skip rfl (.here (.rx rfl) .nil)))))) ?_;refine A0.opA rfl rfl (.here (.rx rfl) .nil) ?_;obtain ⟨v8,e8,h20⟩:=A1 h19;refine A0.opA rfl (C0 (enc:=encI) (o:=false) rfl rfl rfl e8) (.here (.rx (C0 (enc:=encI) (o:=false) rfl rfl rfl e8)) .nil) ?_;refine A0.opA rfl (H7 (off':=0) ekI rfl e8 rfl rfl rfl) (.here (.rx (H7 (off':=0) ekI rfl e8 rfl rfl rfl)) .nil) ?_;refine A0.opA rfl rfl (.here (.rx rfl) .nil) ?_;refine A0.opA rfl rfl (.here (.rx rfl) .nil) ?_;refine A0.opA rfl rfl (.here (.rx rfl) .nil) ?_;refine A0.opA rfl rfl (.here (.rx rfl) .nil) ?_;refine A0.opA rfl rfl (.here (.rx rfl) .nil) ?_;refine A0.opA rfl rfl (.here (.rx rfl) .nil) ?_;refine A0.opA rfl rfl (.here (.rx rfl) .nil) ?_;refine A0.litA (u:=.lst false 4 [.j v8,.j x0.NextGen,.j (v3.1.length:Int),.nils] 1) rfl rfl (Lit.mk rfl rfl) (.here (.lit rfl (Lit.mk rfl rfl)) .nil) ?_;obtain ⟨v9,e9,h21⟩:=A1 h20;refine A0.chnB rfl (Ar rfl rfl (Th B3 rfl rfl rfl e9)) (.skip rfl (.skip rfl (.skip rfl (.skip rfl (.skip rfl (.skip rfl (.skip rfl (.skip rfl (.skip rfl (.skip rfl (.skip rfl (.skip rfl (.skip rfl (.skip rfl (.skip rfl (.skip rfl (.here (.rx rfl) .nil))))))))))))))))) ?_;refine A0.op rfl rfl (A0.op rfl rfl ?_);refine A0.chn rfl rfl ?_;refine A0.done ?_;refine RW.gh (Gh.own0 (b:=7) rfl (NL.append NL.refl (NL.append (.same (.same (.same (.nils (es:=9) .nil)))) NL.refl))) ?_
     refine RW.gh (Gh.blk (b:=7) rfl (Xd (enc:=A8) e9 rfl)) ?_;refine RW.kp [0] [(0,.ptr 0 0)] [some ⟨[.sl 4 0 v7.Sectors.length,.sl 5 0 v7.Cache.length,.j x0.Segs,.sl 7 0 v9.length,.j x0.NextGen,.j x0.NextSeq,.j x0.Stamp,.j x0.NextValid],0⟩,some ⟨A3 false v5.1,0⟩,some ⟨fl (encS true) x0.Disk.Sectors,1⟩,some ⟨fl (A2 true) x0.Disk.Cache,2⟩,some ⟨fl (encS true) v7.Sectors,1⟩,some ⟨fl (A2 true) v7.Cache,2⟩,none,some ⟨fl (A8 true) v9,4⟩] rfl rfl ?_;refine RW.sf 8 rfl (RW.sf 1 rfl (RW.ret ?_));cases h21
     exact RRetS.m (Gh.trans (Gh.absorbq (b:=0) (j:=0) (m:=4) rfl rfl rfl (by decide) (by decide) rfl (ekS.flen true _) (ekS.fown _)) (Gh.trans (Gh.absorbq (b:=0) (j:=1) (m:=5) rfl rfl rfl (by decide) (by decide) rfl (B2.flen true _) (B2.fown _)) (Gh.trans (Gh.absorbq (b:=0) (j:=3) (m:=7) rfl rfl rfl (by decide) (by decide) rfl (B3.flen true _) (B3.fown _)) (Gh.rN [0]))))
    ·have h22:=A5 h11 hb;refine RW.cond_t rfl (RW.sf 1 rfl (RW.ret ?_));cases h22
     exact RRetS.m (Gh.trans (Gh.own0 (b:=0) rfl (.same (.same (.same (.nils (.same (.same (.same (.same .nil))))))))) (Gh.trans (Gh.absorbq (b:=0) (j:=0) (m:=2) rfl rfl rfl (by decide) (by decide) rfl (ekS.flen true _) (ekS.fown _)) (Gh.trans (Gh.absorbq (b:=0) (j:=1) (m:=3) rfl rfl rfl (by decide) (by decide) rfl (B2.flen true _) (B2.fown _)) (Gh.rN [0]))))
  ·have h23:=A5 h2 hb;refine RW.cond_t rfl (RW.sf 1 rfl (RW.ret ?_));cases h23
   exact RRetS.m (Gh.trans (Gh.own0 (b:=0) rfl (.same (.same (.same (.nils (.same (.same (.same (.same .nil))))))))) (Gh.trans (Gh.absorbq (b:=0) (j:=0) (m:=1) rfl rfl rfl (by decide) (by decide) rfl (ekS.flen true _) (ekS.fown _)) (Gh.trans (Gh.absorbq (b:=0) (j:=1) (m:=2) rfl rfl rfl (by decide) (by decide) rfl (B2.flen true _) (B2.fown _)) (Gh.rN [0]))))
theorem Mu {x0:Int} {r:TLog×Bool} (hF:Y5 x0=some r):A7 Tryz.prog 116 [.j x0] (.tup [.agg (B5 true r.1),.bool r.2]):=by
 refine A7.q Qu ?_;unfold Y5 at hF;refine RW.sf 2 rfl (RW.seq (RW.sr 1 rfl ?_));obtain ⟨v1,e1,h1⟩:=A1 hF;refine rl.call rfl rfl rfl (A6.y (r':=.bool v1) (C1 e1) ?_)
 cases hb:v1
 ·have h2:=A4 h1 hb;refine rl.f 1 rfl (RW.cond_t rfl (RW.sf 3 rfl (RW.ret ?_)));cases h2
  exact RRet.y
 ·have h3:=A5 h1 hb;refine rl.f 1 rfl (RW.cond_f rfl (RW.skip (RW.sr 3 rfl ?_)));obtain ⟨v2,e2,h4⟩:=A1 h3;refine rl.call rfl rfl rfl (A6.z (r':=.tup [.agg (C2 1 2 v2.1),.bool v2.2]) (H':=[some ⟨[.nils,.nils,.j 0,.nils,.j 0,.j 0,.j 0,.j 0],0⟩,some ⟨fl (encS true) v2.1.Sectors,1⟩,some ⟨fl (A2 true) v2.1.Cache,2⟩]) (Vs e2) ?_);refine rl.f 6 rfl ?_;refine RW.kp [0,2,4] [(0,.j x0),(2,.ptr 0 0),(4,.ptr 3 0)] [some ⟨[.nils,.nils,.j 0,.nils,.j 0,.j 0,.j 0,.j 0],0⟩,some ⟨fl (encS true) v2.1.Sectors,1⟩,some ⟨fl (A2 true) v2.1.Cache,2⟩,some ⟨C2 1 2 v2.1,0⟩] rfl rfl ?_;refine RW.sf 5 rfl (RW.seq ?_)
  refine RW.gh (Gh.absorbq (b:=4) (j:=0) (m:=1) rfl rfl rfl (by decide) (by decide) rfl (ekS.flen true _) (ekS.fown _)) ?_
  refine RW.gh (Gh.absorbq (b:=4) (j:=1) (m:=2) rfl rfl rfl (by decide) (by decide) rfl (B2.flen true _) (B2.fown _)) ?_
  refine RW.sreg ?_;obtain ⟨v3,e3,h5⟩:=A1 h4;refine rl.call rfl rfl rfl (A6.eW (r0:=.bool v3.1) (H':=[some ⟨[.nils,.nils,.j 0,.nils,.j 0,.j 0,.j 0,.j 0],0⟩,none,none,some ⟨C2 1 2 v2.1,0⟩,some ⟨B5 true v3.2,0⟩]) [⟨[.lst true 1 (fl (encS true) v2.1.Sectors) v2.1.Sectors.length,.lst true 2 (fl (A2 true) v2.1.Cache) v2.1.Cache.length,.j x0,.nils,.j 1,.j 1,.j 0,.j 1],0⟩] [⟨B5 true v3.2,0⟩] [4] (Mz e3) ?_)
  cases hb:v3.1
  ·have h6:=A4 h5 hb;refine rl.f 1 rfl ?_
   refine RW.gh (Gh.expose (b:=4) (j:=0) rfl rfl (by decide) (ekS.fown _)) ?_
   refine RW.gh (Gh.expose (b:=4) (j:=1) rfl rfl (by decide) (B2.fown _)) ?_
   refine RW.gh (Gh.expose (b:=4) (j:=3) rfl rfl (by decide) (B3.fown _)) ?_
   refine RW.kp [2,6,24] [(2,.ptr 0 0),(6,.ptr 4 0),(24,.bool true)] [some ⟨[.nils,.nils,.j 0,.nils,.j 0,.j 0,.j 0,.j 0],0⟩,none,none,some ⟨C2 1 2 v2.1,0⟩,some ⟨Q2 5 6 7 v3.2,0⟩,some ⟨fl (encS true) v3.2.Disk.Sectors,1⟩,some ⟨fl (A2 true) v3.2.Disk.Cache,2⟩,some ⟨fl (A8 true) v3.2.Used,4⟩] rfl rfl ?_;refine RW.cond_t rfl (RW.sf 3 rfl (RW.ret ?_));cases h6
   exact RRet.y
  ·have h7:=A5 h5 hb;refine rl.f 1 rfl ?_
   refine RW.gh (Gh.expose (b:=4) (j:=0) rfl rfl (by decide) (ekS.fown _)) ?_
   refine RW.gh (Gh.expose (b:=4) (j:=1) rfl rfl (by decide) (B2.fown _)) ?_
   refine RW.gh (Gh.expose (b:=4) (j:=3) rfl rfl (by decide) (B3.fown _)) ?_
   refine RW.kp [2,6,24] [(2,.ptr 0 0),(6,.ptr 4 0),(24,.bool false)] [some ⟨[.nils,.nils,.j 0,.nils,.j 0,.j 0,.j 0,.j 0],0⟩,none,none,some ⟨C2 1 2 v2.1,0⟩,some ⟨Q2 5 6 7 v3.2,0⟩,some ⟨fl (encS true) v3.2.Disk.Sectors,1⟩,some ⟨fl (A2 true) v3.2.Disk.Cache,2⟩,some ⟨fl (A8 true) v3.2.Used,4⟩] rfl rfl ?_;refine RW.cond_f rfl (RW.skip ?_);refine RW.sdrwF [⟨[.nils,.nils],0⟩] ?_;refine A0.op rfl rfl (A0.op rfl rfl (A0.op rfl rfl ?_));obtain ⟨v4,e4,h8⟩:=A1 h7;refine A0.call rfl rfl rfl (A6.y (r':=.agg (B7 false v4)) (Fh e4) ⟨rfl,?_⟩);obtain ⟨v5,e5,h9⟩:=A1 h8;refine A0.ccall rfl rfl rfl (A6.z (r':=.tup [.agg (C2 9 10 v5.1),.bool v5.2]) (H':=[some ⟨[.nils,.nils,.j 0,.nils,.j 0,.j 0,.j 0,.j 0],0⟩,none,none,some ⟨C2 1 2 v2.1,0⟩,some ⟨Q2 5 6 7 v3.2,0⟩,some ⟨fl (encS true) v3.2.Disk.Sectors,1⟩,some ⟨fl (A2 true) v3.2.Disk.Cache,2⟩,some ⟨fl (A8 true) v3.2.Used,4⟩,some ⟨[.nils,.nils],0⟩,some ⟨fl (encS true) v5.1.Sectors,1⟩,some ⟨fl (A2 true) v5.1.Cache,2⟩]) (Mr e5) ?_);refine A0.op rfl rfl (A0.op rfl rfl (A0.op rfl rfl ?_));refine A0.flt rfl (.cons rfl .nil) ?_;refine A0.chnB rfl rfl (.here (.rx rfl) (.skip rfl (.skip rfl (.skip rfl (.skip rfl (.skip rfl (.skip rfl .nil))))))) ?_;refine A0.op rfl rfl (A0.done (RW.seq (RW.sf 2 rfl ?_)));refine RW.kp [2,6,7,35] [(2,.ptr 0 0),(6,.ptr 4 0),(7,.ptr 8 0),(35,.bool (!v5.2))] [some ⟨[.nils,.nils,.j 0,.nils,.j 0,.j 0,.j 0,.j 0],0⟩,none,none,some ⟨C2 1 2 v2.1,0⟩,some ⟨Q2 5 6 7 v3.2,0⟩,some ⟨fl (encS true) v3.2.Disk.Sectors,1⟩,some ⟨fl (A2 true) v3.2.Disk.Cache,2⟩,some ⟨fl (A8 true) v3.2.Used,4⟩,some ⟨C2 9 10 v5.1,0⟩,some ⟨fl (encS true) v5.1.Sectors,1⟩,some ⟨fl (A2 true) v5.1.Cache,2⟩] rfl rfl ?_
   cases hb:(!v5.2)
   ·have h10:=A4 h9 hb;refine RW.cond_f rfl (RW.skip (RW.sf 3 rfl (RW.sf 2 rfl (RW.sf 3 rfl (RW.ret ?_)))));cases h10
    exact RRet.y
   ·have h11:=A5 h9 hb;refine RW.cond_t rfl (RW.sf 3 rfl (RW.ret ?_));cases h11
    exact RRet.y
theorem V9 {x0:TL01Cur} {B0_ o0_:Nat} {r:Int×TL01Cur} (hF:L6 x0=some r):C5 Tryz.prog 0 48 [.ptr 0 0] [some ⟨[pvB B0_ o0_ x0.mB,.j x0.mI,.j x0.mH],0⟩] (.j r.1) [some ⟨[pvB B0_ o0_ x0.mB,.j r.2.mI,.j r.2.mH],0⟩]:=by
 refine C5.q Xj ?_;unfold L6 at hF;refine RW.sf 1 rfl (RW.sf 10 rfl (RW.sdrw (A0.op rfl rfl (A0.op rfl rfl (A0.op rfl rfl (A0.op rfl rfl (A0.op rfl rfl ?_)))))));refine A0.op rfl rfl (A0.op rfl rfl (A0.op rfl rfl (A0.op rfl rfl (A0.op rfl rfl (A0.op rfl rfl (A0.op rfl rfl (A0.op rfl rfl (A0.done ?_))))))));refine RW.kp [0,3] [(0,.ptr 0 0),(3,.j (andv .i64 (xorv .i64 (shrv .i64 (w64 ((w64 (x0.mH*6364136223846793005))+1442695040888963407)) 33) (shrv .i64 (w64 ((w64 (x0.mH*6364136223846793005))+1442695040888963407)) 45)) 255))] [some ⟨[pvB B0_ o0_ x0.mB,.j x0.mI,.j (w64 ((w64 (x0.mH*6364136223846793005))+1442695040888963407))],0⟩] rfl rfl ?_;refine RW.seq (RW.sdrw (A0.op rfl rfl (A0.op rfl rfl (A0.op rfl rfl (A0.op rfl rfl (A0.op rfl rfl (A0.op rfl rfl (A0.op rfl rfl (A0.op rfl rfl (A0.op rfl rfl ?_))))))))))
 refine A0.gen rfl rfl fun b hb=>?_
 cases b
 ·have h1:=A4 hF hb;refine A0.done (RW.cond_f rfl (RW.skip (RW.sf 2 rfl ?_)));refine RW.kp [2] [(2,.j (andv .i64 (xorv .i64 (shrv .i64 (w64 ((w64 (x0.mH*6364136223846793005))+1442695040888963407)) 33) (shrv .i64 (w64 ((w64 (x0.mH*6364136223846793005))+1442695040888963407)) 45)) 255))] [some ⟨[pvB B0_ o0_ x0.mB,.j x0.mI,.j (w64 ((w64 (x0.mH*6364136223846793005))+1442695040888963407))],0⟩] rfl rfl ?_;refine RW.ret ?_;cases h1
  exact RRetS.m (Gh.rN [0])
 ·have h2:=A5 hF hb;refine A0.done (RW.cond_t rfl (RW.sdrw (A0.op rfl rfl (A0.op rfl rfl (A0.op rfl rfl (A0.op rfl rfl (A0.op rfl rfl (A0.op rfl rfl (A0.op rfl rfl (A0.op rfl rfl (A0.op rfl rfl ?_)))))))))));obtain ⟨v1,e1,h3⟩:=A1 h2;refine A0.op rfl (C0 (enc:=encB) (o:=false) rfl rfl rfl e1) ?_;refine A0.op rfl (H7 (off':=0) ekB rfl e1 rfl rfl rfl) ?_;refine A0.op rfl rfl (A0.op rfl rfl (A0.op rfl rfl (A0.op rfl rfl (A0.done ?_))));refine RW.kp [0,3] [(0,.ptr 0 0),(3,.j (andv .i64 (w64 ((andv .i64 (xorv .i64 (shrv .i64 (w64 ((w64 (x0.mH*6364136223846793005))+1442695040888963407)) 33) (shrv .i64 (w64 ((w64 (x0.mH*6364136223846793005))+1442695040888963407)) 45)) 255)+(w64 v1))) 255))] [some ⟨[pvB B0_ o0_ x0.mB,.j x0.mI,.j (w64 ((w64 (x0.mH*6364136223846793005))+1442695040888963407))],0⟩] rfl rfl ?_;refine RW.reg (rl.f 9 rfl (RW.sf 2 rfl ?_));refine RW.kp [2] [(2,.j (andv .i64 (w64 ((andv .i64 (xorv .i64 (shrv .i64 (w64 ((w64 (x0.mH*6364136223846793005))+1442695040888963407)) 33) (shrv .i64 (w64 ((w64 (x0.mH*6364136223846793005))+1442695040888963407)) 45)) 255)+(w64 v1))) 255))] [some ⟨[pvB B0_ o0_ x0.mB,.j (w64 (x0.mI+1)),.j (w64 ((w64 (x0.mH*6364136223846793005))+1442695040888963407))],0⟩] rfl rfl ?_;refine RW.ret ?_;cases h3
  exact RRetS.m (Gh.rN [0])
theorem F3 {x0:TL01Cur} {x1:Int} {B0_ o0_:Nat} {r:Int×TL01Cur} (hF:D4 x0 x1=some r):C5 Tryz.prog 0 49 [.ptr 0 0,.j x1] [some ⟨[pvB B0_ o0_ x0.mB,.j x0.mI,.j x0.mH],0⟩] (.j r.1) [some ⟨[pvB B0_ o0_ x0.mB,.j r.2.mI,.j r.2.mH],0⟩]:=by
 refine C5.q Wv ?_;unfold D4 at hF;refine RW.sf 1 rfl (RW.seq (RW.sr 1 rfl ?_))
 refine rl.gen rfl rfl fun b hb=>?_
 cases b
 ·have h1:=A4 hF hb;refine rl.done (RW.cond_f rfl (RW.skip (RW.seq (RW.sr 1 rfl ?_))))
  refine rl.gen rfl rfl fun b hb=>?_
  cases b
  ·have h2:=A4 h1 hb;refine rl.done (RW.cond_f rfl (RW.skip (RW.sr 1 rfl ?_)));obtain ⟨v1,e1,h3⟩:=A1 h2;refine rl.call rfl rfl rfl (A6.eN (r0:=.j v1.1) (H':=[some ⟨[pvB B0_ o0_ x0.mB,.j v1.2.mI,.j v1.2.mH],0⟩]) [⟨[pvB B0_ o0_ x0.mB,.j x0.mI,.j x0.mH],0⟩] [⟨[pvB B0_ o0_ x0.mB,.j v1.2.mI,.j v1.2.mH],0⟩] [] [0] [pvB B0_ o0_ x0.mB] (V9 e1) ?_);refine rl.f 1 rfl (RW.sr 1 rfl ?_);obtain ⟨v2,e2,h4⟩:=A1 h3;refine rl.call rfl rfl rfl (A6.eN (r0:=.j v2.1) (H':=[some ⟨[pvB B0_ o0_ x0.mB,.j v2.2.mI,.j v2.2.mH],0⟩]) [⟨[pvB B0_ o0_ x0.mB,.j v1.2.mI,.j v1.2.mH],0⟩] [⟨[pvB B0_ o0_ x0.mB,.j v2.2.mI,.j v2.2.mH],0⟩] [] [0] [pvB B0_ o0_ x0.mB] (V9 e2) ?_);refine rl.f 1 rfl (RW.sr 1 rfl ?_);obtain ⟨v3,e3,h5⟩:=A1 h4;refine rl.call rfl rfl rfl (A6.eN (r0:=.j v3.1) (H':=[some ⟨[pvB B0_ o0_ x0.mB,.j v3.2.mI,.j v3.2.mH],0⟩]) [⟨[pvB B0_ o0_ x0.mB,.j v2.2.mI,.j v2.2.mH],0⟩] [⟨[pvB B0_ o0_ x0.mB,.j v3.2.mI,.j v3.2.mH],0⟩] [] [0] [pvB B0_ o0_ x0.mB] (V9 e3) ?_);refine rl.f 1 rfl ?_;refine RW.kp [0,1,5,6,7] [(0,.ptr 0 0),(1,.j x1),(5,.j v1.1),(6,.j v2.1),(7,.j v3.1)] [some ⟨[pvB B0_ o0_ x0.mB,.j v3.2.mI,.j v3.2.mH],0⟩] rfl rfl ?_;refine RW.sr 1 rfl ?_;obtain ⟨v4,e4,h6⟩:=A1 h5;refine rl.call rfl rfl rfl (A6.eN (r0:=.j v4.1) (H':=[some ⟨[pvB B0_ o0_ x0.mB,.j v4.2.mI,.j v4.2.mH],0⟩]) [⟨[pvB B0_ o0_ x0.mB,.j v3.2.mI,.j v3.2.mH],0⟩] [⟨[pvB B0_ o0_ x0.mB,.j v4.2.mI,.j v4.2.mH],0⟩] [] [0] [pvB B0_ o0_ x0.mB] (V9 e4) ?_);refine rl.f 1 rfl (RW.sr 11 rfl ?_);obtain ⟨v5,e5,h7⟩:=A1 h6;refine rl.op (A9i rfl rfl e5) ?_;refine rl.f 1 rfl ?_;refine RW.kp [4] [(4,.j v5)] [some ⟨[pvB B0_ o0_ x0.mB,.j v4.2.mI,.j v4.2.mH],0⟩] rfl rfl ?_;refine RW.ret ?_;cases h7
   exact RRetS.m (Gh.rN [0])
  ·have h8:=A5 h1 hb;refine rl.done (RW.cond_t rfl (RW.sr 1 rfl ?_));obtain ⟨v6,e6,h9⟩:=A1 h8;refine rl.call rfl rfl rfl (A6.eN (r0:=.j v6.1) (H':=[some ⟨[pvB B0_ o0_ x0.mB,.j v6.2.mI,.j v6.2.mH],0⟩]) [⟨[pvB B0_ o0_ x0.mB,.j x0.mI,.j x0.mH],0⟩] [⟨[pvB B0_ o0_ x0.mB,.j v6.2.mI,.j v6.2.mH],0⟩] [] [0] [pvB B0_ o0_ x0.mB] (V9 e6) ?_);refine rl.run 1 rfl ?_;obtain ⟨v7,e7,h10⟩:=A1 h9;refine rl.op (A9i rfl rfl e7) ?_;refine rl.f 1 rfl (RW.ret ?_);cases h10
   exact RRetS.m (Gh.rN [0])
 ·have h11:=A5 hF hb;refine rl.done (RW.cond_t rfl (RW.sf 1 rfl (RW.ret ?_)));cases h11
  exact RRetS.m (Gh.rN [0])
theorem Ed {x0:TL01Cur} {x1:List (List UInt8)} {B0_ o0_:Nat} {r:(List UInt8)×TL01Cur} (hF:Q8 x0 x1=some r):C5 Tryz.prog 0 138 [.ptr 0 0,.sl 1 0 x1.length] [some ⟨[pvB B0_ o0_ x0.mB,.j x0.mI,.j x0.mH],0⟩,some ⟨fl (encS true) x1,1⟩] (.str r.1) [some ⟨[pvB B0_ o0_ x0.mB,.j r.2.mI,.j r.2.mH],0⟩,some ⟨fl (encS true) x1,1⟩]:=by
 refine C5.q Zf ?_;unfold Q8 at hF;refine RW.sf 1 rfl (RW.sr 4 rfl ?_);obtain ⟨v1,e1,h1⟩:=A1 hF;refine rl.call rfl rfl rfl (A6.eN (r0:=.j v1.1) (H':=[some ⟨[pvB B0_ o0_ x0.mB,.j v1.2.mI,.j v1.2.mH],0⟩,some ⟨fl (encS true) x1,1⟩]) [⟨[pvB B0_ o0_ x0.mB,.j x0.mI,.j x0.mH],0⟩] [⟨[pvB B0_ o0_ x0.mB,.j v1.2.mI,.j v1.2.mH],0⟩] [] [0] [pvB B0_ o0_ x0.mB] (F3 e1) ?_);obtain ⟨v2,e2,h2⟩:=A1 h1;refine rl.op (M7 rfl rfl rfl rfl e2) ?_;refine rl.op (Bq (o:=true) (off':=0) ekS rfl rfl e2 rfl rfl rfl) ?_;refine rl.f 1 rfl (RW.ret ?_);cases h2
 exact RRetS.m (Gh.rN [0,1])
theorem Ps {x0:TL01Cur} {B0_ o0_:Nat} {r:(List UInt8)×TL01Cur} (hF:Z3 x0=some r):C5 Tryz.prog 0 139 [.ptr 0 0] [some ⟨[pvB B0_ o0_ x0.mB,.j x0.mI,.j x0.mH],0⟩] (.str r.1) [some ⟨[pvB B0_ o0_ x0.mB,.j r.2.mI,.j r.2.mH],0⟩]:=by
 refine C5.q Xq ?_;unfold Z3 at hF;refine RW.sf 1 rfl (RW.sr 2 rfl ?_);obtain ⟨v1,e1,h1⟩:=A1 hF;refine rl.call rfl rfl rfl (A6.eN (r0:=.str v1.1) (H':=[some ⟨[pvB B0_ o0_ x0.mB,.j v1.2.mI,.j v1.2.mH],0⟩,some ⟨fl (encS true) [[104,101,108,108,111],[102,114,111,109,58,32,97,110,110,10,10,104,105],[115,117,98,106,101,99,116,58,32,120,10,10,98,111,100,121,32,111,102,32,105,116,10,46,100,111,116,10],[],[120,10,46,46,10]],1⟩]) [⟨[pvB B0_ o0_ x0.mB,.j x0.mI,.j x0.mH],0⟩,⟨fl (encS true) [[104,101,108,108,111],[102,114,111,109,58,32,97,110,110,10,10,104,105],[115,117,98,106,101,99,116,58,32,120,10,10,98,111,100,121,32,111,102,32,105,116,10,46,100,111,116,10],[],[120,10,46,46,10]],1⟩] [⟨[pvB B0_ o0_ x0.mB,.j v1.2.mI,.j v1.2.mH],0⟩,⟨fl (encS true) [[104,101,108,108,111],[102,114,111,109,58,32,97,110,110,10,10,104,105],[115,117,98,106,101,99,116,58,32,120,10,10,98,111,100,121,32,111,102,32,105,116,10,46,100,111,116,10],[],[120,10,46,46,10]],1⟩] [] [0,1] [pvB B0_ o0_ x0.mB] (Ed e1) ?_);refine rl.f 1 rfl (RW.ret ?_);cases h1
 exact RRetS.m (Gh.rN [0])
theorem Lc {x0:TL01Cur} {x1:List Int} {B0_ o0_:Nat} {r:Int×TL01Cur} (hF:U0 x0 x1=some r):C5 Tryz.prog 0 77 [.ptr 0 0,.sl 1 0 x1.length] [some ⟨[pvB B0_ o0_ x0.mB,.j x0.mI,.j x0.mH],0⟩,some ⟨fl (encI true) x1,1⟩] (.j r.1) [some ⟨[pvB B0_ o0_ x0.mB,.j r.2.mI,.j r.2.mH],0⟩,some ⟨fl (encI true) x1,1⟩]:=by
 refine C5.q Rl ?_;unfold U0 at hF;refine RW.sf 1 rfl (RW.sr 4 rfl ?_);obtain ⟨v1,e1,h1⟩:=A1 hF;refine rl.call rfl rfl rfl (A6.eN (r0:=.j v1.1) (H':=[some ⟨[pvB B0_ o0_ x0.mB,.j v1.2.mI,.j v1.2.mH],0⟩,some ⟨fl (encI true) x1,1⟩]) [⟨[pvB B0_ o0_ x0.mB,.j x0.mI,.j x0.mH],0⟩] [⟨[pvB B0_ o0_ x0.mB,.j v1.2.mI,.j v1.2.mH],0⟩] [] [0] [pvB B0_ o0_ x0.mB] (F3 e1) ?_);obtain ⟨v2,e2,h2⟩:=A1 h1;refine rl.op (M7 rfl rfl rfl rfl e2) ?_;refine rl.op (Bq (o:=true) (off':=0) ekI rfl rfl e2 rfl rfl rfl) ?_;refine rl.f 1 rfl (RW.ret ?_);cases h2
 exact RRetS.m (Gh.rN [0,1])
theorem Rk {x0:TL01Cur} {B0_ o0_:Nat} {r:TRec×TL01Cur} (hF:Bg x0=some r):C5 Tryz.prog 0 75 [.ptr 0 0] [some ⟨[pvB B0_ o0_ x0.mB,.j x0.mI,.j x0.mH],0⟩] (.agg (G6 true r.1)) [some ⟨[pvB B0_ o0_ x0.mB,.j r.2.mI,.j r.2.mH],0⟩]:=by
 refine C5.q A0h ?_;unfold Bg at hF;refine RW.sf 1 rfl (RW.sr 2 rfl ?_);obtain ⟨v1,e1,h1⟩:=A1 hF;refine rl.call rfl rfl rfl (A6.eN (r0:=.j v1.1) (H':=[some ⟨[pvB B0_ o0_ x0.mB,.j v1.2.mI,.j v1.2.mH],0⟩,some ⟨[.j 0,.j 0,.j 0,.j 0,.j 0,.str [],.str [],.str []],0⟩,some ⟨fl (encI true) ([1,1,2,3,3,3,3,4,4,5,5]:List Int),1⟩]) [⟨[pvB B0_ o0_ x0.mB,.j x0.mI,.j x0.mH],0⟩,⟨fl (encI true) ([1,1,2,3,3,3,3,4,4,5,5]:List Int),1⟩] [⟨[pvB B0_ o0_ x0.mB,.j v1.2.mI,.j v1.2.mH],0⟩,⟨fl (encI true) ([1,1,2,3,3,3,3,4,4,5,5]:List Int),1⟩] [] [0,2] [pvB B0_ o0_ x0.mB] (Lc e1) ?_);refine rl.run 1 rfl ?_;obtain ⟨v2,e2,h2⟩:=A1 h1;refine rl.call rfl rfl rfl (A6.eN (r0:=.j v2.1) (H':=[some ⟨[pvB B0_ o0_ x0.mB,.j v2.2.mI,.j v2.2.mH],0⟩,some ⟨[.j 0,.j 0,.j 0,.j 0,.j 0,.str [],.str [],.str []],0⟩,some ⟨fl (encI true) ([1,1,2,3,3,3,3,4,4,5,5]:List Int),1⟩]) [⟨[pvB B0_ o0_ x0.mB,.j v1.2.mI,.j v1.2.mH],0⟩] [⟨[pvB B0_ o0_ x0.mB,.j v2.2.mI,.j v2.2.mH],0⟩] [] [0] [pvB B0_ o0_ x0.mB] (F3 e2) ?_);refine rl.f 4 rfl (RW.seq (RW.sf 2 rfl (RW.blk (RW.sreg ?_))))
 refine rl.gen rfl rfl fun b hb=>?_
 cases b
 ·have h3:=A4 h2 hb;refine rl.f 1 rfl (RW.cond_f rfl (RW.sreg ?_))
  refine rl.gen rfl rfl fun b hb=>?_
  cases b
  ·have h4:=A4 h3 hb;refine rl.f 1 rfl ?_;refine RW.kp [0,2,3,12,27] [(0,.ptr 0 0),(2,.ptr 1 0),(3,.ptr 3 0),(12,.j v1.1),(27,.bool false)] [some ⟨[pvB B0_ o0_ x0.mB,.j v2.2.mI,.j v2.2.mH],0⟩,some ⟨[.j 0,.j 0,.j 0,.j 0,.j 0,.str [],.str [],.str []],0⟩,some ⟨fl (encI true) ([1,1,2,3,3,3,3,4,4,5,5]:List Int),1⟩,some ⟨[.j v1.1,.j (w64 (1+v2.1)),.j 0,.j 0,.j 0,.str [],.str [],.str []],0⟩] rfl rfl ?_;refine RW.cond_f rfl (RW.sreg ?_)
   refine rl.gen rfl rfl fun b hb=>?_
   cases b
   ·have h5:=A4 h4 hb;refine rl.f 1 rfl (RW.cond_f rfl (RW.sreg ?_))
    refine rl.gen rfl rfl fun b hb=>?_
    cases b
    ·have h6:=A4 h5 hb;refine rl.f 1 rfl (RW.cond_f rfl (RW.skip (RW.sf 2 rfl (RW.ret ?_))));cases h6
     exact RRetS.m (Gh.rN [0])
    ·have h7:=A5 h5 hb;refine rl.f 1 rfl (RW.cond_t rfl (RW.reg (rl.run 1 rfl ?_)));obtain ⟨v3,e3,h8⟩:=A1 h7;refine rl.call rfl rfl rfl (A6.eN (r0:=.j v3.1) (H':=[some ⟨[pvB B0_ o0_ x0.mB,.j v3.2.mI,.j v3.2.mH],0⟩,some ⟨[.j 0,.j 0,.j 0,.j 0,.j 0,.str [],.str [],.str []],0⟩,some ⟨fl (encI true) ([1,1,2,3,3,3,3,4,4,5,5]:List Int),1⟩,some ⟨[.j v1.1,.j (w64 (1+v2.1)),.j 0,.j 0,.j 0,.str [],.str [],.str []],0⟩]) [⟨[pvB B0_ o0_ x0.mB,.j v2.2.mI,.j v2.2.mH],0⟩] [⟨[pvB B0_ o0_ x0.mB,.j v3.2.mI,.j v3.2.mH],0⟩] [] [0] [pvB B0_ o0_ x0.mB] (F3 e3) ?_);refine rl.f 3 rfl (RW.sf 2 rfl ?_);refine RW.kp [2] [(2,.ptr 1 0)] [some ⟨[pvB B0_ o0_ x0.mB,.j v3.2.mI,.j v3.2.mH],0⟩,some ⟨[.j v1.1,.j (w64 (1+v2.1)),.j (w64 (1+v3.1)),.j 0,.j 0,.str [],.str [],.str []],0⟩,some ⟨fl (encI true) ([1,1,2,3,3,3,3,4,4,5,5]:List Int),1⟩,some ⟨[.j v1.1,.j (w64 (1+v2.1)),.j (w64 (1+v3.1)),.j 0,.j 0,.str [],.str [],.str []],0⟩] rfl rfl ?_;refine RW.ret ?_;cases h8
     exact RRetS.m (Gh.rN [0])
   ·have h9:=A5 h4 hb;refine rl.f 1 rfl (RW.cond_t rfl (RW.sr 1 rfl ?_));obtain ⟨v4,e4,h10⟩:=A1 h9;refine rl.call rfl rfl rfl (A6.eN (r0:=.j v4.1) (H':=[some ⟨[pvB B0_ o0_ x0.mB,.j v4.2.mI,.j v4.2.mH],0⟩,some ⟨[.j 0,.j 0,.j 0,.j 0,.j 0,.str [],.str [],.str []],0⟩,some ⟨fl (encI true) ([1,1,2,3,3,3,3,4,4,5,5]:List Int),1⟩,some ⟨[.j v1.1,.j (w64 (1+v2.1)),.j 0,.j 0,.j 0,.str [],.str [],.str []],0⟩]) [⟨[pvB B0_ o0_ x0.mB,.j v2.2.mI,.j v2.2.mH],0⟩] [⟨[pvB B0_ o0_ x0.mB,.j v4.2.mI,.j v4.2.mH],0⟩] [] [0] [pvB B0_ o0_ x0.mB] (F3 e4) ?_);refine rl.f 3 rfl (RW.reg (rl.run 1 rfl ?_));obtain ⟨v5,e5,h11⟩:=A1 h10;refine rl.call rfl rfl rfl (A6.eN (r0:=.j v5.1) (H':=[some ⟨[pvB B0_ o0_ x0.mB,.j v5.2.mI,.j v5.2.mH],0⟩,some ⟨[.j 0,.j 0,.j 0,.j 0,.j 0,.str [],.str [],.str []],0⟩,some ⟨fl (encI true) ([1,1,2,3,3,3,3,4,4,5,5]:List Int),1⟩,some ⟨[.j v1.1,.j (w64 (1+v2.1)),.j (w64 (1+v4.1)),.j 0,.j 0,.str [],.str [],.str []],0⟩]) [⟨[pvB B0_ o0_ x0.mB,.j v4.2.mI,.j v4.2.mH],0⟩] [⟨[pvB B0_ o0_ x0.mB,.j v5.2.mI,.j v5.2.mH],0⟩] [] [0] [pvB B0_ o0_ x0.mB] (F3 e5) ?_);refine rl.f 2 rfl (RW.sf 2 rfl ?_);refine RW.kp [2] [(2,.ptr 1 0)] [some ⟨[pvB B0_ o0_ x0.mB,.j v5.2.mI,.j v5.2.mH],0⟩,some ⟨[.j v1.1,.j (w64 (1+v2.1)),.j (w64 (1+v4.1)),.j 0,.j v5.1,.str [],.str [],.str []],0⟩,some ⟨fl (encI true) ([1,1,2,3,3,3,3,4,4,5,5]:List Int),1⟩,some ⟨[.j v1.1,.j (w64 (1+v2.1)),.j (w64 (1+v4.1)),.j 0,.j v5.1,.str [],.str [],.str []],0⟩] rfl rfl ?_;refine RW.ret ?_;cases h11
    exact RRetS.m (Gh.rN [0])
  ·have h12:=A5 h3 hb;refine rl.f 1 rfl ?_;refine RW.kp [0,2,3,12,27] [(0,.ptr 0 0),(2,.ptr 1 0),(3,.ptr 3 0),(12,.j v1.1),(27,.bool true)] [some ⟨[pvB B0_ o0_ x0.mB,.j v2.2.mI,.j v2.2.mH],0⟩,some ⟨[.j 0,.j 0,.j 0,.j 0,.j 0,.str [],.str [],.str []],0⟩,some ⟨fl (encI true) ([1,1,2,3,3,3,3,4,4,5,5]:List Int),1⟩,some ⟨[.j v1.1,.j (w64 (1+v2.1)),.j 0,.j 0,.j 0,.str [],.str [],.str []],0⟩] rfl rfl ?_;refine RW.cond_t rfl (RW.sr 1 rfl ?_);obtain ⟨v6,e6,h13⟩:=A1 h12;refine rl.call rfl rfl rfl (A6.eN (r0:=.j v6.1) (H':=[some ⟨[pvB B0_ o0_ x0.mB,.j v6.2.mI,.j v6.2.mH],0⟩,some ⟨[.j 0,.j 0,.j 0,.j 0,.j 0,.str [],.str [],.str []],0⟩,some ⟨fl (encI true) ([1,1,2,3,3,3,3,4,4,5,5]:List Int),1⟩,some ⟨[.j v1.1,.j (w64 (1+v2.1)),.j 0,.j 0,.j 0,.str [],.str [],.str []],0⟩]) [⟨[pvB B0_ o0_ x0.mB,.j v2.2.mI,.j v2.2.mH],0⟩] [⟨[pvB B0_ o0_ x0.mB,.j v6.2.mI,.j v6.2.mH],0⟩] [] [0] [pvB B0_ o0_ x0.mB] (F3 e6) ?_);refine rl.f 3 rfl (RW.sr 1 rfl ?_);obtain ⟨v7,e7,h14⟩:=A1 h13;refine rl.call rfl rfl rfl (A6.eN (r0:=.j v7.1) (H':=[some ⟨[pvB B0_ o0_ x0.mB,.j v7.2.mI,.j v7.2.mH],0⟩,some ⟨[.j 0,.j 0,.j 0,.j 0,.j 0,.str [],.str [],.str []],0⟩,some ⟨fl (encI true) ([1,1,2,3,3,3,3,4,4,5,5]:List Int),1⟩,some ⟨[.j v1.1,.j (w64 (1+v2.1)),.j (w64 (1+v6.1)),.j 0,.j 0,.str [],.str [],.str []],0⟩]) [⟨[pvB B0_ o0_ x0.mB,.j v6.2.mI,.j v6.2.mH],0⟩] [⟨[pvB B0_ o0_ x0.mB,.j v7.2.mI,.j v7.2.mH],0⟩] [] [0] [pvB B0_ o0_ x0.mB] (F3 e7) ?_);refine rl.f 2 rfl (RW.reg (rl.run 1 rfl ?_));obtain ⟨v8,e8,h15⟩:=A1 h14;refine rl.call rfl rfl rfl (A6.eN (r0:=.str v8.1) (H':=[some ⟨[pvB B0_ o0_ x0.mB,.j v8.2.mI,.j v8.2.mH],0⟩,some ⟨[.j 0,.j 0,.j 0,.j 0,.j 0,.str [],.str [],.str []],0⟩,some ⟨fl (encI true) ([1,1,2,3,3,3,3,4,4,5,5]:List Int),1⟩,some ⟨[.j v1.1,.j (w64 (1+v2.1)),.j (w64 (1+v6.1)),.j 0,.j v7.1,.str [],.str [],.str []],0⟩]) [⟨[pvB B0_ o0_ x0.mB,.j v7.2.mI,.j v7.2.mH],0⟩] [⟨[pvB B0_ o0_ x0.mB,.j v8.2.mI,.j v8.2.mH],0⟩] [] [0] [pvB B0_ o0_ x0.mB] (Ps e8) ?_);refine rl.f 2 rfl (RW.sf 2 rfl ?_);refine RW.kp [2] [(2,.ptr 1 0)] [some ⟨[pvB B0_ o0_ x0.mB,.j v8.2.mI,.j v8.2.mH],0⟩,some ⟨[.j v1.1,.j (w64 (1+v2.1)),.j (w64 (1+v6.1)),.j 0,.j v7.1,.str [],.str [],.str v8.1],0⟩,some ⟨fl (encI true) ([1,1,2,3,3,3,3,4,4,5,5]:List Int),1⟩,some ⟨[.j v1.1,.j (w64 (1+v2.1)),.j (w64 (1+v6.1)),.j 0,.j v7.1,.str [],.str [],.str v8.1],0⟩] rfl rfl ?_
   refine RW.ret ?_;cases h15
   exact RRetS.m (Gh.rN [0])
 ·have h16:=A5 h2 hb;refine rl.f 1 rfl (RW.cond_t rfl (RW.sr 2 rfl ?_));obtain ⟨v9,e9,h17⟩:=A1 h16;refine rl.call rfl rfl rfl (A6.eN (r0:=.str v9.1) (H':=[some ⟨[pvB B0_ o0_ x0.mB,.j v9.2.mI,.j v9.2.mH],0⟩,some ⟨[.j 0,.j 0,.j 0,.j 0,.j 0,.str [],.str [],.str []],0⟩,some ⟨fl (encI true) ([1,1,2,3,3,3,3,4,4,5,5]:List Int),1⟩,some ⟨[.j v1.1,.j (w64 (1+v2.1)),.j 0,.j 0,.j 0,.str [],.str [],.str []],0⟩,some ⟨fl (encS true) [[97,110,110],[98,111,98]],1⟩]) [⟨[pvB B0_ o0_ x0.mB,.j v2.2.mI,.j v2.2.mH],0⟩,⟨fl (encS true) [[97,110,110],[98,111,98]],1⟩] [⟨[pvB B0_ o0_ x0.mB,.j v9.2.mI,.j v9.2.mH],0⟩,⟨fl (encS true) [[97,110,110],[98,111,98]],1⟩] [] [0,4] [pvB B0_ o0_ x0.mB] (Ed e9) ?_);refine rl.f 2 rfl ?_;refine RW.kp [0,2,3] [(0,.ptr 0 0),(2,.ptr 1 0),(3,.ptr 3 0)] [some ⟨[pvB B0_ o0_ x0.mB,.j v9.2.mI,.j v9.2.mH],0⟩,some ⟨[.j 0,.j 0,.j 0,.j 0,.j 0,.str [],.str [],.str []],0⟩,some ⟨fl (encI true) ([1,1,2,3,3,3,3,4,4,5,5]:List Int),1⟩,some ⟨[.j v1.1,.j (w64 (1+v2.1)),.j 0,.j 0,.j 0,.str v9.1,.str [],.str []],0⟩,some ⟨fl (encS true) [[97,110,110],[98,111,98]],1⟩] rfl rfl ?_;refine RW.sr 2 rfl ?_;obtain ⟨v10,e10,h18⟩:=A1 h17;refine rl.call rfl rfl rfl (A6.eN (r0:=.str v10.1) (H':=[some ⟨[pvB B0_ o0_ x0.mB,.j v10.2.mI,.j v10.2.mH],0⟩,some ⟨[.j 0,.j 0,.j 0,.j 0,.j 0,.str [],.str [],.str []],0⟩,some ⟨fl (encI true) ([1,1,2,3,3,3,3,4,4,5,5]:List Int),1⟩,some ⟨[.j v1.1,.j (w64 (1+v2.1)),.j 0,.j 0,.j 0,.str v9.1,.str [],.str []],0⟩,some ⟨fl (encS true) [[97,110,110],[98,111,98]],1⟩,some ⟨fl (encS true) [[105,110,98,111,120],[119,111,114,107]],1⟩]) [⟨[pvB B0_ o0_ x0.mB,.j v9.2.mI,.j v9.2.mH],0⟩,⟨fl (encS true) [[105,110,98,111,120],[119,111,114,107]],1⟩] [⟨[pvB B0_ o0_ x0.mB,.j v10.2.mI,.j v10.2.mH],0⟩,⟨fl (encS true) [[105,110,98,111,120],[119,111,114,107]],1⟩] [] [0,5] [pvB B0_ o0_ x0.mB] (Ed e10) ?_);refine rl.f 2 rfl (RW.reg (rl.run 1 rfl ?_));obtain ⟨v11,e11,h19⟩:=A1 h18;refine rl.call rfl rfl rfl (A6.eN (r0:=.j v11.1) (H':=[some ⟨[pvB B0_ o0_ x0.mB,.j v11.2.mI,.j v11.2.mH],0⟩,some ⟨[.j 0,.j 0,.j 0,.j 0,.j 0,.str [],.str [],.str []],0⟩,some ⟨fl (encI true) ([1,1,2,3,3,3,3,4,4,5,5]:List Int),1⟩,some ⟨[.j v1.1,.j (w64 (1+v2.1)),.j 0,.j 0,.j 0,.str v9.1,.str v10.1,.str []],0⟩,some ⟨fl (encS true) [[97,110,110],[98,111,98]],1⟩,some ⟨fl (encS true) [[105,110,98,111,120],[119,111,114,107]],1⟩]) [⟨[pvB B0_ o0_ x0.mB,.j v10.2.mI,.j v10.2.mH],0⟩] [⟨[pvB B0_ o0_ x0.mB,.j v11.2.mI,.j v11.2.mH],0⟩] [] [0] [pvB B0_ o0_ x0.mB] (F3 e11) ?_)
  refine rl.f 3 rfl (RW.sf 2 rfl ?_);refine RW.kp [2] [(2,.ptr 1 0)] [some ⟨[pvB B0_ o0_ x0.mB,.j v11.2.mI,.j v11.2.mH],0⟩,some ⟨[.j v1.1,.j (w64 (1+v2.1)),.j 0,.j (w64 (1+v11.1)),.j 0,.str v9.1,.str v10.1,.str []],0⟩,some ⟨fl (encI true) ([1,1,2,3,3,3,3,4,4,5,5]:List Int),1⟩,some ⟨[.j v1.1,.j (w64 (1+v2.1)),.j 0,.j (w64 (1+v11.1)),.j 0,.str v9.1,.str v10.1,.str []],0⟩,some ⟨fl (encS true) [[97,110,110],[98,111,98]],1⟩,some ⟨fl (encS true) [[105,110,98,111,120],[119,111,114,107]],1⟩] rfl rfl ?_;refine RW.ret ?_;cases h19
  exact RRetS.m (Gh.rN [0])
theorem Ud {x0:TLog} {r:List TItem} (hF:Cd x0=some r):A7 Tryz.prog 17 [.agg (B5 false x0)] (.lst true 9 (fl (A9 true) r) r.length):=by
 refine A7.q Ye ?_;unfold Cd at hF;refine RW.sf 2 rfl (RW.sf 2 rfl (RW.seq (RW.sf 1 rfl ?_)));refine RW.gh (Gh.nil_t 3 9 rfl) ?_;obtain ⟨y5,ey5,h2⟩:=A1 hF
 refine RW.cutq (σ:=(List TItem)) (fun y2=>[(3,.sl 0 0 y2.length)]) (fun y2=>[some ⟨fl (A9 true) y2,9⟩]) (fun y=>y5=y) gg ?_ ?_
 ·refine RW.blk ?_
  refine RW.iter (σ:=Int×(List TItem)) ey5 (fun s1=>[(1,.ptr 0 0),(3,.sl 1 0 s1.2.length),(4,.j s1.1)]) (fun s1=>[some ⟨B5 false x0,0⟩,some ⟨fl (A9 true) s1.2,9⟩]) (Gh.y0 [0,1]) (fun s1 B o hS1 hB1 hE1=>?_)
  unfold De at hS1;refine RW.seq (RW.sr 4 rfl ?_)
  refine rl.gen rfl rfl fun b hb=>?_
  cases b
  ·have h3:=A4 hS1 hb;refine rl.done (RW.cond_f rfl (RW.exit (C4 ?_)));cases h3
   exact ⟨_,(hE1 _ rfl).symm,(Gh.y0 [1])⟩
  ·have h4:=A5 hS1 hb;refine rl.done (RW.cond_t rfl (RW.skip (RW.seq (RW.blk (RW.reg (rl.run 4 rfl ?_))))));obtain ⟨v3,e3,h5⟩:=A1 h4;refine rl.op (C0 (enc:=A8) (o:=false) rfl rfl rfl e3) ?_;refine rl.run 1 rfl ?_;refine rl.op (H7 (off':=3) B3 rfl e3 rfl rfl rfl) ?_;obtain ⟨v4,e4,h6⟩:=A1 h5;refine rl.op (Ar rfl rfl (Y4 (l:=s1.2) (m:=v3.Items) (o:=true) C7 rfl rfl Fm rfl (Cb.fst _ _) e4)) ?_;refine rl.f 1 rfl (RW.reg (rl.f 3 rfl ?_));cases h6
   exact hB1 _ rfl _ _ (Gh.y0 [0,2])
 ·intro y2 hC
  subst hC;refine RW.sf 2 rfl (RW.ret ?_);cases h2
  exact RRet.y
theorem Vr {x0:TLog} {x1:TItem} {r:Bool} (hF:Ad x0 x1=some r):A7 Tryz.prog 86 [.agg (B5 false x0),.agg (A9 false x1)] (.bool r):=by
 refine A7.q Zj ?_;unfold Ad at hF;refine RW.sf 3 rfl (RW.sr 1 rfl ?_);obtain ⟨v1,e1,h1⟩:=A1 hF;refine rl.call rfl rfl rfl (A6.y (r':=H9 v1) (Ud e1) ?_);refine rl.f 1 rfl (RW.seq (RW.sf 1 rfl ?_));obtain ⟨y7,ey7,h3⟩:=A1 h1
 refine RW.cutq (σ:=Unit) (fun y3=>[(5,H9 v1)]) (fun y3=>[]) (fun y=>y7=.inr y) gg ?_ ?_
 ·refine RW.blk ?_
  refine RW.iter (σ:=Int) ey7 (fun s2=>[(3,.ptr 0 0),(5,H9 v1),(6,.j s2)]) (fun s2=>[some ⟨A9 false x1,0⟩]) (Gh.y0 [1]) (fun s2 B o hS2 hB2 hE2=>?_)
  unfold Ac at hS2;refine RW.seq (RW.sr 3 rfl ?_)
  refine rl.gen rfl rfl fun b hb=>?_
  cases b
  ·have h4:=A4 hS2 hb;refine rl.done (RW.cond_f rfl (RW.exit (C4 ?_)));cases h4
   exact ⟨_,(hE2 _ rfl).symm,(Gh.y0 [])⟩
  ·have h5:=A5 hS2 hb;refine rl.done (RW.cond_t rfl (RW.skip (RW.seq (RW.blk (RW.seq ?_)))));obtain ⟨y4,ey4,h6⟩:=A1 h5
   refine RW.cutq (σ:=Bool) (fun y4=>[(3,.ptr 0 0),(5,H9 v1),(6,.j s2),(30,.bool y4)]) (fun y4=>[some ⟨A9 false x1,0⟩]) (fun y=>y4=y) gg ?_ ?_
   ·refine RW.drw ?_;refine A0.op rfl rfl (A0.op rfl rfl ?_);obtain ⟨v5,e5,h7⟩:=A1 ey4;refine A0.op rfl (C0 (enc:=A9) (o:=false) rfl rfl rfl e5) ?_;refine A0.op rfl rfl ?_;refine A0.op rfl (H7 (off':=0) C7 rfl e5 rfl rfl rfl) ?_;refine A0.op rfl rfl (A0.op rfl rfl ?_)
    refine A0.gen rfl rfl fun b hb=>?_
    cases b
    ·have h8:=A4 h7 hb;refine A0.op rfl rfl (A0.off rfl (A0.off rfl (A0.off rfl (A0.off rfl (A0.off rfl (A0.off rfl (A0.op rfl rfl (A0.done ?_))))))));cases h8
     exact ⟨_,rfl,(Gh.y0 [0])⟩
    ·have h9:=A5 h7 hb;refine A0.op rfl rfl (A0.op rfl rfl (A0.op rfl rfl ?_));obtain ⟨v6,e6,h10⟩:=A1 h9;refine A0.op rfl (C0 (enc:=A9) (o:=false) rfl rfl rfl e6) ?_;refine A0.op rfl (K2 (off':=0) (vs:=(A9 false v6)) C7 rfl e6 rfl rfl rfl) ?_;refine A0.op rfl rfl ?_
     refine A0.gen rfl rfl fun b hb=>?_
     cases b
     ·have h11:=A4 h10 hb;refine A0.op rfl rfl (A0.done ?_);cases h11
      exact ⟨_,rfl,(Gh.y0 [0])⟩
     ·have h12:=A5 h10 hb;refine A0.op rfl rfl (A0.done ?_);cases h12
      exact ⟨_,rfl,(Gh.y0 [0])⟩
   ·intro y hC
    subst hC
    cases hb:y4
    ·have h13:=A4 h6 hb;refine RW.cond_f rfl (RW.skip (RW.reg (rl.f 3 rfl ?_)));cases h13
     exact hB2 _ rfl _ _ (Gh.y0 [0])
    ·have h14:=A5 h6 hb;refine RW.cond_t rfl (RW.sf 1 rfl (RW.ret ?_));cases h14;have h15:=elimL h3 (hE2 _ rfl);cases h15
     exact RRet.y
 ·intro y3 hC
  have h3:=elimR h3 hC;refine RW.sf 4 rfl (RW.ret ?_);cases h3
  exact RRet.y
theorem Kt {x0:List UInt8} {r:Bool} (hF:Bn x0=some r):A7 Tryz.prog 176 [.str x0] (.bool r):=by
 refine A7.q A0m ?_;unfold Bn at hF;refine RW.sf 1 rfl (RW.seq (RW.sf 1 rfl ?_));obtain ⟨y6,ey6,h2⟩:=A1 hF
 refine RW.cutq (σ:=Unit) (fun y2=>[(0,.str x0)]) (fun y2=>[]) (fun y=>y6=.inr y) gg ?_ ?_
 ·refine RW.blk ?_
  refine RW.iter (σ:=Int) ey6 (fun s1=>[(0,.str x0),(3,.j s1)]) (fun s1=>[]) (Gh.y0 []) (fun s1 B o hS1 hB1 hE1=>?_)
  unfold W8 at hS1;refine RW.seq (RW.sr 3 rfl ?_)
  refine rl.gen rfl rfl fun b hb=>?_
  cases b
  ·have h3:=A4 hS1 hb;refine rl.done (RW.cond_f rfl (RW.exit (C4 ?_)));cases h3
   exact ⟨_,(hE1 _ rfl).symm,(Gh.y0 [])⟩
  ·have h4:=A5 hS1 hb;refine rl.done (RW.cond_t rfl (RW.skip (RW.seq (RW.blk (RW.seq ?_)))));obtain ⟨y3,ey3,h5⟩:=A1 h4
   refine RW.cutq (σ:=Bool) (fun y3=>[(0,.str x0),(3,.j s1),(19,.bool y3)]) (fun y3=>[]) (fun y=>y3=y) gg ?_ ?_
   ·refine RW.reg ?_;refine rl.run 2 rfl ?_;obtain ⟨v4,e4,h6⟩:=A1 ey3;refine rl.op (Wl rfl rfl e4) ?_
    refine rl.gen rfl rfl fun b hb=>?_
    cases b
    ·have h7:=A4 h6 hb;refine rl.run 3 rfl ?_;obtain ⟨v5,e5,h8⟩:=A1 h7;refine rl.gop rfl (Wl rfl rfl e5) ?_
     refine rl.gen rfl rfl fun b hb=>?_
     cases b
     ·have h9:=A4 h8 hb;refine rl.f 1 rfl ?_;cases h9
      exact ⟨_,rfl,(Gh.y0 [])⟩
     ·have h10:=A5 h8 hb;refine rl.f 1 rfl ?_;cases h10
      exact ⟨_,rfl,(Gh.y0 [])⟩
    ·have h11:=A5 h6 hb;refine rl.f 6 rfl ?_;cases h11
     exact ⟨_,rfl,(Gh.y0 [])⟩
   ·intro y hC
    subst hC
    cases hb:y3
    ·have h12:=A4 h5 hb;refine RW.cond_f rfl (RW.skip (RW.reg (rl.f 3 rfl ?_)));cases h12
     exact hB1 _ rfl _ _ (Gh.y0 [])
    ·have h13:=A5 h5 hb;refine RW.cond_t rfl (RW.sf 1 rfl (RW.ret ?_));cases h13;have h14:=elimL h2 (hE1 _ rfl);cases h14
     exact RRet.y
 ·intro y2 hC
  have h2:=elimR h2 hC;refine RW.sr 2 rfl ?_;obtain ⟨v7,e7,h15⟩:=A1 h2;refine rl.call rfl rfl rfl (A6.y (r':=.bool v7) (C1 e7) ?_);refine rl.f 1 rfl (RW.ret ?_);cases h15
  exact RRet.y
theorem Yl {x0:TRec} {r:Bool} (hF:Cu x0=some r):A7 Tryz.prog 151 [.agg (G6 false x0)] (.bool r):=by
 refine A7.q A22 ?_;unfold Cu at hF;refine RW.sf 2 rfl (RW.seq (RW.seq ?_));obtain ⟨y1,ey1,h1⟩:=A1 hF
 refine RW.cutq (σ:=Bool) (fun y1=>[(1,.ptr 0 0),(15,.bool y1)]) (fun y1=>[some ⟨G6 false x0,0⟩]) (fun y=>y1=y) gg ?_ ?_
 ·refine RW.reg ?_;refine rl.run 2 rfl ?_;obtain ⟨v2,e2,h2⟩:=A1 ey1;refine rl.call rfl rfl rfl (A6.y (r':=.bool v2) (C1 e2) ?_)
  cases hb:v2
  ·have h3:=A4 h2 hb;refine rl.f 7 rfl ?_;cases h3
   exact ⟨_,rfl,(Gh.y0 [0])⟩
  ·have h4:=A5 h2 hb;refine rl.run 4 rfl ?_;obtain ⟨v3,e3,h5⟩:=A1 h4;refine rl.call rfl rfl rfl (A6.y (r':=.bool v3) (C1 e3) ?_)
   cases hb:v3
   ·have h6:=A4 h5 hb;refine rl.f 2 rfl ?_;cases h6
    exact ⟨_,rfl,(Gh.y0 [0])⟩
   ·have h7:=A5 h5 hb;refine rl.f 2 rfl ?_;cases h7
    exact ⟨_,rfl,(Gh.y0 [0])⟩
 ·intro y hC
  subst hC
  cases hb:y1
  ·have h8:=A4 h1 hb;refine RW.cond_f rfl (RW.skip (RW.sr 2 rfl ?_))
   refine rl.gen rfl rfl fun b hb=>?_
   cases b
   ·have h9:=A4 h8 hb;refine rl.f 1 rfl (RW.seq ?_);obtain ⟨y4,ey4,h10⟩:=A1 h9
    refine RW.cutq (σ:=Bool) (fun y4=>[(1,.ptr 0 0),(3,.bool false),(4,.bool y4)]) (fun y4=>[some ⟨G6 false x0,0⟩]) (fun y=>y4=y) gg ?_ ?_
    ·refine RW.reg ?_;refine rl.run 2 rfl ?_
     refine rl.gen rfl rfl fun b hb=>?_
     cases b
     ·have h11:=A4 ey4 hb;refine rl.run 3 rfl ?_
      refine rl.gen rfl rfl fun b hb=>?_
      cases b
      ·have h12:=A4 h11 hb;refine rl.run 4 rfl ?_
       refine rl.gen rfl rfl fun b hb=>?_
       cases b
       ·have h13:=A4 h12 hb;refine rl.f 2 rfl ?_;cases h13
        exact ⟨_,rfl,(Gh.y0 [0])⟩
       ·have h14:=A5 h12 hb;refine rl.f 2 rfl ?_;cases h14
        exact ⟨_,rfl,(Gh.y0 [0])⟩
      ·have h15:=A5 h11 hb;refine rl.f 7 rfl ?_;cases h15
       exact ⟨_,rfl,(Gh.y0 [0])⟩
     ·have h16:=A5 ey4 hb;refine rl.f 11 rfl ?_;cases h16
      exact ⟨_,rfl,(Gh.y0 [0])⟩
    ·intro y hC
     subst hC;refine RW.seq ?_;obtain ⟨y5,ey5,h17⟩:=A1 h10
     refine RW.cutq (σ:=Bool) (fun y5=>[(1,.ptr 0 0),(3,.bool false),(4,.bool y4),(5,.bool y5)]) (fun y5=>[some ⟨G6 false x0,0⟩]) (fun y=>y5=y) gg ?_ ?_
     ·refine RW.reg ?_;refine rl.run 2 rfl ?_
      refine rl.gen rfl rfl fun b hb=>?_
      cases b
      ·have h18:=A4 ey5 hb;refine rl.run 3 rfl ?_
       refine rl.gen rfl rfl fun b hb=>?_
       cases b
       ·have h19:=A4 h18 hb;refine rl.f 2 rfl ?_;cases h19
        exact ⟨_,rfl,(Gh.y0 [0])⟩
       ·have h20:=A5 h18 hb;refine rl.f 2 rfl ?_;cases h20
        exact ⟨_,rfl,(Gh.y0 [0])⟩
      ·have h21:=A5 ey5 hb;refine rl.f 6 rfl ?_;cases h21
       exact ⟨_,rfl,(Gh.y0 [0])⟩
     ·intro y hC
      subst hC;refine RW.seq (RW.seq ?_);obtain ⟨y6,ey6,h22⟩:=A1 h17
      refine RW.cutq (σ:=Bool) (fun y6=>[(1,.ptr 0 0),(4,.bool y4),(5,.bool y5),(77,.bool y6)]) (fun y6=>[some ⟨G6 false x0,0⟩]) (fun y=>y6=y) gg ?_ ?_
      ·refine RW.reg ?_;refine rl.run 25 rfl ?_
       refine rl.gen rfl rfl fun b hb=>?_
       cases b
       ·have h23:=A4 ey6 hb;refine rl.run 3 rfl ?_
        refine rl.gen rfl rfl fun b hb=>?_
        cases b
        ·have h24:=A4 h23 hb;refine rl.run 4 rfl ?_
         refine rl.gen rfl rfl fun b hb=>?_
         cases b
         ·have h25:=A4 h24 hb;refine rl.f 3 rfl ?_;cases h25
          exact ⟨_,rfl,(Gh.y0 [0])⟩
         ·have h26:=A5 h24 hb;refine rl.f 3 rfl ?_;cases h26
          exact ⟨_,rfl,(Gh.y0 [0])⟩
        ·have h27:=A5 h23 hb;refine rl.f 8 rfl ?_;cases h27
         exact ⟨_,rfl,(Gh.y0 [0])⟩
       ·have h28:=A5 ey6 hb;refine rl.f 12 rfl ?_;cases h28
        exact ⟨_,rfl,(Gh.y0 [0])⟩
      ·intro y hC
       subst hC
       cases hb:y6
       ·have h29:=A4 h22 hb;refine RW.cond_f rfl (RW.skip (RW.seq (RW.seq ?_)));obtain ⟨y7,ey7,h30⟩:=A1 h29
        refine RW.cutq (σ:=Bool) (fun y7=>[(1,.ptr 0 0),(5,.bool y5),(93,.bool y7)]) (fun y7=>[some ⟨G6 false x0,0⟩]) (fun y=>y7=y) gg ?_ ?_
        ·refine RW.reg ?_;refine rl.run 2 rfl ?_
         cases hb:y4
         ·have h31:=A4 ey7 hb;refine rl.run 11 rfl ?_
          refine rl.gen rfl rfl fun b hb=>?_
          cases b
          ·have h32:=A4 h31 hb;refine rl.f 2 rfl ?_;cases h32
           exact ⟨_,rfl,(Gh.y0 [0])⟩
          ·have h33:=A5 h31 hb;refine rl.f 2 rfl ?_;cases h33
           exact ⟨_,rfl,(Gh.y0 [0])⟩
         ·have h34:=A5 ey7 hb;refine rl.run 2 rfl ?_;obtain ⟨v8,e8,h35⟩:=A1 h34;refine rl.call rfl rfl rfl (A6.y (r':=.bool v8) (C1 e8) ?_)
          cases hb:v8
          ·have h36:=A4 h35 hb;refine rl.f 11 rfl ?_;cases h36
           exact ⟨_,rfl,(Gh.y0 [0])⟩
          ·have h37:=A5 h35 hb;refine rl.f 11 rfl ?_;cases h37
           exact ⟨_,rfl,(Gh.y0 [0])⟩
        ·intro y hC
         subst hC
         cases hb:y7
         ·have h38:=A4 h30 hb;refine RW.cond_f rfl (RW.skip (RW.seq (RW.seq ?_)));obtain ⟨y9,ey9,h39⟩:=A1 h38
          refine RW.cutq (σ:=Bool) (fun y9=>[(1,.ptr 0 0),(109,.bool y9)]) (fun y9=>[some ⟨G6 false x0,0⟩]) (fun y=>y9=y) gg ?_ ?_
          ·refine RW.reg ?_;refine rl.run 2 rfl ?_
           cases hb:y5
           ·have h40:=A4 ey9 hb;refine rl.run 11 rfl ?_
            refine rl.gen rfl rfl fun b hb=>?_
            cases b
            ·have h41:=A4 h40 hb;refine rl.f 2 rfl ?_;cases h41
             exact ⟨_,rfl,(Gh.y0 [0])⟩
            ·have h42:=A5 h40 hb;refine rl.f 2 rfl ?_;cases h42
             exact ⟨_,rfl,(Gh.y0 [0])⟩
           ·have h43:=A5 ey9 hb;refine rl.run 2 rfl ?_;obtain ⟨v10,e10,h44⟩:=A1 h43;refine rl.call rfl rfl rfl (A6.y (r':=.bool v10) (C1 e10) ?_)
            cases hb:v10
            ·have h45:=A4 h44 hb;refine rl.f 11 rfl ?_;cases h45
             exact ⟨_,rfl,(Gh.y0 [0])⟩
            ·have h46:=A5 h44 hb;refine rl.f 11 rfl ?_;cases h46
             exact ⟨_,rfl,(Gh.y0 [0])⟩
          ·intro y hC
           subst hC
           cases hb:y9
           ·have h47:=A4 h39 hb;refine RW.cond_f rfl (RW.skip (RW.seq (RW.sr 2 rfl ?_)))
            refine rl.gen rfl rfl fun b hb=>?_
            cases b
            ·have h48:=A4 h47 hb;refine rl.done (RW.cond_f rfl (RW.skip (RW.sf 4 rfl (RW.ret ?_))));cases h48
             exact RRet.y
            ·have h49:=A5 h47 hb;refine rl.done (RW.cond_t rfl (RW.sf 5 rfl (RW.ret ?_)));cases h49
             exact RRet.y
           ·have h50:=A5 h39 hb;refine RW.cond_t rfl (RW.sf 1 rfl (RW.ret ?_));cases h50
            exact RRet.y
         ·have h51:=A5 h30 hb;refine RW.cond_t rfl (RW.sf 1 rfl (RW.ret ?_));cases h51
          exact RRet.y
       ·have h52:=A5 h22 hb;refine RW.cond_t rfl (RW.sf 1 rfl (RW.ret ?_));cases h52
        exact RRet.y
   ·have h53:=A5 h8 hb;refine rl.f 1 rfl (RW.seq ?_);obtain ⟨y11,ey11,h54⟩:=A1 h53
    refine RW.cutq (σ:=Bool) (fun y11=>[(1,.ptr 0 0),(3,.bool true),(4,.bool y11)]) (fun y11=>[some ⟨G6 false x0,0⟩]) (fun y=>y11=y) gg ?_ ?_
    ·refine RW.reg ?_;refine rl.run 2 rfl ?_
     refine rl.gen rfl rfl fun b hb=>?_
     cases b
     ·have h55:=A4 ey11 hb;refine rl.run 3 rfl ?_
      refine rl.gen rfl rfl fun b hb=>?_
      cases b
      ·have h56:=A4 h55 hb;refine rl.run 4 rfl ?_
       refine rl.gen rfl rfl fun b hb=>?_
       cases b
       ·have h57:=A4 h56 hb;refine rl.f 2 rfl ?_;cases h57
        exact ⟨_,rfl,(Gh.y0 [0])⟩
       ·have h58:=A5 h56 hb;refine rl.f 2 rfl ?_;cases h58
        exact ⟨_,rfl,(Gh.y0 [0])⟩
      ·have h59:=A5 h55 hb;refine rl.f 7 rfl ?_;cases h59
       exact ⟨_,rfl,(Gh.y0 [0])⟩
     ·have h60:=A5 ey11 hb;refine rl.f 11 rfl ?_;cases h60
      exact ⟨_,rfl,(Gh.y0 [0])⟩
    ·intro y hC
     subst hC;refine RW.seq ?_;obtain ⟨y12,ey12,h61⟩:=A1 h54
     refine RW.cutq (σ:=Bool) (fun y12=>[(1,.ptr 0 0),(3,.bool true),(4,.bool y11),(5,.bool y12)]) (fun y12=>[some ⟨G6 false x0,0⟩]) (fun y=>y12=y) gg ?_ ?_
     ·refine RW.reg ?_;refine rl.run 2 rfl ?_
      refine rl.gen rfl rfl fun b hb=>?_
      cases b
      ·have h62:=A4 ey12 hb;refine rl.run 3 rfl ?_
       refine rl.gen rfl rfl fun b hb=>?_
       cases b
       ·have h63:=A4 h62 hb;refine rl.f 2 rfl ?_;cases h63
        exact ⟨_,rfl,(Gh.y0 [0])⟩
       ·have h64:=A5 h62 hb;refine rl.f 2 rfl ?_;cases h64
        exact ⟨_,rfl,(Gh.y0 [0])⟩
      ·have h65:=A5 ey12 hb;refine rl.f 6 rfl ?_;cases h65
       exact ⟨_,rfl,(Gh.y0 [0])⟩
     ·intro y hC
      subst hC;refine RW.seq (RW.seq ?_);obtain ⟨y13,ey13,h66⟩:=A1 h61
      refine RW.cutq (σ:=Bool) (fun y13=>[(1,.ptr 0 0),(4,.bool y11),(5,.bool y12),(77,.bool y13)]) (fun y13=>[some ⟨G6 false x0,0⟩]) (fun y=>y13=y) gg ?_ ?_
      ·refine RW.reg ?_;refine rl.run 4 rfl ?_;obtain ⟨v14,e14,h67⟩:=A1 ey13;refine rl.call rfl rfl rfl (A6.y (r':=.bool v14) (Kt e14) ?_)
       cases hb:v14
       ·have h68:=A4 h67 hb;refine rl.f 33 rfl ?_;cases h68
        exact ⟨_,rfl,(Gh.y0 [0])⟩
       ·have h69:=A5 h67 hb;refine rl.run 4 rfl ?_;obtain ⟨v15,e15,h70⟩:=A1 h69;refine rl.call rfl rfl rfl (A6.y (r':=.bool v15) (Kt e15) ?_)
        cases hb:v15
        ·have h71:=A4 h70 hb;refine rl.f 28 rfl ?_;cases h71
         exact ⟨_,rfl,(Gh.y0 [0])⟩
        ·have h72:=A5 h70 hb;refine rl.run 5 rfl ?_;obtain ⟨v16,e16,h73⟩:=A1 h72;refine rl.call rfl rfl rfl (A6.y (r':=.bool v16) (C1 e16) ?_)
         cases hb:v16
         ·have h74:=A4 h73 hb;refine rl.f 22 rfl ?_;cases h74
          exact ⟨_,rfl,(Gh.y0 [0])⟩
         ·have h75:=A5 h73 hb;refine rl.f 22 rfl ?_;cases h75
          exact ⟨_,rfl,(Gh.y0 [0])⟩
      ·intro y hC
       subst hC
       cases hb:y13
       ·have h76:=A4 h66 hb;refine RW.cond_f rfl (RW.skip (RW.seq (RW.seq ?_)));obtain ⟨y17,ey17,h77⟩:=A1 h76
        refine RW.cutq (σ:=Bool) (fun y17=>[(1,.ptr 0 0),(5,.bool y12),(93,.bool y17)]) (fun y17=>[some ⟨G6 false x0,0⟩]) (fun y=>y17=y) gg ?_ ?_
        ·refine RW.reg ?_;refine rl.run 2 rfl ?_
         cases hb:y11
         ·have h78:=A4 ey17 hb;refine rl.run 11 rfl ?_
          refine rl.gen rfl rfl fun b hb=>?_
          cases b
          ·have h79:=A4 h78 hb;refine rl.f 2 rfl ?_;cases h79
           exact ⟨_,rfl,(Gh.y0 [0])⟩
          ·have h80:=A5 h78 hb;refine rl.f 2 rfl ?_;cases h80
           exact ⟨_,rfl,(Gh.y0 [0])⟩
         ·have h81:=A5 ey17 hb;refine rl.run 2 rfl ?_;obtain ⟨v18,e18,h82⟩:=A1 h81;refine rl.call rfl rfl rfl (A6.y (r':=.bool v18) (C1 e18) ?_)
          cases hb:v18
          ·have h83:=A4 h82 hb;refine rl.f 11 rfl ?_;cases h83
           exact ⟨_,rfl,(Gh.y0 [0])⟩
          ·have h84:=A5 h82 hb;refine rl.f 11 rfl ?_;cases h84
           exact ⟨_,rfl,(Gh.y0 [0])⟩
        ·intro y hC
         subst hC
         cases hb:y17
         ·have h85:=A4 h77 hb;refine RW.cond_f rfl (RW.skip (RW.seq (RW.seq ?_)));obtain ⟨y19,ey19,h86⟩:=A1 h85
          refine RW.cutq (σ:=Bool) (fun y19=>[(1,.ptr 0 0),(109,.bool y19)]) (fun y19=>[some ⟨G6 false x0,0⟩]) (fun y=>y19=y) gg ?_ ?_
          ·refine RW.reg ?_;refine rl.run 2 rfl ?_
           cases hb:y12
           ·have h87:=A4 ey19 hb;refine rl.run 11 rfl ?_
            refine rl.gen rfl rfl fun b hb=>?_
            cases b
            ·have h88:=A4 h87 hb;refine rl.f 2 rfl ?_;cases h88
             exact ⟨_,rfl,(Gh.y0 [0])⟩
            ·have h89:=A5 h87 hb;refine rl.f 2 rfl ?_;cases h89
             exact ⟨_,rfl,(Gh.y0 [0])⟩
           ·have h90:=A5 ey19 hb;refine rl.run 2 rfl ?_;obtain ⟨v20,e20,h91⟩:=A1 h90;refine rl.call rfl rfl rfl (A6.y (r':=.bool v20) (C1 e20) ?_)
            cases hb:v20
            ·have h92:=A4 h91 hb;refine rl.f 11 rfl ?_;cases h92
             exact ⟨_,rfl,(Gh.y0 [0])⟩
            ·have h93:=A5 h91 hb;refine rl.f 11 rfl ?_;cases h93
             exact ⟨_,rfl,(Gh.y0 [0])⟩
          ·intro y hC
           subst hC
           cases hb:y19
           ·have h94:=A4 h86 hb;refine RW.cond_f rfl (RW.skip (RW.seq (RW.sr 2 rfl ?_)))
            refine rl.gen rfl rfl fun b hb=>?_
            cases b
            ·have h95:=A4 h94 hb;refine rl.done (RW.cond_f rfl (RW.skip (RW.sf 4 rfl (RW.ret ?_))));cases h95
             exact RRet.y
            ·have h96:=A5 h94 hb;refine rl.done (RW.cond_t rfl (RW.sf 5 rfl (RW.ret ?_)));cases h96
             exact RRet.y
           ·have h97:=A5 h86 hb;refine RW.cond_t rfl (RW.sf 1 rfl (RW.ret ?_));cases h97
            exact RRet.y
         ·have h98:=A5 h77 hb;refine RW.cond_t rfl (RW.sf 1 rfl (RW.ret ?_));cases h98
          exact RRet.y
       ·have h99:=A5 h66 hb;refine RW.cond_t rfl (RW.sf 1 rfl (RW.ret ?_));cases h99
        exact RRet.y
  ·have h100:=A5 h1 hb;refine RW.cond_t rfl (RW.sf 1 rfl (RW.ret ?_));cases h100
   exact RRet.y
theorem Uw {x0:TRec} {r:(List UInt8)×Bool} (hF:Z8 x0=some r):A7 Tryz.prog 169 [.agg (G6 false x0)] (.tup [.str r.1,.bool r.2]):=by
 refine A7.q Xr ?_;unfold Z8 at hF;refine RW.sf 3 rfl (RW.seq (RW.sr 1 rfl ?_));obtain ⟨v1,e1,h1⟩:=A1 hF;refine rl.call rfl rfl rfl (A6.y (r':=.bool v1) (Yl e1) ?_)
 cases hb:v1
 ·have h2:=A4 h1 hb;refine rl.f 1 rfl (RW.cond_t rfl (RW.sf 2 rfl (RW.ret ?_)));cases h2
  exact RRet.y
 ·have h3:=A5 h1 hb;refine rl.f 1 rfl (RW.cond_f rfl (RW.skip (RW.sdrw (A0.op rfl rfl (A0.op rfl rfl (A0.op rfl rfl ?_))))));refine A0.chn rfl rfl ?_;refine A0.op rfl (Jl (o:=true) (l:=[IntKind.u8.wrap x0.Kind]) rfl rfl) ?_;refine A0.opA rfl rfl (.here (.rx rfl) .nil) ?_;refine A0.opA rfl rfl (.here (.rx rfl) .nil) ?_;obtain ⟨v2,e2,h4⟩:=A1 h3;refine A0.callA rfl rfl rfl (A6.y (r':=.str v2) (D2 e2) ⟨rfl,(.here (.cl rfl rfl (A6.y (r':=.str v2) (D2 e2) ⟨rfl,rfl⟩)) .nil),?_⟩);obtain ⟨v3,e3,h5⟩:=A1 h4;refine A0.op rfl (Q3 rfl rfl e3) ?_;refine A0.opA rfl rfl (.here (.rx rfl) .nil) ?_;refine A0.opA rfl rfl (.here (.rx rfl) .nil) ?_;obtain ⟨v4,e4,h6⟩:=A1 h5;refine A0.callA rfl rfl rfl (A6.y (r':=.str v4) (D2 e4) ⟨rfl,(.here (.cl rfl rfl (A6.y (r':=.str v4) (D2 e4) ⟨rfl,rfl⟩)) .nil),?_⟩);obtain ⟨v5,e5,h7⟩:=A1 h6;refine A0.op rfl (Q3 rfl rfl e5) ?_;refine A0.opA rfl rfl (.here (.rx rfl) .nil) ?_;refine A0.opA rfl rfl (.here (.rx rfl) .nil) ?_;obtain ⟨v6,e6,h8⟩:=A1 h7;refine A0.callA rfl rfl rfl (A6.y (r':=.str v6) (D2 e6) ⟨rfl,(.here (.cl rfl rfl (A6.y (r':=.str v6) (D2 e6) ⟨rfl,rfl⟩)) .nil),?_⟩);obtain ⟨v7,e7,h9⟩:=A1 h8;refine A0.op rfl (Q3 rfl rfl e7) ?_;refine A0.opA rfl rfl (.here (.rx rfl) .nil) ?_;refine A0.opA rfl rfl (.here (.rx rfl) .nil) ?_;obtain ⟨v8,e8,h10⟩:=A1 h9;refine A0.callA rfl rfl rfl (A6.y (r':=.str v8) (D2 e8) ⟨rfl,(.here (.cl rfl rfl (A6.y (r':=.str v8) (D2 e8) ⟨rfl,rfl⟩)) .nil),?_⟩);obtain ⟨v9,e9,h11⟩:=A1 h10;refine A0.op rfl (Q3 rfl rfl e9) ?_;refine A0.opA rfl rfl (.here (.rx rfl) .nil) ?_;refine A0.opA rfl rfl (.here (.rx rfl) .nil) ?_;obtain ⟨v10,e10,h12⟩:=A1 h11;refine A0.callA rfl rfl rfl (A6.y (r':=.str v10) (P3 e10) ⟨rfl,(.here (.cl rfl rfl (A6.y (r':=.str v10) (P3 e10) ⟨rfl,rfl⟩)) .nil),?_⟩);obtain ⟨v11,e11,h13⟩:=A1 h12;refine A0.op rfl (Q3 rfl rfl e11) ?_;refine A0.opA rfl rfl (.here (.rx rfl) .nil) ?_;refine A0.opA rfl rfl (.here (.rx rfl) .nil) ?_;obtain ⟨v12,e12,h14⟩:=A1 h13;refine A0.callA rfl rfl rfl (A6.y (r':=.str v12) (P3 e12) ⟨rfl,(.here (.cl rfl rfl (A6.y (r':=.str v12) (P3 e12) ⟨rfl,rfl⟩)) .nil),?_⟩)
  obtain ⟨v13,e13,h15⟩:=A1 h14;refine A0.op rfl (Q3 rfl rfl e13) ?_;refine A0.opA rfl rfl (.here (.rx rfl) .nil) ?_;refine A0.opA rfl rfl (.here (.rx rfl) .nil) ?_;obtain ⟨v14,e14,h16⟩:=A1 h15;refine A0.callA rfl rfl rfl (A6.y (r':=.str v14) (P3 e14) ⟨rfl,(.here (.cl rfl rfl (A6.y (r':=.str v14) (P3 e14) ⟨rfl,rfl⟩)) .nil),?_⟩);obtain ⟨v15,e15,h17⟩:=A1 h16;refine A0.op rfl (Q3 rfl rfl e15) ?_;refine A0.op rfl rfl (A0.op rfl rfl (A0.done ?_));refine RW.kp [2,3] [(2,.str v15),(3,.bool true)] [some ⟨G6 false x0,0⟩,some ⟨fl (encB true) [IntKind.u8.wrap x0.Kind],1⟩] rfl rfl ?_;refine RW.ret ?_;cases h17
  exact RRet.y
theorem Qe {x0:TItem} {x1:Int} {r:TFrame×Bool} (hF:Z7 x0 x1=some r):A7 Tryz.prog 145 [.agg (A9 false x0),.j x1] (.tup [.agg (C3 true r.1),.bool r.2]):=by
 refine A7.q Uu ?_;unfold Z7 at hF;refine RW.sf 3 rfl (RW.sr 2 rfl ?_);obtain ⟨v1,e1,h1⟩:=A1 hF;refine rl.call rfl rfl rfl (A6.y (r':=.tup [.str v1.1,.bool v1.2]) (Uw e1) ?_);refine rl.f 5 rfl (RW.sf 7 rfl ?_);refine RW.kp [4,7,8] [(4,.ptr 1 0),(7,.bool v1.2),(8,.ptr 2 0)] [some ⟨A9 false x0,0⟩,some ⟨[.j 0,.j 0,.str []],0⟩,some ⟨[.j x1,.j x0.Seq,.str v1.1],0⟩] rfl rfl ?_;refine RW.seq (RW.seq ?_);obtain ⟨y2,ey2,h2⟩:=A1 h1
 refine RW.cutq (σ:=Bool) (fun y2=>[(4,.ptr 0 0),(8,.ptr 1 0),(26,.bool y2)]) (fun y2=>[some ⟨[.j 0,.j 0,.str []],0⟩,some ⟨[.j x1,.j x0.Seq,.str v1.1],0⟩]) (fun y=>y2=y) gg ?_ ?_
 ·refine RW.reg ?_;refine rl.run 3 rfl ?_
  cases hb:(!v1.2)
  ·have h3:=A4 ey2 hb;refine rl.run 1 rfl ?_;obtain ⟨v3,e3,h4⟩:=A1 h3;refine rl.call rfl rfl rfl (A6.y (r':=.bool v3) (Jw e3) ?_)
   cases hb:v3
   ·have h5:=A4 h4 hb;refine rl.f 2 rfl ?_;cases h5
    exact ⟨_,rfl,(Gh.y0 [1,2])⟩
   ·have h6:=A5 h4 hb;refine rl.f 2 rfl ?_;cases h6
    exact ⟨_,rfl,(Gh.y0 [1,2])⟩
  ·have h7:=A5 ey2 hb;refine rl.f 4 rfl ?_;cases h7
   exact ⟨_,rfl,(Gh.y0 [1,2])⟩
 ·intro y hC
  subst hC
  cases hb:y2
  ·have h8:=A4 h2 hb;refine RW.cond_f rfl (RW.skip (RW.sf 3 rfl (RW.ret ?_)));cases h8
   exact RRet.y
  ·have h9:=A5 h2 hb;refine RW.cond_t rfl (RW.sf 3 rfl (RW.ret ?_));cases h9
   exact RRet.y
end Go.Proofs.YtldndhdohlfpgaaGreat.V
