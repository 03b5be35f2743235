/- What a call comes to. -/
import Derived.Test.YtldndhdohlfpgaaGreatXD2
namespace Go.Proofs.YtldndhdohlfpgaaGreat.V
open Go Go.Proofs Go.RowKit
set_option maxRecDepth 100000
set_option maxHeartbeats 4000000
theorem Hw {x0:TLog} {r:Bool} (hF:Ba x0=some r):B2 Tryz.prog 32 [.agg (A9 false x0)] (.bool r):=by
 refine B2.q A3g ?_;unfold Ba at hF;refine RW.sf 2 rfl (RW.seq (RW.seq ?_));obtain ⟨y1,ey1,h1⟩:=A2 hF
 refine RW.cutq (σ:=Bool) (fun y1=>[(1,.ptr 0 0),(40,.bool y1)]) (fun y1=>[some ⟨A9 false x0,0⟩]) (fun y=>y1=y) gg ?_ ?_
 ·refine RW.drw ?_;refine A0.op rfl rfl (A0.op rfl rfl ?_);obtain ⟨v2,e2,h2⟩:=A2 ey1;refine A0.call rfl rfl rfl (A7.y (r':=.bool v2) (Bl e2) ⟨rfl,?_⟩)
  cases hb:v2
  ·have h3:=A5 h2 hb;refine A0.op rfl rfl (A0.op rfl rfl (A0.off rfl (A0.off rfl (A0.off rfl (A0.off rfl (A0.off rfl (A0.op rfl rfl (A0.op rfl rfl (A0.off rfl (A0.off rfl (A0.off rfl ?_)))))))))));refine A0.op rfl rfl (A0.op rfl rfl (A0.off rfl (A0.off rfl (A0.off rfl (A0.off rfl (A0.off rfl (A0.off rfl (A0.op rfl rfl (A0.op rfl rfl (A0.off rfl (A0.off rfl ?_)))))))))));refine A0.off rfl (A0.off rfl (A0.off rfl (A0.off rfl (A0.off rfl (A0.op rfl rfl (A0.done ?_))))));cases h3
   exact ⟨_,rfl,(Gh.y0 [0])⟩
  ·have h4:=A4 h2 hb;refine A0.op rfl rfl (A0.op rfl rfl (A0.op rfl rfl (A0.op rfl rfl (A0.op rfl rfl (A0.op rfl rfl ?_)))))
   refine A0.gen rfl rfl fun b hb=>?_
   cases b
   ·have h5:=A5 h4 hb;refine A0.op rfl rfl (A0.op rfl rfl (A0.op rfl rfl (A0.op rfl rfl ?_)))
    refine A0.gen rfl rfl fun b hb=>?_
    cases b
    ·have h6:=A5 h5 hb;refine A0.op rfl rfl (A0.op rfl rfl (A0.op rfl rfl (A0.op rfl rfl (A0.op rfl rfl (A0.op rfl rfl ?_)))));obtain ⟨v3,e3,h7⟩:=A2 h6;refine A0.call rfl rfl rfl (A7.y (r':=.j v3) (Xh e3) ⟨rfl,?_⟩)
     refine A0.gen rfl rfl fun b hb=>?_
     cases b
     ·have h8:=A5 h7 hb;refine A0.op rfl rfl (A0.op rfl rfl (A0.op rfl rfl (A0.op rfl rfl (A0.op rfl rfl (A0.op rfl rfl (A0.op rfl rfl ?_))))));obtain ⟨v4,e4,h9⟩:=A2 h8;refine A0.call rfl rfl rfl (A7.y (r':=.bool v4) (B8 e4) ⟨rfl,?_⟩)
      cases hb:v4
      ·have h10:=A5 h9 hb;refine A0.op rfl rfl (A0.op rfl rfl (A0.done ?_));cases h10
       exact ⟨_,rfl,(Gh.y0 [0])⟩
      ·have h11:=A4 h9 hb;refine A0.op rfl rfl (A0.op rfl rfl (A0.done ?_));cases h11
       exact ⟨_,rfl,(Gh.y0 [0])⟩
     ·have h12:=A4 h7 hb;refine A0.op rfl rfl (A0.op rfl rfl (A0.off rfl (A0.off rfl (A0.off rfl (A0.off rfl (A0.off rfl (A0.off rfl (A0.off rfl (A0.op rfl rfl (A0.done ?_))))))))));cases h12
      exact ⟨_,rfl,(Gh.y0 [0])⟩
    ·have h13:=A4 h5 hb;refine A0.op rfl rfl (A0.op rfl rfl (A0.off rfl (A0.off rfl (A0.off rfl (A0.off rfl (A0.off rfl (A0.off rfl (A0.op rfl rfl (A0.op rfl rfl (A0.off rfl (A0.off rfl ?_)))))))))));refine A0.off rfl (A0.off rfl (A0.off rfl (A0.off rfl (A0.off rfl (A0.op rfl rfl (A0.done ?_))))));cases h13
     exact ⟨_,rfl,(Gh.y0 [0])⟩
   ·have h14:=A4 h4 hb;refine A0.op rfl rfl (A0.op rfl rfl (A0.off rfl (A0.off rfl (A0.off rfl (A0.op rfl rfl (A0.op rfl rfl (A0.off rfl (A0.off rfl (A0.off rfl (A0.off rfl (A0.off rfl ?_)))))))))));refine A0.off rfl (A0.op rfl rfl (A0.op rfl rfl (A0.off rfl (A0.off rfl (A0.off rfl (A0.off rfl (A0.off rfl (A0.off rfl (A0.off rfl (A0.op rfl rfl (A0.done ?_)))))))))));cases h14
    exact ⟨_,rfl,(Gh.y0 [0])⟩
 ·intro y hC
  subst hC
  cases hb:y1
  ·have h15:=A5 h1 hb;refine RW.cond_f rfl (RW.skip (RW.seq (RW.seq ?_)));obtain ⟨y5,ey5,h16⟩:=A2 h15
   refine RW.cutq (σ:=Bool) (fun y5=>[(1,.ptr 0 0),(62,.bool y5)]) (fun y5=>[some ⟨A9 false x0,0⟩]) (fun y=>y5=y) gg ?_ ?_
   ·refine RW.reg ?_;refine rl.run 2 rfl ?_;obtain ⟨v6,e6,h17⟩:=A2 ey5;refine rl.call rfl rfl rfl (A7.y (r':=.bool v6) (B8 e6) ?_)
    cases hb:v6
    ·have h18:=A5 h17 hb;refine rl.f 19 rfl ?_;cases h18
     exact ⟨_,rfl,(Gh.y0 [0])⟩
    ·have h19:=A4 h17 hb;refine rl.run 4 rfl ?_;obtain ⟨v7,e7,h20⟩:=A2 h19;refine rl.call rfl rfl rfl (A7.y (r':=.bool v7) (B8 e7) ?_)
     cases hb:v7
     ·have h21:=A5 h20 hb;refine rl.f 14 rfl ?_;cases h21
      exact ⟨_,rfl,(Gh.y0 [0])⟩
     ·have h22:=A4 h20 hb;refine rl.run 5 rfl ?_;obtain ⟨v8,e8,h23⟩:=A2 h22;refine rl.call rfl rfl rfl (A7.y (r':=.bool v8) (B8 e8) ?_)
      cases hb:v8
      ·have h24:=A5 h23 hb;refine rl.f 8 rfl ?_;cases h24
       exact ⟨_,rfl,(Gh.y0 [0])⟩
      ·have h25:=A4 h23 hb;refine rl.run 5 rfl ?_;obtain ⟨v9,e9,h26⟩:=A2 h25;refine rl.call rfl rfl rfl (A7.y (r':=.bool v9) (B8 e9) ?_)
       cases hb:v9
       ·have h27:=A5 h26 hb;refine rl.f 2 rfl ?_;cases h27
        exact ⟨_,rfl,(Gh.y0 [0])⟩
       ·have h28:=A4 h26 hb;refine rl.f 2 rfl ?_;cases h28
        exact ⟨_,rfl,(Gh.y0 [0])⟩
   ·intro y hC
    subst hC
    cases hb:y5
    ·have h29:=A5 h16 hb;refine RW.cond_f rfl (RW.skip (RW.seq (RW.sf 1 rfl ?_)));obtain ⟨y24,ey24,h31⟩:=A2 h29
     refine RW.cutq (σ:=Unit) (fun y11=>[(1,.ptr 0 0)]) (fun y11=>[some ⟨A9 false x0,0⟩]) (fun y=>y24=.inr y) gg ?_ ?_
     ·refine RW.blk ?_
      refine RW.iter (σ:=Int) ey24 (fun s10=>[(1,.ptr 0 0),(3,.j s10)]) (fun s10=>[some ⟨A9 false x0,0⟩]) (Gh.y0 [0]) (fun s10 B o hS30 hB30 hE30=>?_)
      unfold Fg at hS30;refine RW.seq (RW.sr 4 rfl ?_)
      refine rl.gen rfl rfl fun b hb=>?_
      cases b
      ·have h32:=A5 hS30 hb;refine rl.done (RW.cond_f rfl (RW.exit (C9 ?_)));cases h32
       exact ⟨_,(hE30 _ rfl).symm,(Gh.y0 [0])⟩
      ·have h33:=A4 hS30 hb;refine rl.done (RW.cond_t rfl (RW.skip (RW.seq (RW.blk (RW.sr 3 rfl ?_)))));obtain ⟨v12,e12,h34⟩:=A2 h33;refine rl.op (C1 (enc:=A3) (o:=false) rfl rfl rfl e12) ?_;refine rl.op (H6 (off':=0) (vs:=(A3 false v12)) B3 rfl e12 rfl rfl rfl) ?_;refine rl.f 2 rfl (RW.seq (RW.seq ?_));obtain ⟨y13,ey13,h35⟩:=A2 h34
       refine RW.cutq (σ:=Bool) (fun y13=>[(1,.ptr 0 0),(3,.j s10),(4,.ptr 1 0),(119,.bool y13)]) (fun y13=>[some ⟨A9 false x0,0⟩,some ⟨A3 false v12,0⟩]) (fun y=>y13=y) gg ?_ ?_
       ·refine RW.drw ?_;refine A0.op rfl rfl (A0.op rfl rfl (A0.op rfl rfl (A0.op rfl rfl (A0.op rfl rfl ?_))));obtain ⟨v14,e14,h36⟩:=A2 ey13;refine A0.call rfl rfl rfl (A7.y (r':=.bool v14) (B8 e14) ⟨rfl,?_⟩)
        cases hb:v14
        ·have h37:=A5 h36 hb;refine A0.op rfl rfl (A0.op rfl rfl (A0.off rfl (A0.off rfl (A0.off rfl (A0.op rfl rfl (A0.op rfl rfl (A0.off rfl (A0.off rfl (A0.off rfl (A0.off rfl (A0.off rfl ?_)))))))))));refine A0.op rfl rfl (A0.op rfl rfl (A0.off rfl (A0.off rfl (A0.off rfl (A0.off rfl (A0.off rfl (A0.off rfl (A0.off rfl (A0.off rfl (A0.off rfl (A0.off rfl ?_)))))))))));refine A0.off rfl (A0.off rfl (A0.off rfl (A0.off rfl (A0.op rfl rfl (A0.op rfl rfl (A0.off rfl (A0.off rfl (A0.off rfl (A0.off rfl (A0.off rfl (A0.off rfl ?_)))))))))));refine A0.off rfl (A0.off rfl (A0.op rfl rfl (A0.done ?_)));cases h37
         exact ⟨_,rfl,(Gh.y0 [0,1])⟩
        ·have h38:=A4 h36 hb;refine A0.op rfl rfl (A0.op rfl rfl (A0.op rfl rfl (A0.op rfl rfl ?_)))
         refine A0.gen rfl rfl fun b hb=>?_
         cases b
         ·have h39:=A5 h38 hb;refine A0.op rfl rfl (A0.op rfl rfl (A0.op rfl rfl (A0.op rfl rfl (A0.op rfl rfl (A0.op rfl rfl ?_)))))
          refine A0.gen rfl rfl fun b hb=>?_
          cases b
          ·have h40:=A5 h39 hb;refine A0.op rfl rfl (A0.op rfl rfl (A0.op rfl rfl ?_))
           refine A0.gen rfl rfl fun b hb=>?_
           cases b
           ·have h41:=A5 h40 hb;refine A0.op rfl rfl (A0.off rfl (A0.off rfl (A0.off rfl (A0.off rfl (A0.off rfl (A0.off rfl (A0.off rfl (A0.off rfl (A0.off rfl (A0.off rfl (A0.op rfl rfl ?_)))))))))));refine A0.op rfl rfl (A0.op rfl rfl (A0.op rfl rfl (A0.op rfl rfl (A0.op rfl rfl (A0.op rfl rfl (A0.op rfl rfl ?_))))));obtain ⟨v15,e15,h42⟩:=A2 h41;refine A0.call rfl rfl rfl (A7.y (r':=.agg (A3 false v15)) (Kw e15) ⟨rfl,?_⟩);obtain ⟨v16,e16,h43⟩:=A2 h42;refine A0.call rfl rfl rfl (A7.y (r':=.bool v16) (Fv e16) ⟨rfl,?_⟩)
            cases hb:v16
            ·have h44:=A5 h43 hb;refine A0.op rfl rfl (A0.op rfl rfl (A0.done ?_));cases h44
             exact ⟨_,rfl,(Gh.y0 [0,1])⟩
            ·have h45:=A4 h43 hb;refine A0.op rfl rfl (A0.op rfl rfl (A0.done ?_));cases h45
             exact ⟨_,rfl,(Gh.y0 [0,1])⟩
           ·have h46:=A4 h40 hb;refine A0.op rfl rfl (A0.op rfl rfl (A0.op rfl rfl (A0.op rfl rfl (A0.op rfl rfl ?_))));obtain ⟨v17,e17,h47⟩:=A2 h46;refine A0.op rfl (C1 (enc:=A3) (o:=false) rfl rfl rfl e17) ?_;refine A0.op rfl rfl ?_;refine A0.op rfl (E7 (off':=1) B3 rfl e17 rfl rfl rfl) ?_;refine A0.op rfl rfl (A0.op rfl rfl ?_)
            refine A0.gen rfl rfl fun b hb=>?_
            cases b
            ·have h48:=A5 h47 hb;refine A0.op rfl rfl (A0.op rfl rfl (A0.op rfl rfl (A0.op rfl rfl (A0.op rfl rfl (A0.op rfl rfl (A0.op rfl rfl (A0.op rfl rfl ?_)))))));obtain ⟨v18,e18,h49⟩:=A2 h48;refine A0.call rfl rfl rfl (A7.y (r':=.agg (A3 false v18)) (Kw e18) ⟨rfl,?_⟩);obtain ⟨v19,e19,h50⟩:=A2 h49;refine A0.call rfl rfl rfl (A7.y (r':=.bool v19) (Fv e19) ⟨rfl,?_⟩)
             cases hb:v19
             ·have h51:=A5 h50 hb;refine A0.op rfl rfl (A0.op rfl rfl (A0.done ?_));cases h51
              exact ⟨_,rfl,(Gh.y0 [0,1])⟩
             ·have h52:=A4 h50 hb;refine A0.op rfl rfl (A0.op rfl rfl (A0.done ?_));cases h52
              exact ⟨_,rfl,(Gh.y0 [0,1])⟩
            ·have h53:=A4 h47 hb;refine A0.op rfl rfl (A0.op rfl rfl (A0.op rfl rfl (A0.off rfl (A0.off rfl (A0.off rfl (A0.off rfl (A0.off rfl (A0.off rfl (A0.off rfl (A0.off rfl (A0.op rfl rfl ?_)))))))))));refine A0.done ?_;cases h53
             exact ⟨_,rfl,(Gh.y0 [0,1])⟩
          ·have h54:=A4 h39 hb;refine A0.op rfl rfl (A0.op rfl rfl (A0.off rfl (A0.off rfl (A0.off rfl (A0.off rfl (A0.off rfl (A0.off rfl (A0.off rfl (A0.off rfl (A0.off rfl (A0.off rfl ?_)))))))))));refine A0.off rfl (A0.off rfl (A0.off rfl (A0.off rfl (A0.op rfl rfl (A0.op rfl rfl (A0.off rfl (A0.off rfl (A0.off rfl (A0.off rfl (A0.off rfl (A0.off rfl ?_)))))))))));refine A0.off rfl (A0.off rfl (A0.op rfl rfl (A0.done ?_)));cases h54
           exact ⟨_,rfl,(Gh.y0 [0,1])⟩
         ·have h55:=A4 h38 hb;refine A0.op rfl rfl (A0.op rfl rfl (A0.off rfl (A0.off rfl (A0.off rfl (A0.off rfl (A0.off rfl (A0.op rfl rfl (A0.op rfl rfl (A0.off rfl (A0.off rfl (A0.off rfl ?_)))))))))));refine A0.off rfl (A0.off rfl (A0.off rfl (A0.off rfl (A0.off rfl (A0.off rfl (A0.off rfl (A0.off rfl (A0.off rfl (A0.off rfl (A0.off rfl (A0.op rfl rfl ?_)))))))))));refine A0.op rfl rfl (A0.off rfl (A0.off rfl (A0.off rfl (A0.off rfl (A0.off rfl (A0.off rfl (A0.off rfl (A0.off rfl (A0.op rfl rfl (A0.done ?_))))))))));cases h55
          exact ⟨_,rfl,(Gh.y0 [0,1])⟩
       ·intro y hC
        subst hC
        cases hb:y13
        ·have h56:=A5 h35 hb;refine RW.cond_f rfl (RW.skip (RW.sf 1 rfl ?_));obtain ⟨y23,ey23,h58⟩:=A2 h56
         refine RW.cutq (σ:=Unit) (fun y21=>[(1,.ptr 0 0),(3,.j s10)]) (fun y21=>[some ⟨A9 false x0,0⟩]) (fun y=>y23=.inr y) gg ?_ ?_
         ·refine RW.blk ?_
          refine RW.iter (σ:=Int) ey23 (fun s20=>[(1,.ptr 0 0),(3,.j s10),(4,.ptr 1 0),(5,.j s20)]) (fun s20=>[some ⟨A9 false x0,0⟩,some ⟨A3 false v12,0⟩]) (Gh.y0 [0,1]) (fun s20 B o hS57 hB57 hE57=>?_)
          unfold Cm at hS57;refine RW.seq (RW.sr 2 rfl ?_)
          refine rl.gen rfl rfl fun b hb=>?_
          cases b
          ·have h59:=A5 hS57 hb;refine rl.done (RW.cond_f rfl (RW.exit (C9 ?_)));cases h59
           exact ⟨_,(hE57 _ rfl).symm,(Gh.y0 [0])⟩
          ·have h60:=A4 hS57 hb;refine rl.done (RW.cond_t rfl (RW.skip (RW.seq (RW.blk (RW.sdrw (A0.op rfl rfl (A0.op rfl rfl (A0.op rfl rfl ?_))))))));obtain ⟨v22,e22,h61⟩:=A2 h60;refine A0.op rfl (C1 (enc:=A3) (o:=false) rfl rfl rfl e22) ?_;refine A0.op rfl rfl ?_;refine A0.op rfl (E7 (off':=0) B3 rfl e22 rfl rfl rfl) ?_;refine A0.op rfl rfl (A0.op rfl rfl ?_)
           refine A0.gen rfl rfl fun b hb=>?_
           cases b
           ·have h62:=A5 h61 hb;refine A0.done ?_;refine RW.kp [1,3,4,5,133] [(1,.ptr 0 0),(3,.j s10),(4,.ptr 1 0),(5,.j s20),(133,.bool false)] [some ⟨A9 false x0,0⟩,some ⟨A3 false v12,0⟩] rfl rfl ?_;refine RW.cond_f rfl (RW.skip (RW.reg (rl.f 3 rfl ?_)));cases h62
            exact hB57 _ rfl _ _ (Gh.y0 [0,1])
           ·have h63:=A4 h61 hb;refine A0.done ?_;refine RW.kp [1,3,4,5,133] [(1,.ptr 0 0),(3,.j s10),(4,.ptr 1 0),(5,.j s20),(133,.bool true)] [some ⟨A9 false x0,0⟩,some ⟨A3 false v12,0⟩] rfl rfl ?_;refine RW.cond_t rfl (RW.sf 1 rfl (RW.ret ?_));cases h63;have h64:=elimL h58 (hE57 _ rfl);cases h64;have h65:=elimL h31 (hE30 _ rfl);cases h65
            exact RRet.y
         ·intro y21 hC
          have h58:=elimR h58 hC;refine RW.reg (rl.f 3 rfl ?_);cases h58
          exact hB30 _ rfl _ _ (Gh.y0 [0])
        ·have h66:=A4 h35 hb;refine RW.cond_t rfl (RW.sf 1 rfl (RW.ret ?_));cases h66;have h67:=elimL h31 (hE30 _ rfl);cases h67
         exact RRet.y
     ·intro y11 hC
      have h31:=elimR h31 hC;refine RW.sr 1 rfl ?_;obtain ⟨v25,e25,h68⟩:=A2 h31;refine rl.call rfl rfl rfl (A7.y (r':=E8 v25) (Fx e25) ?_);refine rl.f 1 rfl (RW.seq (RW.sf 1 rfl ?_));obtain ⟨y31,ey31,h70⟩:=A2 h68
      refine RW.cutq (σ:=Unit) (fun y27=>[(6,E8 v25)]) (fun y27=>[]) (fun y=>y31=.inr y) gg ?_ ?_
      ·refine RW.blk ?_
       refine RW.iter (σ:=Int) ey31 (fun s26=>[(1,.ptr 0 0),(6,E8 v25),(7,.j s26)]) (fun s26=>[some ⟨A9 false x0,0⟩]) (Gh.y0 [0]) (fun s26 B o hS69 hB69 hE69=>?_)
       unfold Ex at hS69;refine RW.seq (RW.sr 3 rfl ?_)
       refine rl.gen rfl rfl fun b hb=>?_
       cases b
       ·have h71:=A5 hS69 hb;refine rl.done (RW.cond_f rfl (RW.exit (C9 ?_)));cases h71
        exact ⟨_,(hE69 _ rfl).symm,(Gh.y0 [])⟩
       ·have h72:=A4 hS69 hb;refine rl.done (RW.cond_t rfl (RW.skip (RW.seq (RW.blk (RW.seq ?_)))));obtain ⟨y28,ey28,h73⟩:=A2 h72
        refine RW.cutq (σ:=Bool) (fun y28=>[(1,.ptr 0 0),(6,E8 v25),(7,.j s26),(160,.bool y28)]) (fun y28=>[some ⟨A9 false x0,0⟩]) (fun y=>y28=y) gg ?_ ?_
        ·refine RW.drw ?_;refine A0.op rfl rfl (A0.op rfl rfl ?_);obtain ⟨v29,e29,h74⟩:=A2 ey28;refine A0.op rfl (C1 (enc:=A8) (o:=false) rfl rfl rfl e29) ?_;refine A0.op rfl rfl ?_;refine A0.op rfl (E7 (off':=0) C2 rfl e29 rfl rfl rfl) ?_;refine A0.op rfl rfl (A0.op rfl rfl ?_)
         refine A0.gen rfl rfl fun b hb=>?_
         cases b
         ·have h75:=A5 h74 hb;refine A0.op rfl rfl (A0.op rfl rfl (A0.op rfl rfl ?_));obtain ⟨v30,e30,h76⟩:=A2 h75;refine A0.op rfl (C1 (enc:=A8) (o:=false) rfl rfl rfl e30) ?_;refine A0.op rfl rfl (A0.op rfl rfl ?_);refine A0.op rfl (E7 (off':=2) C2 rfl e30 rfl rfl rfl) ?_;refine A0.op rfl rfl (A0.op rfl rfl ?_)
          refine A0.gen rfl rfl fun b hb=>?_
          cases b
          ·have h77:=A5 h76 hb;refine A0.op rfl rfl (A0.done ?_);cases h77
           exact ⟨_,rfl,(Gh.y0 [0])⟩
          ·have h78:=A4 h76 hb;refine A0.op rfl rfl (A0.done ?_);cases h78
           exact ⟨_,rfl,(Gh.y0 [0])⟩
         ·have h79:=A4 h74 hb;refine A0.op rfl rfl (A0.off rfl (A0.off rfl (A0.off rfl (A0.off rfl (A0.off rfl (A0.off rfl (A0.off rfl (A0.off rfl (A0.off rfl (A0.op rfl rfl (A0.done ?_)))))))))));cases h79
          exact ⟨_,rfl,(Gh.y0 [0])⟩
        ·intro y hC
         subst hC
         cases hb:y28
         ·have h80:=A5 h73 hb;refine RW.cond_f rfl (RW.skip (RW.reg (rl.f 3 rfl ?_)));cases h80
          exact hB69 _ rfl _ _ (Gh.y0 [0])
         ·have h81:=A4 h73 hb;refine RW.cond_t rfl (RW.sf 1 rfl (RW.ret ?_));cases h81;have h82:=elimL h70 (hE69 _ rfl);cases h82
          exact RRet.y
      ·intro y27 hC
       have h70:=elimR h70 hC;refine RW.sr 1 rfl ?_;obtain ⟨v32,e32,h83⟩:=A2 h70;refine rl.call rfl rfl rfl (A7.y (r':=.bool v32) (Ub e32) ?_);refine rl.f 1 rfl (RW.ret ?_);cases h83
       exact RRet.y
    ·have h84:=A4 h16 hb;refine RW.cond_t rfl (RW.sf 1 rfl (RW.ret ?_));cases h84
     exact RRet.y
  ·have h85:=A4 h1 hb;refine RW.cond_t rfl (RW.sf 1 rfl (RW.ret ?_));cases h85
   exact RRet.y
theorem Pg {x0:TLog} {x1:TItem} {x2:Int} {r:TLog×Bool} (hF:X6 x0 x1 x2=some r):B2 Tryz.prog 29 [.agg (A9 false x0),.agg (A8 false x1),.j x2] (.tup [.agg (A9 true r.1),.bool r.2]):=by
 refine B2.q Tq ?_;unfold X6 at hF;refine RW.sf 4 rfl (RW.sr 1 rfl ?_);obtain ⟨v1,e1,h1⟩:=A2 hF;refine rl.call rfl rfl rfl (A7.z (r':=.agg (B6 3 4 5 v1)) (H':=[some ⟨A9 false x0,0⟩,some ⟨A8 false x1,0⟩,some ⟨[.nils,.nils,.j 0,.nils,.j 0,.j 0,.j 0,.j 0],0⟩,some ⟨fl (encS true) v1.Disk.Sectors,1⟩,some ⟨fl (A1 true) v1.Disk.Cache,2⟩,some ⟨fl (A3 true) v1.Used,4⟩]) (L0 e1) ?_);refine rl.f 2 rfl (RW.seq (RW.seq ?_))
 refine RW.gh (Gh.absorbq (b:=6) (j:=0) (m:=3) rfl rfl rfl (by decide) (by decide) rfl (ekS.flen true _) (ekS.fown _)) ?_
 refine RW.gh (Gh.absorbq (b:=6) (j:=1) (m:=4) rfl rfl rfl (by decide) (by decide) rfl (B4.flen true _) (B4.fown _)) ?_
 refine RW.gh (Gh.absorbq (b:=6) (j:=3) (m:=5) rfl rfl rfl (by decide) (by decide) rfl (B3.flen true _) (B3.fown _)) ?_
 refine RW.reg (rl.run 1 rfl ?_);obtain ⟨v2,e2,h2⟩:=A2 h1;refine rl.call rfl rfl rfl (A7.y (r':=.bool v2) (Hw e2) ?_)
 cases hb:v2
 ·have h3:=A5 h2 hb;refine rl.f 17 rfl (RW.cond_t rfl (RW.sr 1 rfl ?_));obtain ⟨v3,e3,h4⟩:=A2 h3;refine rl.call rfl rfl rfl (A7.z (r':=.agg (B6 7 8 9 v3)) (H':=[some ⟨A9 false x0,0⟩,some ⟨A8 false x1,0⟩,some ⟨[.nils,.nils,.j 0,.nils,.j 0,.j 0,.j 0,.j 0],0⟩,none,none,none,some ⟨A9 true v1,0⟩,some ⟨fl (encS true) v3.Disk.Sectors,1⟩,some ⟨fl (A1 true) v3.Disk.Cache,2⟩,some ⟨fl (A3 true) v3.Used,4⟩]) (L0 e3) ?_);refine rl.f 2 rfl ?_;refine RW.kp [6,7] [(6,.ptr 2 0),(7,.bool false)] [some ⟨A9 false x0,0⟩,some ⟨A8 false x1,0⟩,some ⟨B6 7 8 9 v3,0⟩,none,none,none,some ⟨A9 true v1,0⟩,some ⟨fl (encS true) v3.Disk.Sectors,1⟩,some ⟨fl (A1 true) v3.Disk.Cache,2⟩,some ⟨fl (A3 true) v3.Used,4⟩] rfl rfl ?_;refine RW.ret ?_;cases h4
  exact RRet.y
 ·have h5:=A4 h2 hb;refine rl.run 3 rfl ?_
  refine rl.gen rfl rfl fun b hb=>?_
  cases b
  ·have h6:=A5 h5 hb;refine rl.run 4 rfl ?_;obtain ⟨v4,e4,h7⟩:=A2 h6;refine rl.call rfl rfl rfl (A7.y (r':=.bool v4) (Jl e4) ?_)
   cases hb:v4
   ·have h8:=A5 h7 hb;refine rl.f 8 rfl (RW.cond_t rfl (RW.sr 1 rfl ?_));obtain ⟨v5,e5,h9⟩:=A2 h8;refine rl.call rfl rfl rfl (A7.z (r':=.agg (B6 7 8 9 v5)) (H':=[some ⟨A9 false x0,0⟩,some ⟨A8 false x1,0⟩,some ⟨[.nils,.nils,.j 0,.nils,.j 0,.j 0,.j 0,.j 0],0⟩,none,none,none,some ⟨A9 true v1,0⟩,some ⟨fl (encS true) v5.Disk.Sectors,1⟩,some ⟨fl (A1 true) v5.Disk.Cache,2⟩,some ⟨fl (A3 true) v5.Used,4⟩]) (L0 e5) ?_);refine rl.f 2 rfl ?_;refine RW.kp [6,7] [(6,.ptr 2 0),(7,.bool false)] [some ⟨A9 false x0,0⟩,some ⟨A8 false x1,0⟩,some ⟨B6 7 8 9 v5,0⟩,none,none,none,some ⟨A9 true v1,0⟩,some ⟨fl (encS true) v5.Disk.Sectors,1⟩,some ⟨fl (A1 true) v5.Disk.Cache,2⟩,some ⟨fl (A3 true) v5.Used,4⟩] rfl rfl ?_;refine RW.ret ?_;cases h9
    exact RRet.y
   ·have h10:=A4 h7 hb;refine rl.run 5 rfl ?_;obtain ⟨v6,e6,h11⟩:=A2 h10;refine rl.call rfl rfl rfl (A7.eW (r0:=.bool v6.1) (H':=[some ⟨A9 false x0,0⟩,some ⟨A8 false x1,0⟩,some ⟨[.nils,.nils,.j 0,.nils,.j 0,.j 0,.j 0,.j 0],0⟩,none,none,none,some ⟨A9 true v6.2,0⟩]) [⟨A9 true v1,0⟩] [⟨A9 true v6.2,0⟩] [6] (Fk e6) ?_)
    cases hb:v6.1
    ·have h12:=A5 h11 hb;refine rl.f 2 rfl ?_
     refine RW.gh (Gh.expose (b:=6) (j:=0) rfl rfl (by decide) (ekS.fown _)) ?_
     refine RW.gh (Gh.expose (b:=6) (j:=1) rfl rfl (by decide) (B4.fown _)) ?_
     refine RW.gh (Gh.expose (b:=6) (j:=3) rfl rfl (by decide) (B3.fown _)) ?_
     refine RW.cond_t rfl (RW.sr 1 rfl ?_);obtain ⟨v7,e7,h13⟩:=A2 h12;refine rl.call rfl rfl rfl (A7.z (r':=.agg (B6 10 11 12 v7)) (H':=[some ⟨A9 false x0,0⟩,some ⟨A8 false x1,0⟩,some ⟨[.nils,.nils,.j 0,.nils,.j 0,.j 0,.j 0,.j 0],0⟩,none,none,none,some ⟨B6 7 8 9 v6.2,0⟩,some ⟨fl (encS true) v6.2.Disk.Sectors,1⟩,some ⟨fl (A1 true) v6.2.Disk.Cache,2⟩,some ⟨fl (A3 true) v6.2.Used,4⟩,some ⟨fl (encS true) v7.Disk.Sectors,1⟩,some ⟨fl (A1 true) v7.Disk.Cache,2⟩,some ⟨fl (A3 true) v7.Used,4⟩]) (L0 e7) ?_);refine rl.f 2 rfl ?_;refine RW.kp [6,7] [(6,.ptr 2 0),(7,.bool false)] [some ⟨A9 false x0,0⟩,some ⟨A8 false x1,0⟩,some ⟨B6 10 11 12 v7,0⟩,none,none,none,some ⟨B6 7 8 9 v6.2,0⟩,some ⟨fl (encS true) v6.2.Disk.Sectors,1⟩,some ⟨fl (A1 true) v6.2.Disk.Cache,2⟩,some ⟨fl (A3 true) v6.2.Used,4⟩,some ⟨fl (encS true) v7.Disk.Sectors,1⟩,some ⟨fl (A1 true) v7.Disk.Cache,2⟩,some ⟨fl (A3 true) v7.Used,4⟩] rfl rfl ?_;refine RW.ret ?_;cases h13
     exact RRet.y
    ·have h14:=A4 h11 hb;refine rl.f 2 rfl ?_
     refine RW.gh (Gh.expose (b:=6) (j:=0) rfl rfl (by decide) (ekS.fown _)) ?_
     refine RW.gh (Gh.expose (b:=6) (j:=1) rfl rfl (by decide) (B4.fown _)) ?_
     refine RW.gh (Gh.expose (b:=6) (j:=3) rfl rfl (by decide) (B3.fown _)) ?_
     refine RW.cond_f rfl (RW.skip (RW.sf 3 rfl ?_));refine RW.kp [6,7] [(6,.ptr 2 0),(7,.bool true)] [some ⟨A9 false x0,0⟩,some ⟨A8 false x1,0⟩,some ⟨B6 7 8 9 v6.2,0⟩,none,none,none,some ⟨B6 7 8 9 v6.2,0⟩,some ⟨fl (encS true) v6.2.Disk.Sectors,1⟩,some ⟨fl (A1 true) v6.2.Disk.Cache,2⟩,some ⟨fl (A3 true) v6.2.Used,4⟩] rfl rfl ?_;refine RW.ret ?_;cases h14
     exact RRet.y
  ·have h15:=A4 h5 hb;refine rl.f 13 rfl (RW.cond_t rfl (RW.sr 1 rfl ?_));obtain ⟨v8,e8,h16⟩:=A2 h15;refine rl.call rfl rfl rfl (A7.z (r':=.agg (B6 7 8 9 v8)) (H':=[some ⟨A9 false x0,0⟩,some ⟨A8 false x1,0⟩,some ⟨[.nils,.nils,.j 0,.nils,.j 0,.j 0,.j 0,.j 0],0⟩,none,none,none,some ⟨A9 true v1,0⟩,some ⟨fl (encS true) v8.Disk.Sectors,1⟩,some ⟨fl (A1 true) v8.Disk.Cache,2⟩,some ⟨fl (A3 true) v8.Used,4⟩]) (L0 e8) ?_);refine rl.f 2 rfl ?_;refine RW.kp [6,7] [(6,.ptr 2 0),(7,.bool false)] [some ⟨A9 false x0,0⟩,some ⟨A8 false x1,0⟩,some ⟨B6 7 8 9 v8,0⟩,none,none,none,some ⟨A9 true v1,0⟩,some ⟨fl (encS true) v8.Disk.Sectors,1⟩,some ⟨fl (A1 true) v8.Disk.Cache,2⟩,some ⟨fl (A3 true) v8.Used,4⟩] rfl rfl ?_;refine RW.ret ?_;cases h16
   exact RRet.y
theorem Lu {x0:List Int} {r:TLog×Int} (hF:V4 x0=some r):B2 Tryz.prog 30 [L_B x0] (.tup [.agg [.lst true 1 (fl (encS true) r.1.Disk.Sectors) r.1.Disk.Sectors.length,.lst true 2 (fl (A1 true) r.1.Disk.Cache) r.1.Disk.Cache.length,.j r.1.Segs,.lst false 4 (fl (A3 true) r.1.Used) r.1.Used.length,.j r.1.NextGen,.j r.1.NextSeq,.j r.1.Stamp,.j r.1.NextValid],.j r.2]):=by
 refine B2.q Py ?_;unfold V4 at hF;refine RW.sf 2 rfl ?_
 refine RW.pin 0 rfl fun B1 o1=>?_
 refine RW.sr 1 rfl ?_;obtain ⟨v2,e2,h1⟩:=A2 hF;refine rl.call rfl rfl rfl (A7.eN (r0:=.ptr 1 0) (H':=[some ⟨[.nils,.nils,.j 0,.nils,.j 0,.j 0,.j 0,.j 0],0⟩,some ⟨[pvB B1 o1 x0,.j v2.mI,.j v2.mH],0⟩]) [] [] [⟨[pvB B1 o1 x0,.j v2.mI,.j v2.mH],0⟩] [] [pvB B1 o1 x0] (Fa e2) ?_);refine rl.f 1 rfl (RW.sr 2 rfl ?_);obtain ⟨v3,e3,h2⟩:=A2 h1;refine rl.call rfl rfl rfl (A7.eN (r0:=.j v3.1) (H':=[some ⟨[.nils,.nils,.j 0,.nils,.j 0,.j 0,.j 0,.j 0],0⟩,some ⟨[pvB B1 o1 x0,.j v3.2.mI,.j v3.2.mH],0⟩,some ⟨fl (encI true) ([0,1,2,5,(-1)]:List Int),1⟩]) [⟨[pvB B1 o1 x0,.j v2.mI,.j v2.mH],0⟩,⟨fl (encI true) ([0,1,2,5,(-1)]:List Int),1⟩] [⟨[pvB B1 o1 x0,.j v3.2.mI,.j v3.2.mH],0⟩,⟨fl (encI true) ([0,1,2,5,(-1)]:List Int),1⟩] [] [1,2] [pvB B1 o1 x0] (Bu e3) ?_);refine rl.f 1 rfl (RW.sr 1 rfl ?_);obtain ⟨v4,e4,h3⟩:=A2 h2;refine rl.call rfl rfl rfl (A7.eN (r0:=.agg [.sl 3 0 v4.1.Disk.Sectors.length,.sl 4 0 v4.1.Disk.Cache.length,.j v4.1.Segs,.sl 5 ((v4.2.2.2.1:Int).toNat*4) v4.1.Used.length,.j v4.1.NextGen,.j v4.1.NextSeq,.j v4.1.Stamp,.j v4.1.NextValid]) (H':=[some ⟨[.nils,.nils,.j 0,.nils,.j 0,.j 0,.j 0,.j 0],0⟩,some ⟨[pvB B1 o1 x0,.j v4.2.1.mI,.j v4.2.1.mH],0⟩,some ⟨fl (encI true) ([0,1,2,5,(-1)]:List Int),1⟩,some ⟨fl (encS true) v4.1.Disk.Sectors,1⟩,some ⟨fl (A1 true) v4.1.Disk.Cache,2⟩,some ⟨fl (A3 true) v4.2.2.1,4⟩]) [⟨[pvB B1 o1 x0,.j v3.2.mI,.j v3.2.mH],0⟩] [⟨[pvB B1 o1 x0,.j v4.2.1.mI,.j v4.2.1.mH],0⟩] [⟨fl (encS true) v4.1.Disk.Sectors,1⟩,⟨fl (A1 true) v4.1.Disk.Cache,2⟩,⟨fl (A3 true) v4.2.2.1,4⟩] [1] [pvB B1 o1 x0] (Jf (A3t e4)) ?_);refine rl.f 3 rfl ?_;refine RW.kp [2,3] [(2,.ptr 0 0),(3,.j v3.1)] [some ⟨[.sl 3 0 v4.1.Disk.Sectors.length,.sl 4 0 v4.1.Disk.Cache.length,.j v4.1.Segs,.sl 5 ((v4.2.2.2.1:Int).toNat*4) v4.1.Used.length,.j v4.1.NextGen,.j v4.1.NextSeq,.j v4.1.Stamp,.j v4.1.NextValid],0⟩,some ⟨[pvB B1 o1 x0,.j v4.2.1.mI,.j v4.2.1.mH],0⟩,some ⟨fl (encI true) ([0,1,2,5,(-1)]:List Int),1⟩,some ⟨fl (encS true) v4.1.Disk.Sectors,1⟩,some ⟨fl (A1 true) v4.1.Disk.Cache,2⟩,some ⟨fl (A3 true) v4.2.2.1,4⟩] rfl rfl ?_
 refine RW.ret ?_;cases h3
 exact RRet.m rfl (OutT.tup (.cons (OutL.agg (.cons (OutR.ownq ekS rfl rfl) rfl (.cons (OutR.ownq B4 rfl rfl) rfl (.i (.cons (OutR.viewp B3 rfl (Yy (p:=fun r:TLog×TL01Cur×List TSeg×Int×Int=>sub? r.2.2.1 r.2.2.2.1 r.2.2.2.2=some r.1.Used) e4)) rfl (.i (.i (.i (.i .nil))))))))) (.cons .int .nil)))
theorem Tw {x0:TLog} {x1:Int} {r:TLog×Bool} (hF:Cu x0 x1=some r):B2 Tryz.prog 31 [.agg (A9 false x0),.j x1] (.tup [.agg (A9 true r.1),.bool r.2]):=by
 refine B2.q Yg ?_;unfold Cu at hF;refine RW.sf 3 rfl (RW.sr 1 rfl ?_);obtain ⟨v1,e1,h1⟩:=A2 hF;refine rl.call rfl rfl rfl (A7.z (r':=.agg (B6 2 3 4 v1)) (H':=[some ⟨A9 false x0,0⟩,some ⟨[.nils,.nils,.j 0,.nils,.j 0,.j 0,.j 0,.j 0],0⟩,some ⟨fl (encS true) v1.Disk.Sectors,1⟩,some ⟨fl (A1 true) v1.Disk.Cache,2⟩,some ⟨fl (A3 true) v1.Used,4⟩]) (L0 e1) ?_);refine rl.f 2 rfl (RW.seq (RW.seq ?_))
 refine RW.gh (Gh.absorbq (b:=5) (j:=0) (m:=2) rfl rfl rfl (by decide) (by decide) rfl (ekS.flen true _) (ekS.fown _)) ?_
 refine RW.gh (Gh.absorbq (b:=5) (j:=1) (m:=3) rfl rfl rfl (by decide) (by decide) rfl (B4.flen true _) (B4.fown _)) ?_
 refine RW.gh (Gh.absorbq (b:=5) (j:=3) (m:=4) rfl rfl rfl (by decide) (by decide) rfl (B3.flen true _) (B3.fown _)) ?_
 refine RW.reg (rl.run 1 rfl ?_);obtain ⟨v2,e2,h2⟩:=A2 h1;refine rl.call rfl rfl rfl (A7.y (r':=.bool v2) (Hw e2) ?_)
 cases hb:v2
 ·have h3:=A5 h2 hb;refine rl.f 6 rfl (RW.cond_t rfl (RW.sr 1 rfl ?_));obtain ⟨v3,e3,h4⟩:=A2 h3;refine rl.call rfl rfl rfl (A7.z (r':=.agg (B6 6 7 8 v3)) (H':=[some ⟨A9 false x0,0⟩,some ⟨[.nils,.nils,.j 0,.nils,.j 0,.j 0,.j 0,.j 0],0⟩,none,none,none,some ⟨A9 true v1,0⟩,some ⟨fl (encS true) v3.Disk.Sectors,1⟩,some ⟨fl (A1 true) v3.Disk.Cache,2⟩,some ⟨fl (A3 true) v3.Used,4⟩]) (L0 e3) ?_);refine rl.f 2 rfl ?_;refine RW.kp [4,5] [(4,.ptr 1 0),(5,.bool false)] [some ⟨A9 false x0,0⟩,some ⟨B6 6 7 8 v3,0⟩,none,none,none,some ⟨A9 true v1,0⟩,some ⟨fl (encS true) v3.Disk.Sectors,1⟩,some ⟨fl (A1 true) v3.Disk.Cache,2⟩,some ⟨fl (A3 true) v3.Used,4⟩] rfl rfl ?_;refine RW.ret ?_;cases h4
  exact RRet.y
 ·have h5:=A4 h2 hb;refine rl.run 3 rfl ?_;obtain ⟨v4,e4,h6⟩:=A2 h5;refine rl.call rfl rfl rfl (A7.eW (r0:=.bool v4.1) (H':=[some ⟨A9 false x0,0⟩,some ⟨[.nils,.nils,.j 0,.nils,.j 0,.j 0,.j 0,.j 0],0⟩,none,none,none,some ⟨A9 true v4.2,0⟩]) [⟨A9 true v1,0⟩] [⟨A9 true v4.2,0⟩] [5] (Gr e4) ?_)
  cases hb:v4.1
  ·have h7:=A5 h6 hb;refine rl.f 2 rfl ?_
   refine RW.gh (Gh.expose (b:=5) (j:=0) rfl rfl (by decide) (ekS.fown _)) ?_
   refine RW.gh (Gh.expose (b:=5) (j:=1) rfl rfl (by decide) (B4.fown _)) ?_
   refine RW.gh (Gh.expose (b:=5) (j:=3) rfl rfl (by decide) (B3.fown _)) ?_
   refine RW.cond_t rfl (RW.sr 1 rfl ?_);obtain ⟨v5,e5,h8⟩:=A2 h7;refine rl.call rfl rfl rfl (A7.z (r':=.agg (B6 9 10 11 v5)) (H':=[some ⟨A9 false x0,0⟩,some ⟨[.nils,.nils,.j 0,.nils,.j 0,.j 0,.j 0,.j 0],0⟩,none,none,none,some ⟨B6 6 7 8 v4.2,0⟩,some ⟨fl (encS true) v4.2.Disk.Sectors,1⟩,some ⟨fl (A1 true) v4.2.Disk.Cache,2⟩,some ⟨fl (A3 true) v4.2.Used,4⟩,some ⟨fl (encS true) v5.Disk.Sectors,1⟩,some ⟨fl (A1 true) v5.Disk.Cache,2⟩,some ⟨fl (A3 true) v5.Used,4⟩]) (L0 e5) ?_);refine rl.f 2 rfl ?_;refine RW.kp [4,5] [(4,.ptr 1 0),(5,.bool false)] [some ⟨A9 false x0,0⟩,some ⟨B6 9 10 11 v5,0⟩,none,none,none,some ⟨B6 6 7 8 v4.2,0⟩,some ⟨fl (encS true) v4.2.Disk.Sectors,1⟩,some ⟨fl (A1 true) v4.2.Disk.Cache,2⟩,some ⟨fl (A3 true) v4.2.Used,4⟩,some ⟨fl (encS true) v5.Disk.Sectors,1⟩,some ⟨fl (A1 true) v5.Disk.Cache,2⟩,some ⟨fl (A3 true) v5.Used,4⟩] rfl rfl ?_;refine RW.ret ?_;cases h8
   exact RRet.y
  ·have h9:=A4 h6 hb;refine rl.f 2 rfl ?_
   refine RW.gh (Gh.expose (b:=5) (j:=0) rfl rfl (by decide) (ekS.fown _)) ?_
   refine RW.gh (Gh.expose (b:=5) (j:=1) rfl rfl (by decide) (B4.fown _)) ?_
   refine RW.gh (Gh.expose (b:=5) (j:=3) rfl rfl (by decide) (B3.fown _)) ?_
   refine RW.cond_f rfl (RW.skip (RW.sf 3 rfl ?_));refine RW.kp [4,5] [(4,.ptr 1 0),(5,.bool true)] [some ⟨A9 false x0,0⟩,some ⟨B6 6 7 8 v4.2,0⟩,none,none,none,some ⟨B6 6 7 8 v4.2,0⟩,some ⟨fl (encS true) v4.2.Disk.Sectors,1⟩,some ⟨fl (A1 true) v4.2.Disk.Cache,2⟩,some ⟨fl (A3 true) v4.2.Used,4⟩] rfl rfl ?_;refine RW.ret ?_;cases h9
   exact RRet.y
theorem Td {x0:List Int} {x1:List Int} {r:Bool} (hF:Bn x0 x1=some r):B2 Tryz.prog 33 [L_I x0,L_I x1] (.bool r):=by
 refine B2.q Wu ?_;unfold Bn at hF;refine RW.sf 1 rfl (RW.seq (RW.sr 4 rfl ?_))
 refine rl.gen rfl rfl fun b hb=>?_
 cases b
 ·have h1:=A5 hF hb;refine rl.done (RW.cond_f rfl (RW.skip (RW.seq (RW.sf 1 rfl ?_))));obtain ⟨y5,ey5,h3⟩:=A2 h1
  refine RW.cutq (σ:=Unit) (fun y2=>[]) (fun y2=>[]) (fun y=>y5=.inr y) gg ?_ ?_
  ·refine RW.blk ?_
   refine RW.iter (σ:=Int) ey5 (fun s1=>[(0,L_I x0),(1,L_I x1),(5,.j s1)]) (fun s1=>[]) (Gh.y0 []) (fun s1 B o hS2 hB2 hE2=>?_)
   unfold Bz at hS2;refine RW.seq (RW.sr 3 rfl ?_)
   refine rl.gen rfl rfl fun b hb=>?_
   cases b
   ·have h4:=A5 hS2 hb;refine rl.done (RW.cond_f rfl (RW.exit (C9 ?_)));cases h4
    exact ⟨_,(hE2 _ rfl).symm,(Gh.y0 [])⟩
   ·have h5:=A4 hS2 hb;refine rl.done (RW.cond_t rfl (RW.skip (RW.seq (RW.blk (RW.sdrw (A0.op rfl rfl (A0.op rfl rfl ?_)))))));obtain ⟨v3,e3,h6⟩:=A2 h5;refine A0.op rfl (C1 (enc:=encI) (o:=false) rfl rfl rfl e3) ?_;refine A0.op rfl (E7 (off':=0) ekI rfl e3 rfl rfl rfl) ?_;refine A0.op rfl rfl (A0.op rfl rfl ?_);obtain ⟨v4,e4,h7⟩:=A2 h6;refine A0.op rfl (C1 (enc:=encI) (o:=false) rfl rfl rfl e4) ?_;refine A0.op rfl (E7 (off':=0) ekI rfl e4 rfl rfl rfl) ?_
    refine A0.gen rfl rfl fun b hb=>?_
    cases b
    ·have h8:=A5 h7 hb;refine A0.done ?_;refine RW.kp [0,1,5,25] [(0,L_I x0),(1,L_I x1),(5,.j s1),(25,.bool false)] [] rfl rfl ?_;refine RW.cond_f rfl (RW.skip (RW.reg (rl.f 3 rfl ?_)));cases h8
     exact hB2 _ rfl _ _ (Gh.y0 [])
    ·have h9:=A4 h7 hb;refine A0.done ?_;refine RW.kp [0,1,5,25] [(0,L_I x0),(1,L_I x1),(5,.j s1),(25,.bool true)] [] rfl rfl ?_;refine RW.cond_t rfl (RW.sf 1 rfl (RW.ret ?_));cases h9;have h10:=elimL h3 (hE2 _ rfl);cases h10
     exact RRet.y
  ·intro y2 hC
   have h3:=elimR h3 hC;refine RW.sf 1 rfl (RW.ret ?_);cases h3
   exact RRet.y
 ·have h11:=A4 hF hb;refine rl.done (RW.cond_t rfl (RW.sf 1 rfl (RW.ret ?_)));cases h11
  exact RRet.y
theorem A3f {x0:List Int} {r:Bool} (hF:Ei x0=some r):B2 Tryz.prog 8 [L_B x0] (.bool r):=by
 refine B2.q A5l ?_;unfold Ei at hF;refine RW.sf 1 rfl (RW.sf 4 rfl (RW.ret ?_));cases hF
 exact RRet.y
theorem Ul {x0:List Int} {r:TLog} (hF:Co x0=some r):B2 Tryz.prog 9 [L_B x0] (.agg (A9 true r)):=by
 refine B2.q Zd ?_;unfold Co at hF;refine RW.sf 1 rfl ?_
 refine RW.pin 0 rfl fun B1 o1=>?_
 refine RW.sr 1 rfl ?_;obtain ⟨v2,e2,h1⟩:=A2 hF;refine rl.call rfl rfl rfl (A7.eN (r0:=.ptr 1 0) (H':=[some ⟨[.nils,.nils,.j 0,.nils,.j 0,.j 0,.j 0,.j 0],0⟩,some ⟨[pvB B1 o1 x0,.j v2.mI,.j v2.mH],0⟩]) [] [] [⟨[pvB B1 o1 x0,.j v2.mI,.j v2.mH],0⟩] [] [pvB B1 o1 x0] (Fa e2) ?_);obtain ⟨v3,e3,h2⟩:=A2 h1;refine rl.call rfl rfl rfl (A7.eN (r0:=.agg (B6 2 3 4 v3.1)) (H':=[some ⟨[.nils,.nils,.j 0,.nils,.j 0,.j 0,.j 0,.j 0],0⟩,some ⟨[pvB B1 o1 x0,.j v3.2.mI,.j v3.2.mH],0⟩,some ⟨fl (encS true) v3.1.Disk.Sectors,1⟩,some ⟨fl (A1 true) v3.1.Disk.Cache,2⟩,some ⟨fl (A3 true) v3.1.Used,4⟩]) [⟨[pvB B1 o1 x0,.j v2.mI,.j v2.mH],0⟩] [⟨[pvB B1 o1 x0,.j v3.2.mI,.j v3.2.mH],0⟩] [⟨fl (encS true) v3.1.Disk.Sectors,1⟩,⟨fl (A1 true) v3.1.Disk.Cache,2⟩,⟨fl (A3 true) v3.1.Used,4⟩] [1] [pvB B1 o1 x0] (Jg e3) ?_);refine rl.f 1 rfl (RW.ret ?_);cases h2
 exact RRet.y
theorem Pb {x0:List Int} {r:Bool} (hF:Bx x0=some r):B2 Tryz.prog 6 [L_B x0] (.bool r):=by
 refine B2.q Rs ?_;unfold Bx at hF;refine RW.sf 1 rfl (RW.seq (RW.sr 1 rfl ?_));obtain ⟨v1,e1,h1⟩:=A2 hF;refine rl.call rfl rfl rfl (A7.y (r':=.bool v1) (A3f e1) ?_)
 cases hb:v1
 ·have h2:=A5 h1 hb;refine rl.done (RW.cond_f rfl (RW.skip (RW.sr 1 rfl ?_)));obtain ⟨v2,e2,h3⟩:=A2 h2;refine rl.call rfl rfl rfl (A7.y (r':=.tup [.agg (A9 false v2.1),.agg (A8 false v2.2.1),.j v2.2.2]) (Jm e2) ?_);refine rl.f 9 rfl (RW.sr 3 rfl ?_);obtain ⟨v3,e3,h4⟩:=A2 h3;refine rl.call rfl rfl rfl (A7.y (r':=.tup [.agg (A9 false v3.1),.bool v3.2]) (Mz e3) ?_);refine rl.f 6 rfl ?_;refine RW.kp [0,3,4,5,6,7] [(0,L_B x0),(3,.ptr 0 0),(4,.ptr 1 0),(5,.j v2.2.2),(6,.ptr 2 0),(7,.bool v3.2)] [some ⟨A9 false v2.1,0⟩,some ⟨A8 false v2.2.1,0⟩,some ⟨A9 false v3.1,0⟩] rfl rfl ?_;refine RW.sr 3 rfl ?_;obtain ⟨v4,e4,h5⟩:=A2 h4;refine rl.call rfl rfl rfl (A7.y (r':=.tup [.agg (A9 false v4.1),.bool v4.2]) (Pg e4) ?_);refine rl.f 6 rfl (RW.sr 1 rfl ?_);obtain ⟨v5,e5,h6⟩:=A2 h5;refine rl.call rfl rfl rfl (A7.y (r':=.tup [.agg (A9 false v5.1),.j v5.2]) (Lu e5) ?_);refine rl.f 6 rfl ?_;refine RW.kp [0,3,6,7,8,9,10,11] [(0,L_B x0),(3,.ptr 0 0),(6,.ptr 2 0),(7,.bool v3.2),(8,.ptr 3 0),(9,.bool v4.2),(10,.ptr 4 0),(11,.j v5.2)] [some ⟨A9 false v2.1,0⟩,some ⟨A8 false v2.2.1,0⟩,some ⟨A9 false v3.1,0⟩,some ⟨A9 false v4.1,0⟩,some ⟨A9 false v5.1,0⟩] rfl rfl ?_;refine RW.sr 2 rfl ?_;obtain ⟨v6,e6,h7⟩:=A2 h6;refine rl.call rfl rfl rfl (A7.y (r':=.tup [.agg (A9 false v6.1),.bool v6.2]) (Uw e6) ?_);refine rl.f 6 rfl (RW.sr 2 rfl ?_);obtain ⟨v7,e7,h8⟩:=A2 h7;refine rl.call rfl rfl rfl (A7.y (r':=.tup [.agg (A9 false v7.1),.bool v7.2]) (Tw e7) ?_);refine rl.f 6 rfl ?_;refine RW.kp [0,3,6,7,8,9,12,13,14,15] [(0,L_B x0),(3,.ptr 0 0),(6,.ptr 2 0),(7,.bool v3.2),(8,.ptr 3 0),(9,.bool v4.2),(12,.ptr 5 0),(13,.bool v6.2),(14,.ptr 6 0),(15,.bool v7.2)] [some ⟨A9 false v2.1,0⟩,some ⟨A8 false v2.2.1,0⟩,some ⟨A9 false v3.1,0⟩,some ⟨A9 false v4.1,0⟩,some ⟨A9 false v5.1,0⟩,some ⟨A9 false v6.1,0⟩,some ⟨A9 false v7.1,0⟩] rfl rfl ?_;refine RW.sr 1 rfl ?_;obtain ⟨v8,e8,h9⟩:=A2 h8;refine rl.call rfl rfl rfl (A7.y (r':=.agg (A9 false v8)) (Ul e8) ?_);refine rl.f 2 rfl (RW.seq ?_);obtain ⟨y9,ey9,h10⟩:=A2 h9
  refine RW.cutq (σ:=Bool) (fun y9=>[(2,.bool y9)]) (fun y9=>[]) (fun y=>y9=y) gg ?_ ?_
  ·refine RW.drw ?_;refine A0.op rfl rfl (A0.op rfl rfl ?_)
   refine A0.gen rfl rfl fun b hb=>?_
   cases b
   ·have h11:=A5 ey9 hb;refine A0.op rfl rfl (A0.off rfl (A0.off rfl (A0.off rfl (A0.op rfl rfl (A0.op rfl rfl (A0.off rfl (A0.off rfl (A0.off rfl (A0.op rfl rfl (A0.op rfl rfl (A0.off rfl ?_)))))))))));refine A0.off rfl (A0.off rfl (A0.op rfl rfl (A0.op rfl rfl (A0.off rfl (A0.off rfl (A0.off rfl (A0.off rfl (A0.off rfl (A0.op rfl rfl (A0.op rfl rfl (A0.off rfl ?_)))))))))));refine A0.off rfl (A0.off rfl (A0.off rfl (A0.off rfl (A0.op rfl rfl (A0.op rfl rfl (A0.off rfl (A0.off rfl (A0.off rfl (A0.off rfl (A0.off rfl (A0.op rfl rfl ?_)))))))))));refine A0.op rfl rfl (A0.off rfl (A0.off rfl (A0.op rfl rfl (A0.op rfl rfl (A0.done ?_)))));cases h11
    exact ⟨_,rfl,(Gh.y0 [])⟩
   ·have h12:=A4 ey9 hb;refine A0.op rfl rfl (A0.op rfl rfl (A0.op rfl rfl ?_));obtain ⟨v10,e10,h13⟩:=A2 h12;refine A0.call rfl rfl rfl (A7.y (r':=.bool v10) (Jp e10) ⟨rfl,?_⟩)
    cases hb:v10
    ·have h14:=A5 h13 hb;refine A0.op rfl rfl (A0.op rfl rfl (A0.off rfl (A0.off rfl (A0.off rfl (A0.op rfl rfl (A0.op rfl rfl (A0.off rfl (A0.off rfl (A0.off rfl (A0.op rfl rfl (A0.op rfl rfl ?_)))))))))));refine A0.off rfl (A0.off rfl (A0.off rfl (A0.off rfl (A0.off rfl (A0.op rfl rfl (A0.op rfl rfl (A0.off rfl (A0.off rfl (A0.off rfl (A0.off rfl (A0.off rfl ?_)))))))))));refine A0.op rfl rfl (A0.op rfl rfl (A0.off rfl (A0.off rfl (A0.off rfl (A0.off rfl (A0.off rfl (A0.op rfl rfl (A0.op rfl rfl (A0.off rfl (A0.off rfl (A0.op rfl rfl ?_)))))))))));refine A0.op rfl rfl (A0.done ?_);cases h14
     exact ⟨_,rfl,(Gh.y0 [])⟩
    ·have h15:=A4 h13 hb;refine A0.op rfl rfl (A0.op rfl rfl (A0.op rfl rfl (A0.op rfl rfl ?_)))
     refine A0.gen rfl rfl fun b hb=>?_
     cases b
     ·have h16:=A5 h15 hb;refine A0.op rfl rfl (A0.op rfl rfl (A0.off rfl (A0.off rfl (A0.off rfl (A0.op rfl rfl (A0.op rfl rfl (A0.off rfl (A0.off rfl (A0.off rfl (A0.off rfl (A0.off rfl ?_)))))))))));refine A0.op rfl rfl (A0.op rfl rfl (A0.off rfl (A0.off rfl (A0.off rfl (A0.off rfl (A0.off rfl (A0.op rfl rfl (A0.op rfl rfl (A0.off rfl (A0.off rfl (A0.off rfl ?_)))))))))));refine A0.off rfl (A0.off rfl (A0.op rfl rfl (A0.op rfl rfl (A0.off rfl (A0.off rfl (A0.op rfl rfl (A0.op rfl rfl (A0.done ?_))))))));cases h16
      exact ⟨_,rfl,(Gh.y0 [])⟩
     ·have h17:=A4 h15 hb;refine A0.op rfl rfl (A0.op rfl rfl (A0.op rfl rfl (A0.op rfl rfl ?_)));obtain ⟨v11,e11,h18⟩:=A2 h17;refine A0.call rfl rfl rfl (A7.y (r':=.bool v11) (Jp e11) ⟨rfl,?_⟩)
      cases hb:v11
      ·have h19:=A5 h18 hb;refine A0.op rfl rfl (A0.op rfl rfl (A0.off rfl (A0.off rfl (A0.off rfl (A0.off rfl (A0.off rfl (A0.op rfl rfl (A0.op rfl rfl (A0.off rfl (A0.off rfl (A0.off rfl ?_)))))))))));refine A0.off rfl (A0.off rfl (A0.op rfl rfl (A0.op rfl rfl (A0.off rfl (A0.off rfl (A0.off rfl (A0.off rfl (A0.off rfl (A0.op rfl rfl (A0.op rfl rfl (A0.off rfl ?_)))))))))));refine A0.off rfl (A0.op rfl rfl (A0.op rfl rfl (A0.done ?_)));cases h19
       exact ⟨_,rfl,(Gh.y0 [])⟩
      ·have h20:=A4 h18 hb;refine A0.op rfl rfl (A0.op rfl rfl (A0.op rfl rfl ?_));obtain ⟨v12,e12,h21⟩:=A2 h20;refine A0.call rfl rfl rfl (A7.y (r':=.bool v12) (Ff e12) ⟨rfl,?_⟩);refine A0.op rfl rfl ?_;obtain ⟨v13,e13,h22⟩:=A2 h21;refine A0.call rfl rfl rfl (A7.y (r':=.bool v13) (Hw e13) ⟨rfl,?_⟩)
       refine A0.gen rfl rfl fun b hb=>?_
       cases b
       ·have h23:=A5 h22 hb;refine A0.op rfl rfl (A0.op rfl rfl (A0.off rfl (A0.off rfl (A0.off rfl (A0.off rfl (A0.off rfl (A0.op rfl rfl (A0.op rfl rfl (A0.off rfl (A0.off rfl (A0.off rfl ?_)))))))))));refine A0.off rfl (A0.off rfl (A0.op rfl rfl (A0.op rfl rfl (A0.off rfl (A0.off rfl (A0.op rfl rfl (A0.op rfl rfl (A0.done ?_))))))));cases h23
        exact ⟨_,rfl,(Gh.y0 [])⟩
       ·have h24:=A4 h22 hb;refine A0.op rfl rfl (A0.op rfl rfl (A0.op rfl rfl ?_));obtain ⟨v14,e14,h25⟩:=A2 h24;refine A0.call rfl rfl rfl (A7.y (r':=L_I v14) (Jc e14) ⟨rfl,?_⟩);refine A0.op rfl rfl ?_;obtain ⟨v15,e15,h26⟩:=A2 h25;refine A0.call rfl rfl rfl (A7.y (r':=L_I v15) (Eu e15) ⟨rfl,?_⟩);obtain ⟨v16,e16,h27⟩:=A2 h26;refine A0.call rfl rfl rfl (A7.y (r':=.bool v16) (Td e16) ⟨rfl,?_⟩)
        cases hb:v16
        ·have h28:=A5 h27 hb;refine A0.op rfl rfl (A0.op rfl rfl (A0.off rfl (A0.off rfl (A0.off rfl (A0.off rfl (A0.off rfl (A0.op rfl rfl (A0.op rfl rfl (A0.off rfl (A0.off rfl (A0.op rfl rfl ?_)))))))))));refine A0.op rfl rfl (A0.done ?_);cases h28
         exact ⟨_,rfl,(Gh.y0 [])⟩
        ·have h29:=A4 h27 hb;refine A0.op rfl rfl (A0.op rfl rfl (A0.op rfl rfl ?_));obtain ⟨v17,e17,h30⟩:=A2 h29;refine A0.call rfl rfl rfl (A7.y (r':=E8 v17) (Fm e17) ⟨rfl,?_⟩);refine A0.op rfl rfl ?_;obtain ⟨v18,e18,h31⟩:=A2 h30;refine A0.call rfl rfl rfl (A7.y (r':=E8 v18) (Fx e18) ⟨rfl,?_⟩);obtain ⟨v19,e19,h32⟩:=A2 h31;refine A0.call rfl rfl rfl (A7.y (r':=.bool v19) (Qc e19) ⟨rfl,?_⟩)
         cases hb:v19
         ·have h33:=A5 h32 hb;refine A0.op rfl rfl (A0.op rfl rfl (A0.off rfl (A0.off rfl (A0.op rfl rfl (A0.op rfl rfl (A0.done ?_))))));cases h33
          exact ⟨_,rfl,(Gh.y0 [])⟩
         ·have h34:=A4 h32 hb;refine A0.op rfl rfl (A0.op rfl rfl (A0.op rfl rfl ?_));obtain ⟨v20,e20,h35⟩:=A2 h34;refine A0.call rfl rfl rfl (A7.y (r':=.bool v20) (Ff e20) ⟨rfl,?_⟩);refine A0.op rfl rfl (A0.op rfl rfl (A0.done ?_));cases h35
          exact ⟨_,rfl,(Gh.y0 [])⟩
  ·intro y hC
   subst hC;refine RW.ret ?_;cases h10
   exact RRet.y
 ·have h36:=A4 h1 hb;refine rl.done (RW.cond_t rfl (RW.sf 1 rfl (RW.ret ?_)));cases h36
  exact RRet.y
end Go.Proofs.YtldndhdohlfpgaaGreat.V
