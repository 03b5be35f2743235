/- What a call comes to. -/
import Derived.Test.YtldndhdohlfpgaaXT
import Derived.Test.YtldndhdohlfpgaaXU
namespace Go.Proofs.Ytldndhdohlfpgaa.V
open Go Go.Proofs Go.RowKit
set_option maxRecDepth 100000
abbrev Zo (n4:Nat) (x:TBox):List AV:=[.j x.Valid,.str x.User,.str x.Name,.j x.Next,.sl n4 0 x.Mails.length]
theorem SubL.i {ns:List Nat} {a:Asg} {x:Nat} {r:Asg} {k:IntKind} {n:Int} (h:get a x=some (.int k n)) (t:SubL ns a r):SubL ns a ((x,.int k n)::r):=.cons h (.dat .int) t
theorem OutL.i {H:AH} {k:IntKind} {n:Int} {vs rs:List AV} {d:List Nat} (t:OutL H vs rs d):OutL H (.int k n::vs) (.int k n::rs) d:=.cons .int rfl t
theorem rl.f {P:Program} {nw:Nat} {l:List RO} {a a':Asg} {H H':AH} {K:Asg→AH→Prop} (n:Nat) (h:rrun nw n l a H=some ([],a',H')) (k:K a' H'):rl P nw l K a H:=rl.run n h (rl.done k)
theorem RW.sf {P:Program} {N nw:Nat} {H0:AH} {l:List RO} {a a':Asg} {H H':AH} {y:RC} {Q:Go.Exit→Asg→AH→Prop} (n:Nat) (h:rrun nw n l a H=some ([],a',H')) (k:RW P N nw H0 y Q a' H'):RW P N nw H0 (.seq (.reg l) y) Q a H:=RW.sreg (rl.run n h (rl.done k))
theorem RRet.m {rr:List RR} {r v:AV} {ids:List Nat} {a:Asg} {H:AH} (hv:rares a H rr=some v) (ho:OutR H v r ids) (hn:ids.Nodup:=by first | decide | simp):RRet rr r .ret a H:=RRet.mk hv ho hn
theorem gg {P:Program} {N nw:Nat} {H0:AH} {rc:RC} {Q:Go.Exit→Asg→AH→Prop} (a:Asg) (H:AH) (a':Asg) (H':AH) (g:Gh nw N H0 a H a' H') (h:RW P N nw H0 rc Q a' H'):RW P N nw H0 rc Q a H:=RW.gh g h
theorem RW.sr {P:Program} {N nw:Nat} {H0:AH} {l l':List RO} {a a':Asg} {H H':AH} {y:RC} {Q:Go.Exit→Asg→AH→Prop} (n:Nat) (h:rrun nw n l a H=some (l',a',H')) (k:rl P nw l' (fun a H=>RW P N nw H0 y Q a H) a' H'):RW P N nw H0 (.seq (.reg l) y) Q a H:=RW.sreg (rl.run n h k)
theorem RnC.i {ns:List Nat} {k:IntKind} {n:Int} {vs us:List AV} (t:RnC ns vs us):RnC ns (.int k n::vs) (.int k n::us):=.keep .int t
theorem RW.ka {P:Program} {N nw:Nat} {H0:AH} {Q:Go.Exit→Asg→AH→Prop} {a:Asg} {H:AH} {rc:RC} (ts:List Nat) (a':Asg) (h:keepA ts a=some a') (hk:RW P N nw H0 rc Q a' H):RW P N nw H0 rc Q a H:=RW.kp ts a' H h rfl hk
theorem V8 {x0:Int} {x1:Int} {x2:Int} {r:Bool} (hF:Q9 x0 x1 x2=some r):A8 Try.prog 59 [.j x0,.j x1,.j x2] (.bool r):=by
 refine A8.q Vt ?_;unfold Q9 at hF;refine RW.sf 1 rfl (RW.sr 2 rfl ?_)
 refine rl.gen rfl rfl fun b hb=>?_
 cases b
 ·have h1:=A4 hF hb;refine rl.f 6 rfl ?_;refine RW.ka [6] [(6,.bool false)] rfl ?_;refine RW.ret ?_;cases h1
  exact RRet.y
 ·have h2:=A3 hF hb;refine rl.f 6 rfl ?_;refine RW.ka [6] [(6,.bool (decide (x0≤x2)))] rfl ?_;refine RW.ret ?_;cases h2
  exact RRet.y
theorem Dh {x0:List UInt8} {r:Bool} (hF:U6 x0=some r):A8 Try.prog 148 [.str x0] (.bool r):=by
 refine A8.q Pe ?_;unfold U6 at hF;refine RW.sf 1 rfl (RW.seq (RW.sr 2 rfl ?_));obtain ⟨v1,e1,h1⟩:=A2 hF;refine rl.call rfl rfl rfl (A6.y (r':=.bool v1) (V8 e1) ?_)
 cases hb:v1
 ·have h2:=A4 h1 hb;refine rl.f 1 rfl (RW.cond_t rfl (RW.sf 1 rfl (RW.ret ?_)));cases h2
  exact RRet.y
 ·have h3:=A3 h1 hb;refine rl.f 1 rfl (RW.cond_f rfl (RW.skip (RW.seq (RW.sf 3 rfl ?_))));obtain ⟨y7,ey7,h5⟩:=A2 h3
  refine RW.cutq (σ:=Unit) (fun y3=>[]) (fun y3=>[]) (fun y=>y7=.inr y) gg ?_ ?_
  ·refine RW.blk ?_
   refine RW.iter (σ:=Int) ey7 (fun s2=>[(0,.str x0),(9,.j (x0.length:Int)),(10,.j s2)]) (fun s2=>[]) (Gh.y0 []) (fun s2 B o hS4 hB4 hE4=>?_)
   unfold L0 at hS4;refine RW.sreg ?_
   refine rl.gen rfl rfl fun b hb=>?_
   cases b
   ·have h6:=A4 hS4 hb;refine rl.done (RW.seq (RW.cond_f rfl (RW.exit (B7 ?_))));cases h6
    exact ⟨_,(hE4 _ rfl).symm,(Gh.y0 [])⟩
   ·have h7:=A3 hS4 hb;refine rl.done (RW.seq (RW.cond_t rfl (RW.skip (RW.seq (RW.blk (RW.sf 2 rfl (RW.seq ?_)))))));obtain ⟨y4,ey4,h8⟩:=A2 h7
    refine RW.cutq (σ:=Bool) (fun y4=>[(0,.str x0),(9,.j (x0.length:Int)),(10,.j s2),(22,.bool y4)]) (fun y4=>[]) (fun y=>y4=y) gg ?_ ?_
    ·refine RW.reg ?_;refine rl.run 2 rfl ?_;obtain ⟨v5,e5,h9⟩:=A2 ey4;refine rl.op (Vc rfl rfl e5) ?_
     refine rl.gen rfl rfl fun b hb=>?_
     cases b
     ·have h10:=A4 h9 hb;refine rl.run 3 rfl ?_;obtain ⟨v6,e6,h11⟩:=A2 h10;refine rl.gop rfl (Vc rfl rfl e6) ?_
      refine rl.gen rfl rfl fun b hb=>?_
      cases b
      ·have h12:=A4 h11 hb;refine rl.f 1 rfl ?_;cases h12
       exact ⟨_,rfl,(Gh.y0 [])⟩
      ·have h13:=A3 h11 hb;refine rl.f 1 rfl ?_;cases h13
       exact ⟨_,rfl,(Gh.y0 [])⟩
     ·have h14:=A3 h9 hb;refine rl.f 6 rfl ?_;cases h14
      exact ⟨_,rfl,(Gh.y0 [])⟩
    ·intro y hC
     subst hC
     cases hb:y4
     ·have h15:=A4 h8 hb;refine RW.cond_f rfl (RW.skip (RW.reg (rl.f 2 rfl ?_)));cases h15
      exact hB4 _ rfl _ _ (Gh.y0 [])
     ·have h16:=A3 h8 hb;refine RW.cond_t rfl (RW.sf 1 rfl (RW.ret ?_));cases h16;have h17:=elimL h5 (hE4 _ rfl);cases h17
      exact RRet.y
  ·intro y3 hC
   have h5:=elimR h5 hC;refine RW.sf 1 rfl (RW.ret ?_);cases h5
   exact RRet.y
set_option maxHeartbeats 2000000 in
theorem Ma {x0:TRec} {r:Bool} (hF:Z9 x0=some r):A8 Try.prog 112 [.agg (A7 false x0)] (.bool r):=by
 refine A8.q Rh ?_;unfold Z9 at hF;refine RW.sf 2 rfl (RW.seq (RW.sr 2 rfl ?_));obtain ⟨v1,e1,h1⟩:=A2 hF;refine rl.call rfl rfl rfl (A6.y (r':=.bool v1) (V8 e1) ?_)
 cases hb:v1
 ·have h2:=A4 h1 hb;refine rl.f 1 rfl (RW.cond_t rfl (RW.sf 1 rfl (RW.ret ?_)));cases h2
  exact RRet.y
 ·have h3:=A3 h1 hb;refine rl.f 1 rfl (RW.cond_f rfl (RW.skip (RW.sf 3 rfl (RW.sf 4 rfl (RW.sr 1 rfl ?_)))));refine rl.done (RW.seq (RW.seq ?_));obtain ⟨y2,ey2,h4⟩:=A2 h3
  refine RW.cutq (σ:=Bool) (fun y2=>[(1,.ptr 0 0),(3,.ptr 1 0),(4,.bool true),(24,.bool y2)]) (fun y2=>[some ⟨A7 false x0,0⟩,some ⟨[.j 0,.j 0,.j x0.Uid,.j x0.Next,.j x0.Flags,.str x0.User,.str x0.Name,.str x0.Text],0⟩]) (fun y=>y2=y) gg ?_ ?_
  ·refine RW.reg ?_;refine rl.run 2 rfl ?_
   refine rl.gen rfl rfl fun b hb=>?_
   cases b
   ·have h5:=A4 ey2 hb;refine rl.run 3 rfl ?_
    refine rl.gen rfl rfl fun b hb=>?_
    cases b
    ·have h6:=A4 h5 hb;refine rl.run 4 rfl ?_
     refine rl.gen rfl rfl fun b hb=>?_
     cases b
     ·have h7:=A4 h6 hb;refine rl.f 1 rfl ?_;cases h7
      exact ⟨_,rfl,(Gh.y0 [0,1])⟩
     ·have h8:=A3 h6 hb;refine rl.f 1 rfl ?_;cases h8
      exact ⟨_,rfl,(Gh.y0 [0,1])⟩
    ·have h9:=A3 h5 hb;refine rl.f 6 rfl ?_;cases h9
     exact ⟨_,rfl,(Gh.y0 [0,1])⟩
   ·have h10:=A3 ey2 hb;refine rl.f 10 rfl ?_;cases h10
    exact ⟨_,rfl,(Gh.y0 [0,1])⟩
  ·intro y hC
   subst hC;obtain ⟨y3,ey3,h11⟩:=A2 h4
   refine RW.cutq (σ:=Bool×Int) (fun y3=>[(1,.ptr 0 0),(3,.ptr 1 0),(4,.bool y3.1)]) (fun y3=>[some ⟨A7 false x0,0⟩,some ⟨[.j 0,.j 0,.j y3.2,.j x0.Next,.j x0.Flags,.str x0.User,.str x0.Name,.str x0.Text],0⟩]) (fun y=>y3=y) gg ?_ ?_
   ·cases hb:y2
    ·have h12:=A4 ey3 hb;refine RW.cond_f rfl (RW.skip ?_);cases h12
     exact ⟨_,rfl,(Gh.y0 [0,1])⟩
    ·have h13:=A3 ey3 hb;refine RW.cond_t rfl (RW.sr 2 rfl ?_);obtain ⟨v4,e4,h14⟩:=A2 h13;refine rl.call rfl rfl rfl (A6.y (r':=.bool v4) (V8 e4) ?_)
     cases hb:v4
     ·have h15:=A4 h14 hb;refine rl.f 1 rfl (RW.reg (rl.f 2 rfl ?_));cases h15
      exact ⟨_,rfl,(Gh.y0 [0,1])⟩
     ·have h16:=A3 h14 hb;refine rl.f 1 rfl (RW.reg (rl.f 2 rfl ?_));cases h16
      exact ⟨_,rfl,(Gh.y0 [0,1])⟩
   ·intro y hC
    subst hC;refine RW.seq (RW.seq ?_);obtain ⟨y5,ey5,h17⟩:=A2 h11
    refine RW.cutq (σ:=Bool) (fun y5=>[(1,.ptr 0 0),(3,.ptr 1 0),(4,.bool y3.1),(36,.bool y5)]) (fun y5=>[some ⟨A7 false x0,0⟩,some ⟨[.j 0,.j 0,.j y3.2,.j x0.Next,.j x0.Flags,.str x0.User,.str x0.Name,.str x0.Text],0⟩]) (fun y=>y5=y) gg ?_ ?_
    ·refine RW.reg ?_;refine rl.run 2 rfl ?_
     refine rl.gen rfl rfl fun b hb=>?_
     cases b
     ·have h18:=A4 ey5 hb;refine rl.run 3 rfl ?_
      refine rl.gen rfl rfl fun b hb=>?_
      cases b
      ·have h19:=A4 h18 hb;refine rl.f 1 rfl ?_;cases h19
       exact ⟨_,rfl,(Gh.y0 [0,1])⟩
      ·have h20:=A3 h18 hb;refine rl.f 1 rfl ?_;cases h20
       exact ⟨_,rfl,(Gh.y0 [0,1])⟩
     ·have h21:=A3 ey5 hb;refine rl.f 5 rfl ?_;cases h21
      exact ⟨_,rfl,(Gh.y0 [0,1])⟩
    ·intro y hC
     subst hC;obtain ⟨y6,ey6,h22⟩:=A2 h17
     refine RW.cutq (σ:=Bool×Int) (fun y6=>[(1,.ptr 0 0),(3,.ptr 1 0),(4,.bool y6.1)]) (fun y6=>[some ⟨A7 false x0,0⟩,some ⟨[.j 0,.j 0,.j y3.2,.j x0.Next,.j y6.2,.str x0.User,.str x0.Name,.str x0.Text],0⟩]) (fun y=>y6=y) gg ?_ ?_
     ·cases hb:y5
      ·have h23:=A4 ey6 hb;refine RW.cond_f rfl (RW.skip ?_);cases h23
       exact ⟨_,rfl,(Gh.y0 [0,1])⟩
      ·have h24:=A3 ey6 hb;refine RW.cond_t rfl (RW.seq ?_);obtain ⟨y7,ey7,h25⟩:=A2 h24
       refine RW.cutq (σ:=Bool) (fun y7=>[(1,.ptr 0 0),(3,.ptr 1 0),(4,.bool y7)]) (fun y7=>[some ⟨A7 false x0,0⟩,some ⟨[.j 0,.j 0,.j y3.2,.j x0.Next,.j x0.Flags,.str x0.User,.str x0.Name,.str x0.Text],0⟩]) (fun y=>y7=y) gg ?_ ?_
       ·refine RW.reg ?_;refine rl.run 2 rfl ?_
        cases hb:y3.1
        ·have h26:=A4 ey7 hb;refine rl.f 5 rfl ?_;cases h26
         exact ⟨_,rfl,(Gh.y0 [0,1])⟩
        ·have h27:=A3 ey7 hb;refine rl.run 2 rfl ?_;obtain ⟨v8,e8,h28⟩:=A2 h27;refine rl.call rfl rfl rfl (A6.y (r':=.bool v8) (V8 e8) ?_)
         cases hb:v8
         ·have h29:=A4 h28 hb;refine rl.f 2 rfl ?_;cases h29
          exact ⟨_,rfl,(Gh.y0 [0,1])⟩
         ·have h30:=A3 h28 hb;refine rl.f 2 rfl ?_;cases h30
          exact ⟨_,rfl,(Gh.y0 [0,1])⟩
       ·intro y hC
        subst hC;refine RW.reg (rl.f 2 rfl ?_);cases h25
        exact ⟨_,rfl,(Gh.y0 [0,1])⟩
     ·intro y hC
      subst hC;refine RW.seq (RW.sf 2 rfl ?_);obtain ⟨y9,ey9,h31⟩:=A2 h22
      refine RW.cutq (σ:=Bool×Int×(List UInt8)×(List UInt8)×(List UInt8)) (fun y9=>[(3,.ptr 0 0),(4,.bool y9.1)]) (fun y9=>[some ⟨[.j 0,.j 0,.j y3.2,.j y9.2.1,.j y6.2,.str y9.2.2.1,.str y9.2.2.2.1,.str y9.2.2.2.2],0⟩]) (fun y=>y9=.inr y) gg ?_ ?_
      ·refine RW.blk ?_;refine RW.sreg ?_
       refine rl.gen rfl rfl fun b hb=>?_
       cases b
       ·have h32:=A4 ey9 hb;refine rl.f 1 rfl (RW.cond_f rfl (RW.sreg ?_))
        refine rl.gen rfl rfl fun b hb=>?_
        cases b
        ·have h33:=A4 h32 hb;refine rl.f 1 rfl (RW.cond_f rfl (RW.seq (RW.sreg ?_)))
         refine rl.gen rfl rfl fun b hb=>?_
         cases b
         ·have h34:=A4 h33 hb;refine rl.f 1 rfl (RW.cond_f rfl (RW.sreg ?_))
          refine rl.gen rfl rfl fun b hb=>?_
          cases b
          ·have h35:=A4 h34 hb;refine rl.f 1 rfl (RW.cond_f rfl (RW.reg ?_))
           refine rl.gen rfl rfl fun b hb=>?_
           cases b
           ·have h36:=A4 h35 hb;refine rl.f 1 rfl (RW.cond_f rfl (RW.sf 1 rfl ?_));refine RW.ka [2] [(2,.bool false)] rfl ?_;refine RW.ret ?_;cases h36;have h37:=elimL h31 rfl;cases h37
            exact RRet.y
           ·have h38:=A3 h35 hb;refine rl.f 1 rfl (RW.cond_t rfl (RW.skip ?_));cases h38
            exact ⟨_,rfl,(Gh.y0 [1])⟩
          ·have h39:=A3 h34 hb;refine rl.f 1 rfl (RW.cond_t rfl (RW.skip (RW.cond_t rfl (RW.skip ?_))));cases h39
           exact ⟨_,rfl,(Gh.y0 [1])⟩
         ·have h40:=A3 h33 hb;refine rl.f 1 rfl (RW.cond_t rfl (RW.skip (RW.cond_t rfl (RW.skip ?_))));cases h40
          exact ⟨_,rfl,(Gh.y0 [1])⟩
        ·have h41:=A3 h32 hb;refine rl.f 1 rfl (RW.cond_t rfl (RW.seq ?_));obtain ⟨y10,ey10,h42⟩:=A2 h41
         refine RW.cutq (σ:=Bool) (fun y10=>[(3,.ptr 0 0),(4,.bool y10)]) (fun y10=>[some ⟨[.j 0,.j 0,.j y3.2,.j x0.Next,.j y6.2,.str x0.User,.str x0.Name,.str x0.Text],0⟩]) (fun y=>y10=y) gg ?_ ?_
         ·refine RW.reg ?_;refine rl.run 2 rfl ?_
          cases hb:y6.1
          ·have h43:=A4 ey10 hb;refine rl.f 6 rfl ?_;cases h43
           exact ⟨_,rfl,(Gh.y0 [1])⟩
          ·have h44:=A3 ey10 hb;refine rl.run 3 rfl ?_
           refine rl.gen rfl rfl fun b hb=>?_
           cases b
           ·have h45:=A4 h44 hb;refine rl.f 2 rfl ?_;cases h45
            exact ⟨_,rfl,(Gh.y0 [1])⟩
           ·have h46:=A3 h44 hb;refine rl.f 2 rfl ?_;cases h46
            exact ⟨_,rfl,(Gh.y0 [1])⟩
         ·intro y hC
          subst hC;refine RW.reg (rl.f 2 rfl ?_);cases h42
          exact ⟨_,rfl,(Gh.y0 [0])⟩
       ·have h47:=A3 ey9 hb;refine rl.f 1 rfl (RW.cond_t rfl (RW.seq ?_));obtain ⟨y11,ey11,h48⟩:=A2 h47
        refine RW.cutq (σ:=Bool) (fun y11=>[(3,.ptr 0 0),(4,.bool y11)]) (fun y11=>[some ⟨[.j 0,.j 0,.j y3.2,.j x0.Next,.j y6.2,.str x0.User,.str x0.Name,.str x0.Text],0⟩]) (fun y=>y11=y) gg ?_ ?_
        ·refine RW.reg ?_;refine rl.run 2 rfl ?_;obtain ⟨v12,e12,h49⟩:=A2 ey11;refine rl.call rfl rfl rfl (A6.y (r':=.bool v12) (Dh e12) ?_)
         cases hb:v12
         ·have h50:=A4 h49 hb;refine rl.f 11 rfl ?_;cases h50
          exact ⟨_,rfl,(Gh.y0 [1])⟩
         ·have h51:=A3 h49 hb;refine rl.run 3 rfl ?_;obtain ⟨v13,e13,h52⟩:=A2 h51;refine rl.call rfl rfl rfl (A6.y (r':=.bool v13) (Dh e13) ?_)
          cases hb:v13
          ·have h53:=A4 h52 hb;refine rl.f 7 rfl ?_;cases h53
           exact ⟨_,rfl,(Gh.y0 [1])⟩
          ·have h54:=A3 h52 hb;refine rl.run 4 rfl ?_;obtain ⟨v14,e14,h55⟩:=A2 h54;refine rl.call rfl rfl rfl (A6.y (r':=.bool v14) (V8 e14) ?_)
           cases hb:v14
           ·have h56:=A4 h55 hb;refine rl.f 2 rfl ?_;cases h56
            exact ⟨_,rfl,(Gh.y0 [1])⟩
           ·have h57:=A3 h55 hb;refine rl.f 2 rfl ?_;cases h57
            exact ⟨_,rfl,(Gh.y0 [1])⟩
        ·intro y hC
         subst hC;refine RW.reg (rl.f 6 rfl ?_);cases h48
         exact ⟨_,rfl,(Gh.y0 [0])⟩
      ·intro y9_ hC
       have h31:=elimR h31 hC;refine RW.sr 2 rfl ?_
       cases hb:y9_.1
       ·have h58:=A4 h31 hb;refine rl.f 5 rfl (RW.ret ?_);cases h58
        exact RRet.y
       ·have h59:=A3 h31 hb;refine rl.f 5 rfl (RW.ret ?_);cases h59
        exact RRet.y
theorem Dq {x0:TItem} {x1:TItem} {r:Bool} (hF:K5 x0 x1=some r):B2 Try.prog 1 114 [.agg (A1 false x0),.ptr 0 0] [some ⟨A1 false x1,0⟩] (.bool r) [some ⟨A1 false x1,0⟩]:=by
 refine B2.q Jg ?_;unfold K5 at hF;refine RW.sf 2 rfl (RW.sr 4 rfl ?_)
 refine rl.gen rfl rfl fun b hb=>?_
 cases b
 ·have h1:=A4 hF hb;refine rl.f 6 rfl ?_;refine RW.ka [3] [(3,.bool false)] rfl ?_;refine RW.ret ?_;cases h1
  exact RRetS.m (Gh.rN [0])
 ·have h2:=A3 hF hb;refine rl.f 6 rfl ?_;refine RW.ka [3] [(3,.bool (!(x0.Seq==x1.Seq&&(x0.Rec.Kind==x1.Rec.Kind&&(x0.Rec.Valid==x1.Rec.Valid&&(x0.Rec.Uid==x1.Rec.Uid&&(x0.Rec.Next==x1.Rec.Next&&(x0.Rec.Flags==x1.Rec.Flags&&(x0.Rec.User==x1.Rec.User&&(x0.Rec.Name==x1.Rec.Name&&(x0.Rec.Text==x1.Rec.Text&&true)))))))))))] rfl ?_;refine RW.ret ?_;cases h2
  exact RRetS.m (Gh.rN [0])
theorem X9 {x0:List TItem} {x1:TItem} {r:Int} (hF:C7 x0 x1=some r):B2 Try.prog 1 149 [A5 x0,.fn 114 [.ptr 0 0]] [some ⟨A1 false x1,0⟩] (.j r) [some ⟨A1 false x1,0⟩]:=by
 refine B2.q P6 ?_;unfold C7 at hF;refine RW.sf 1 rfl (RW.seq (RW.sf 3 rfl ?_));obtain ⟨y5,ey5,h2⟩:=A2 hF
 refine RW.cutq (σ:=Unit) (fun y2=>[]) (fun y2=>[some ⟨A1 false x1,0⟩]) (fun y=>y5=.inr y) gg ?_ ?_
 ·refine RW.blk ?_
  refine RW.iter (σ:=Int) ey5 (fun s1=>[(0,A5 x0),(1,.fn 114 [.ptr 0 0]),(7,.j (x0.length:Int)),(8,.j s1)]) (fun s1=>[some ⟨A1 false x1,0⟩]) (Gh.rN [0]) (fun s1 B o hS1 hB1 hE1=>?_)
  unfold D6 at hS1;refine RW.sreg ?_
  refine rl.gen rfl rfl fun b hb=>?_
  cases b
  ·have h3:=A4 hS1 hb;refine rl.done (RW.seq (RW.cond_f rfl (RW.exit (B7 ?_))));cases h3
   exact ⟨_,(hE1 _ rfl).symm,(Gh.rN [0])⟩
  ·have h4:=A3 hS1 hb;refine rl.done (RW.seq (RW.cond_t rfl (RW.skip (RW.seq (RW.blk (RW.sf 2 rfl (RW.sr 3 rfl ?_)))))));obtain ⟨v3,e3,h5⟩:=A2 h4;refine rl.op (B4 (enc:=A1) (o:=false) rfl rfl rfl e3) ?_;refine rl.op (C5 (off':=0) (vs:=(A1 false v3)) B3 rfl e3 rfl rfl rfl) ?_;obtain ⟨v4,e4,h6⟩:=A2 h5;refine rl.call rfl rfl rfl (A6.eR [0] (Dq e4) ?_)
   cases hb:v4
   ·have h7:=A4 h6 hb;refine rl.done (RW.cond_f rfl (RW.skip (RW.reg (rl.f 2 rfl ?_))));cases h7
    exact hB1 _ rfl _ _ (Gh.rN [0])
   ·have h8:=A3 h6 hb;refine rl.done (RW.cond_t rfl (RW.sf 2 rfl ?_));refine RW.ka [4] [(4,.j s1)] rfl ?_;refine RW.ret ?_;cases h8;have h9:=elimL h2 (hE1 _ rfl);cases h9
    exact RRetS.m (Gh.rN [0])
 ·intro y2 hC
  have h2:=elimR h2 hC;refine RW.sf 1 rfl (RW.ret ?_);cases h2
  exact RRetS.m (Gh.rN [0])
theorem V7 {x0:List TItem} {x1:TItem} {r:Bool} (hF:C1 x0 x1=some r):B2 Try.prog 1 113 [A5 x0,.fn 114 [.ptr 0 0]] [some ⟨A1 false x1,0⟩] (.bool r) [some ⟨A1 false x1,0⟩]:=by
 refine B2.q K6 ?_;unfold C1 at hF;refine RW.sf 1 rfl (RW.sr 2 rfl ?_);obtain ⟨v1,e1,h1⟩:=A2 hF;refine rl.call rfl rfl rfl (A6.eR [0] (X9 e1) ?_);refine rl.f 2 rfl (RW.ret ?_);cases h1
 exact RRetS.m (Gh.rN [0])
set_option maxHeartbeats 2000000 in
theorem Aq {x0:List TItem} {r:Bool} (hF:K2 x0=some r):A8 Try.prog 84 [A5 x0] (.bool r):=by
 refine A8.q Lk ?_;unfold K2 at hF;refine RW.sf 1 rfl (RW.seq (RW.sr 2 rfl ?_))
 refine rl.gen rfl rfl fun b hb=>?_
 cases b
 ·have h1:=A4 hF hb;refine rl.done (RW.cond_f rfl (RW.skip (RW.seq (RW.sf 3 rfl ?_))));obtain ⟨y9,ey9,h3⟩:=A2 h1
  refine RW.cutq (σ:=Unit) (fun y2=>[]) (fun y2=>[]) (fun y=>y9=.inr y) gg ?_ ?_
  ·refine RW.blk ?_
   refine RW.iter (σ:=Int) ey9 (fun s1=>[(0,A5 x0),(8,A5 x0),(9,.j (x0.length:Int)),(10,.j s1)]) (fun s1=>[]) (Gh.y0 []) (fun s1 B o hS2 hB2 hE2=>?_)
   unfold R7 at hS2;refine RW.sreg ?_
   refine rl.gen rfl rfl fun b hb=>?_
   cases b
   ·have h4:=A4 hS2 hb;refine rl.done (RW.seq (RW.cond_f rfl (RW.exit (B7 ?_))));cases h4
    exact ⟨_,(hE2 _ rfl).symm,(Gh.y0 [])⟩
   ·have h5:=A3 hS2 hb;refine rl.done (RW.seq (RW.cond_t rfl (RW.skip (RW.seq (RW.blk (RW.sr 1 rfl ?_))))));obtain ⟨v3,e3,h6⟩:=A2 h5;refine rl.op (B4 (enc:=A1) (o:=false) rfl rfl rfl e3) ?_;refine rl.op (C5 (off':=0) (vs:=(A1 false v3)) B3 rfl e3 rfl rfl rfl) ?_;refine rl.f 3 rfl (RW.seq (RW.seq ?_));obtain ⟨y4,ey4,h7⟩:=A2 h6
    refine RW.cutq (σ:=Bool) (fun y4=>[(0,A5 x0),(3,.j s1),(4,.ptr 0 0),(8,A5 x0),(9,.j (x0.length:Int)),(10,.j s1),(24,.bool y4)]) (fun y4=>[some ⟨A1 false v3,0⟩]) (fun y=>y4=y) gg ?_ ?_
    ·refine RW.reg ?_;refine rl.run 2 rfl ?_;obtain ⟨v5,e5,h8⟩:=A2 ey4;refine rl.call rfl rfl rfl (A6.y (r':=.bool v5) (V8 e5) ?_)
     cases hb:v5
     ·have h9:=A4 h8 hb;refine rl.f 7 rfl ?_;cases h9
      exact ⟨_,rfl,(Gh.y0 [0])⟩
     ·have h10:=A3 h8 hb;refine rl.run 4 rfl ?_;obtain ⟨v6,e6,h11⟩:=A2 h10;refine rl.call rfl rfl rfl (A6.y (r':=.bool v6) (Ma e6) ?_)
      cases hb:v6
      ·have h12:=A4 h11 hb;refine rl.f 2 rfl ?_;cases h12
       exact ⟨_,rfl,(Gh.y0 [0])⟩
      ·have h13:=A3 h11 hb;refine rl.f 2 rfl ?_;cases h13
       exact ⟨_,rfl,(Gh.y0 [0])⟩
    ·intro y hC
     subst hC
     cases hb:y4
     ·have h14:=A4 h7 hb;refine RW.cond_f rfl (RW.skip (RW.sr 2 rfl ?_));obtain ⟨v7,e7,h15⟩:=A2 h14;refine rl.op (Zx B3 rfl rfl rfl Vf e7) ?_;refine rl.run 1 rfl ?_;obtain ⟨v8,e8,h16⟩:=A2 h15;refine rl.call rfl rfl rfl (A6.eR [0] (V7 e8) ?_)
      cases hb:v8
      ·have h17:=A4 h16 hb;refine rl.done (RW.cond_f rfl (RW.skip (RW.reg (rl.f 2 rfl ?_))));cases h17
       exact hB2 _ rfl _ _ (Gh.y0 [])
      ·have h18:=A3 h16 hb;refine rl.done (RW.cond_t rfl (RW.sf 1 rfl ?_));refine RW.ka [2] [(2,.bool false)] rfl ?_;refine RW.ret ?_;cases h18;have h19:=elimL h3 (hE2 _ rfl);cases h19
       exact RRet.y
     ·have h20:=A3 h7 hb;refine RW.cond_t rfl (RW.sf 1 rfl (RW.ret ?_));cases h20;have h21:=elimL h3 (hE2 _ rfl);cases h21
      exact RRet.y
  ·intro y2 hC
   have h3:=elimR h3 hC;refine RW.sf 1 rfl (RW.ret ?_);cases h3
   exact RRet.y
 ·have h22:=A3 hF hb;refine rl.done (RW.cond_t rfl (RW.sf 1 rfl (RW.ret ?_)));cases h22
  exact RRet.y
theorem Er {x0:TItem} {x1:TItem} {r:Bool} (hF:L6 x0 x1=some r):B2 Try.prog 1 115 [.agg (A1 false x0),.ptr 0 0] [some ⟨A1 false x1,0⟩] (.bool r) [some ⟨A1 false x1,0⟩]:=by
 refine B2.q Kh ?_;unfold L6 at hF;refine RW.sf 2 rfl (RW.sf 6 rfl (RW.ret ?_));cases hF
 exact RRetS.m (Gh.rN [0])
theorem Z0 {x0:List TItem} {x1:TItem} {r:Int} (hF:D1 x0 x1=some r):B2 Try.prog 1 149 [A5 x0,.fn 115 [.ptr 0 0]] [some ⟨A1 false x1,0⟩] (.j r) [some ⟨A1 false x1,0⟩]:=by
 refine B2.q P6 ?_;unfold D1 at hF;refine RW.sf 1 rfl (RW.seq (RW.sf 3 rfl ?_));obtain ⟨y5,ey5,h2⟩:=A2 hF
 refine RW.cutq (σ:=Unit) (fun y2=>[]) (fun y2=>[some ⟨A1 false x1,0⟩]) (fun y=>y5=.inr y) gg ?_ ?_
 ·refine RW.blk ?_
  refine RW.iter (σ:=Int) ey5 (fun s1=>[(0,A5 x0),(1,.fn 115 [.ptr 0 0]),(7,.j (x0.length:Int)),(8,.j s1)]) (fun s1=>[some ⟨A1 false x1,0⟩]) (Gh.rN [0]) (fun s1 B o hS1 hB1 hE1=>?_)
  unfold D8 at hS1;refine RW.sreg ?_
  refine rl.gen rfl rfl fun b hb=>?_
  cases b
  ·have h3:=A4 hS1 hb;refine rl.done (RW.seq (RW.cond_f rfl (RW.exit (B7 ?_))));cases h3
   exact ⟨_,(hE1 _ rfl).symm,(Gh.rN [0])⟩
  ·have h4:=A3 hS1 hb;refine rl.done (RW.seq (RW.cond_t rfl (RW.skip (RW.seq (RW.blk (RW.sf 2 rfl (RW.sr 3 rfl ?_)))))));obtain ⟨v3,e3,h5⟩:=A2 h4;refine rl.op (B4 (enc:=A1) (o:=false) rfl rfl rfl e3) ?_;refine rl.op (C5 (off':=0) (vs:=(A1 false v3)) B3 rfl e3 rfl rfl rfl) ?_;obtain ⟨v4,e4,h6⟩:=A2 h5;refine rl.call rfl rfl rfl (A6.eR [0] (Er e4) ?_)
   cases hb:v4
   ·have h7:=A4 h6 hb;refine rl.done (RW.cond_f rfl (RW.skip (RW.reg (rl.f 2 rfl ?_))));cases h7
    exact hB1 _ rfl _ _ (Gh.rN [0])
   ·have h8:=A3 h6 hb;refine rl.done (RW.cond_t rfl (RW.sf 2 rfl ?_));refine RW.ka [4] [(4,.j s1)] rfl ?_;refine RW.ret ?_;cases h8;have h9:=elimL h2 (hE1 _ rfl);cases h9
    exact RRetS.m (Gh.rN [0])
 ·intro y2 hC
  have h2:=elimR h2 hC;refine RW.sf 1 rfl (RW.ret ?_);cases h2
  exact RRetS.m (Gh.rN [0])
theorem W8 {x0:List TItem} {x1:TItem} {r:Bool} (hF:C3 x0 x1=some r):B2 Try.prog 1 113 [A5 x0,.fn 115 [.ptr 0 0]] [some ⟨A1 false x1,0⟩] (.bool r) [some ⟨A1 false x1,0⟩]:=by
 refine B2.q K6 ?_;unfold C3 at hF;refine RW.sf 1 rfl (RW.sr 2 rfl ?_);obtain ⟨v1,e1,h1⟩:=A2 hF;refine rl.call rfl rfl rfl (A6.eR [0] (Z0 e1) ?_);refine rl.f 2 rfl (RW.ret ?_);cases h1
 exact RRetS.m (Gh.rN [0])
theorem Es {x0:TItem} {x1:TRec} {r:Bool} (hF:J1 x0 x1=some r):B2 Try.prog 1 117 [.agg (A1 false x0),.ptr 0 0] [some ⟨A7 false x1,0⟩] (.bool r) [some ⟨A7 false x1,0⟩]:=by
 refine B2.q Jx ?_;unfold J1 at hF;refine RW.sf 2 rfl (RW.sr 5 rfl ?_)
 refine rl.gen rfl rfl fun b hb=>?_
 cases b
 ·have h1:=A4 hF hb;refine rl.f 7 rfl ?_;refine RW.ka [3] [(3,.bool false)] rfl ?_;refine RW.ret ?_;cases h1
  exact RRetS.m (Gh.rN [0])
 ·have h2:=A3 hF hb;refine rl.f 7 rfl ?_;refine RW.ka [3] [(3,.bool (x0.Rec.Kind != 2))] rfl ?_;refine RW.ret ?_;cases h2
  exact RRetS.m (Gh.rN [0])
theorem Y7 {x0:List TItem} {x1:TRec} {r:Int} (hF:D0 x0 x1=some r):B2 Try.prog 1 149 [A5 x0,.fn 117 [.ptr 0 0]] [some ⟨A7 false x1,0⟩] (.j r) [some ⟨A7 false x1,0⟩]:=by
 refine B2.q P6 ?_;unfold D0 at hF;refine RW.sf 1 rfl (RW.seq (RW.sf 3 rfl ?_));obtain ⟨y5,ey5,h2⟩:=A2 hF
 refine RW.cutq (σ:=Unit) (fun y2=>[]) (fun y2=>[some ⟨A7 false x1,0⟩]) (fun y=>y5=.inr y) gg ?_ ?_
 ·refine RW.blk ?_
  refine RW.iter (σ:=Int) ey5 (fun s1=>[(0,A5 x0),(1,.fn 117 [.ptr 0 0]),(7,.j (x0.length:Int)),(8,.j s1)]) (fun s1=>[some ⟨A7 false x1,0⟩]) (Gh.rN [0]) (fun s1 B o hS1 hB1 hE1=>?_)
  unfold D9 at hS1;refine RW.sreg ?_
  refine rl.gen rfl rfl fun b hb=>?_
  cases b
  ·have h3:=A4 hS1 hb;refine rl.done (RW.seq (RW.cond_f rfl (RW.exit (B7 ?_))));cases h3
   exact ⟨_,(hE1 _ rfl).symm,(Gh.rN [0])⟩
  ·have h4:=A3 hS1 hb;refine rl.done (RW.seq (RW.cond_t rfl (RW.skip (RW.seq (RW.blk (RW.sf 2 rfl (RW.sr 3 rfl ?_)))))));obtain ⟨v3,e3,h5⟩:=A2 h4;refine rl.op (B4 (enc:=A1) (o:=false) rfl rfl rfl e3) ?_;refine rl.op (C5 (off':=0) (vs:=(A1 false v3)) B3 rfl e3 rfl rfl rfl) ?_;obtain ⟨v4,e4,h6⟩:=A2 h5;refine rl.call rfl rfl rfl (A6.eR [0] (Es e4) ?_)
   cases hb:v4
   ·have h7:=A4 h6 hb;refine rl.done (RW.cond_f rfl (RW.skip (RW.reg (rl.f 2 rfl ?_))));cases h7
    exact hB1 _ rfl _ _ (Gh.rN [0])
   ·have h8:=A3 h6 hb;refine rl.done (RW.cond_t rfl (RW.sf 2 rfl ?_));refine RW.ka [4] [(4,.j s1)] rfl ?_;refine RW.ret ?_;cases h8;have h9:=elimL h2 (hE1 _ rfl);cases h9
    exact RRetS.m (Gh.rN [0])
 ·intro y2 hC
  have h2:=elimR h2 hC;refine RW.sf 1 rfl (RW.ret ?_);cases h2
  exact RRetS.m (Gh.rN [0])
theorem W6 {x0:List TItem} {x1:TRec} {r:Bool} (hF:C2 x0 x1=some r):B2 Try.prog 1 113 [A5 x0,.fn 117 [.ptr 0 0]] [some ⟨A7 false x1,0⟩] (.bool r) [some ⟨A7 false x1,0⟩]:=by
 refine B2.q K6 ?_;unfold C2 at hF;refine RW.sf 1 rfl (RW.sr 2 rfl ?_);obtain ⟨v1,e1,h1⟩:=A2 hF;refine rl.call rfl rfl rfl (A6.eR [0] (Y7 e1) ?_);refine rl.f 2 rfl (RW.ret ?_);cases h1
 exact RRetS.m (Gh.rN [0])
theorem Bz {x0:TItem} {x1:TItem} {r:Bool} (hF:L8 x0 x1=some r):A8 Try.prog 121 [.agg (A1 false x0),.agg (A1 false x1)] (.bool r):=by
 refine A8.q Qp ?_;unfold L8 at hF;refine RW.sf 3 rfl (RW.sf 6 rfl (RW.ret ?_));cases hF
 exact RRet.y
theorem Q5 {x0:TRec} {x1:Int} {x2:Int} {r:Bool} (hF:E8 x0 x1 x2=some r):A8 Try.prog 120 [.agg (A7 false x0),.j x1,.j x2] (.bool r):=by
 refine A8.q Qs ?_;unfold E8 at hF;refine RW.sf 2 rfl (RW.sr 3 rfl ?_)
 refine rl.gen rfl rfl fun b hb=>?_
 cases b
 ·have h1:=A4 hF hb;refine rl.f 7 rfl ?_;refine RW.ka [6] [(6,.bool false)] rfl ?_;refine RW.ret ?_;cases h1
  exact RRet.y
 ·have h2:=A3 hF hb;refine rl.f 7 rfl ?_;refine RW.ka [6] [(6,.bool (x0.Valid==x2))] rfl ?_;refine RW.ret ?_;cases h2
  exact RRet.y
theorem Dk {x0:TRec} {x1:Int} {r:Bool} (hF:M4 x0 x1=some r):B2 Try.prog 1 150 [.agg (A7 false x0),.ptr 0 0] [some ⟨[.j x1],0⟩] (.bool r) [some ⟨[.j x1],0⟩]:=by
 refine B2.q Fu ?_;unfold M4 at hF;refine RW.sf 2 rfl (RW.sr 2 rfl ?_);obtain ⟨v1,e1,h1⟩:=A2 hF;refine rl.call rfl rfl rfl (A6.y (r':=.bool v1) (Q5 e1) ?_);refine rl.f 1 rfl (RW.ret ?_);cases h1
 exact RRetS.m (Gh.rN [0])
theorem Ab {x0:List TItem} {x1:Int} {r:TItem×Bool} (hF:D5 x0 x1=some r):B2 Try.prog 1 118 [A5 x0,.fn 150 [.ptr 0 0],.fn 121 []] [some ⟨[.j x1],0⟩] (.tup [.agg (A1 true r.1),.bool r.2]) [some ⟨[.j x1],0⟩]:=by
 refine B2.q Ax ?_;unfold D5 at hF;refine RW.sf 2 rfl (RW.sf 4 rfl (RW.seq (RW.sf 3 rfl ?_)));obtain ⟨y7,ey7,h2⟩:=A2 hF
 refine RW.cutq (σ:=Bool×Int×Int×Int×Int×Int×Int×(List UInt8)×(List UInt8)×(List UInt8)) (fun y2=>[(6,.ptr 1 0),(8,.ptr 2 0),(9,.bool y2.1)]) (fun y2=>[some ⟨[.j x1],0⟩,some ⟨[.j 0,.j 0,.j 0,.j 0,.j 0,.j 0,.str [],.str [],.str []],0⟩,some ⟨[.j y2.2.1,.j y2.2.2.1,.j y2.2.2.2.1,.j y2.2.2.2.2.1,.j y2.2.2.2.2.2.1,.j y2.2.2.2.2.2.2.1,.str y2.2.2.2.2.2.2.2.1,.str y2.2.2.2.2.2.2.2.2.1,.str y2.2.2.2.2.2.2.2.2.2],0⟩]) (fun y=>y7=y) gg ?_ ?_
 ·refine RW.blk ?_
  refine RW.iter (σ:=Bool×Int×Int×Int×Int×Int×Int×Int×(List UInt8)×(List UInt8)×(List UInt8)) ey7 (fun s1=>[(1,.fn 150 [.ptr 0 0]),(2,.fn 121 []),(6,.ptr 1 0),(8,.ptr 2 0),(9,.bool s1.1),(13,A5 x0),(14,.j (x0.length:Int)),(15,.j s1.2.1)]) (fun s1=>[some ⟨[.j x1],0⟩,some ⟨[.j 0,.j 0,.j 0,.j 0,.j 0,.j 0,.str [],.str [],.str []],0⟩,some ⟨[.j s1.2.2.1,.j s1.2.2.2.1,.j s1.2.2.2.2.1,.j s1.2.2.2.2.2.1,.j s1.2.2.2.2.2.2.1,.j s1.2.2.2.2.2.2.2.1,.str s1.2.2.2.2.2.2.2.2.1,.str s1.2.2.2.2.2.2.2.2.2.1,.str s1.2.2.2.2.2.2.2.2.2.2],0⟩]) (Gh.rN [0,1,2]) (fun s1 B o hS1 hB1 hE1=>?_)
  unfold C8 at hS1;refine RW.sreg ?_
  refine rl.gen rfl rfl fun b hb=>?_
  cases b
  ·have h3:=A4 hS1 hb;refine rl.done (RW.seq (RW.cond_f rfl (RW.exit (B7 ?_))));cases h3
   exact ⟨_,(hE1 _ rfl).symm,(Gh.rN [0,1,2])⟩
  ·have h4:=A3 hS1 hb;refine rl.done (RW.seq (RW.cond_t rfl (RW.skip (RW.seq (RW.blk (RW.sreg ?_))))));obtain ⟨v3,e3,h5⟩:=A2 h4;refine rl.op (B4 (enc:=A1) (o:=false) rfl rfl rfl e3) ?_;refine rl.op (C5 (off':=0) (vs:=(A1 false v3)) B3 rfl e3 rfl rfl rfl) ?_;refine rl.f 2 rfl (RW.seq ?_);obtain ⟨y4,ey4,h6⟩:=A2 h5
   refine RW.cutq (σ:=Bool) (fun y4=>[(1,.fn 150 [.ptr 0 0]),(2,.fn 121 []),(6,.ptr 1 0),(8,.ptr 2 0),(9,.bool s1.1),(11,.ptr 3 0),(13,A5 x0),(14,.j (x0.length:Int)),(15,.j s1.2.1),(32,.bool y4)]) (fun y4=>[some ⟨[.j x1],0⟩,some ⟨[.j 0,.j 0,.j 0,.j 0,.j 0,.j 0,.str [],.str [],.str []],0⟩,some ⟨[.j s1.2.2.1,.j s1.2.2.2.1,.j s1.2.2.2.2.1,.j s1.2.2.2.2.2.1,.j s1.2.2.2.2.2.2.1,.j s1.2.2.2.2.2.2.2.1,.str s1.2.2.2.2.2.2.2.2.1,.str s1.2.2.2.2.2.2.2.2.2.1,.str s1.2.2.2.2.2.2.2.2.2.2],0⟩,some ⟨A1 false v3,0⟩]) (fun y=>y4=y) gg ?_ ?_
   ·refine RW.reg ?_;refine rl.run 3 rfl ?_;obtain ⟨v5,e5,h7⟩:=A2 ey4;refine rl.call rfl rfl rfl (A6.eR [0] (Dk e5) ?_)
    cases hb:v5
    ·have h8:=A4 h7 hb;refine rl.f 10 rfl ?_;cases h8
     exact ⟨_,rfl,(Gh.rN [0,1,2,3])⟩
    ·have h9:=A3 h7 hb;refine rl.run 4 rfl ?_
     cases hb:(!s1.1)
     ·have h10:=A4 h9 hb;refine rl.run 3 rfl ?_;obtain ⟨v6,e6,h11⟩:=A2 h10;refine rl.call rfl rfl rfl (A6.y (r':=.bool v6) (Bz e6) ?_)
      cases hb:v6
      ·have h12:=A4 h11 hb;refine rl.f 2 rfl ?_;cases h12
       exact ⟨_,rfl,(Gh.rN [0,1,2,3])⟩
      ·have h13:=A3 h11 hb;refine rl.f 2 rfl ?_;cases h13
       exact ⟨_,rfl,(Gh.rN [0,1,2,3])⟩
     ·have h14:=A3 h9 hb;refine rl.f 6 rfl ?_;cases h14
      exact ⟨_,rfl,(Gh.rN [0,1,2,3])⟩
   ·intro y hC
    subst hC
    cases hb:y4
    ·have h15:=A4 h6 hb;refine RW.cond_f rfl (RW.skip (RW.reg (rl.f 2 rfl ?_)));cases h15
     exact hB1 _ rfl _ _ (Gh.rN [0,1,2])
    ·have h16:=A3 h6 hb;refine RW.cond_t rfl (RW.reg (rl.f 3 rfl (RW.reg (rl.f 2 rfl ?_))));cases h16
     exact hB1 _ rfl _ _ (Gh.rN [0,1,2])
 ·intro y2 hC
  subst hC;refine RW.sf 4 rfl (RW.ret ?_);cases h2
  exact RRetS.m (Gh.rN [0])
theorem Dm {x0:TRec} {x1:Int} {r:Bool} (hF:M6 x0 x1=some r):B2 Try.prog 1 151 [.agg (A7 false x0),.ptr 0 0] [some ⟨[.j x1],0⟩] (.bool r) [some ⟨[.j x1],0⟩]:=by
 refine B2.q Gd ?_;unfold M6 at hF;refine RW.sf 2 rfl (RW.sr 2 rfl ?_);obtain ⟨v1,e1,h1⟩:=A2 hF;refine rl.call rfl rfl rfl (A6.y (r':=.bool v1) (Q5 e1) ?_);refine rl.f 1 rfl (RW.ret ?_);cases h1
 exact RRetS.m (Gh.rN [0])
theorem Ki {x0:TItem} {x1:TItem} {r:Bool} (hF:Aw x0 x1=some r):A8 Try.prog 152 [.agg (A1 false x0),.agg (A1 false x1)] (.bool r):=by
 refine A8.q Ph ?_;unfold Aw at hF;refine RW.sf 3 rfl (RW.seq (RW.sr 6 rfl ?_))
 refine rl.gen rfl rfl fun b hb=>?_
 cases b
 ·have h1:=A4 hF hb;refine rl.done (RW.cond_f rfl (RW.skip (RW.sf 6 rfl ?_)));refine RW.ka [4] [(4,.bool (decide (x0.Seq<x1.Seq)))] rfl ?_;refine RW.ret ?_;cases h1
  exact RRet.y
 ·have h2:=A3 hF hb;refine rl.done (RW.cond_t rfl (RW.sf 8 rfl ?_));refine RW.ka [4] [(4,.bool (decide (x0.Rec.Next<x1.Rec.Next)))] rfl ?_;refine RW.ret ?_;cases h2
  exact RRet.y
theorem Z6 {x0:List TItem} {x1:Int} {r:TItem×Bool} (hF:D3 x0 x1=some r):B2 Try.prog 1 118 [A5 x0,.fn 151 [.ptr 0 0],.fn 152 []] [some ⟨[.j x1],0⟩] (.tup [.agg (A1 true r.1),.bool r.2]) [some ⟨[.j x1],0⟩]:=by
 refine B2.q Ax ?_;unfold D3 at hF;refine RW.sf 2 rfl (RW.sf 4 rfl (RW.seq (RW.sf 3 rfl ?_)));obtain ⟨y7,ey7,h2⟩:=A2 hF
 refine RW.cutq (σ:=Bool×Int×Int×Int×Int×Int×Int×(List UInt8)×(List UInt8)×(List UInt8)) (fun y2=>[(6,.ptr 1 0),(8,.ptr 2 0),(9,.bool y2.1)]) (fun y2=>[some ⟨[.j x1],0⟩,some ⟨[.j 0,.j 0,.j 0,.j 0,.j 0,.j 0,.str [],.str [],.str []],0⟩,some ⟨[.j y2.2.1,.j y2.2.2.1,.j y2.2.2.2.1,.j y2.2.2.2.2.1,.j y2.2.2.2.2.2.1,.j y2.2.2.2.2.2.2.1,.str y2.2.2.2.2.2.2.2.1,.str y2.2.2.2.2.2.2.2.2.1,.str y2.2.2.2.2.2.2.2.2.2],0⟩]) (fun y=>y7=y) gg ?_ ?_
 ·refine RW.blk ?_
  refine RW.iter (σ:=Bool×Int×Int×Int×Int×Int×Int×Int×(List UInt8)×(List UInt8)×(List UInt8)) ey7 (fun s1=>[(1,.fn 151 [.ptr 0 0]),(2,.fn 152 []),(6,.ptr 1 0),(8,.ptr 2 0),(9,.bool s1.1),(13,A5 x0),(14,.j (x0.length:Int)),(15,.j s1.2.1)]) (fun s1=>[some ⟨[.j x1],0⟩,some ⟨[.j 0,.j 0,.j 0,.j 0,.j 0,.j 0,.str [],.str [],.str []],0⟩,some ⟨[.j s1.2.2.1,.j s1.2.2.2.1,.j s1.2.2.2.2.1,.j s1.2.2.2.2.2.1,.j s1.2.2.2.2.2.2.1,.j s1.2.2.2.2.2.2.2.1,.str s1.2.2.2.2.2.2.2.2.1,.str s1.2.2.2.2.2.2.2.2.2.1,.str s1.2.2.2.2.2.2.2.2.2.2],0⟩]) (Gh.rN [0,1,2]) (fun s1 B o hS1 hB1 hE1=>?_)
  unfold C6 at hS1;refine RW.sreg ?_
  refine rl.gen rfl rfl fun b hb=>?_
  cases b
  ·have h3:=A4 hS1 hb;refine rl.done (RW.seq (RW.cond_f rfl (RW.exit (B7 ?_))));cases h3
   exact ⟨_,(hE1 _ rfl).symm,(Gh.rN [0,1,2])⟩
  ·have h4:=A3 hS1 hb;refine rl.done (RW.seq (RW.cond_t rfl (RW.skip (RW.seq (RW.blk (RW.sreg ?_))))));obtain ⟨v3,e3,h5⟩:=A2 h4;refine rl.op (B4 (enc:=A1) (o:=false) rfl rfl rfl e3) ?_;refine rl.op (C5 (off':=0) (vs:=(A1 false v3)) B3 rfl e3 rfl rfl rfl) ?_;refine rl.f 2 rfl (RW.seq ?_);obtain ⟨y4,ey4,h6⟩:=A2 h5
   refine RW.cutq (σ:=Bool) (fun y4=>[(1,.fn 151 [.ptr 0 0]),(2,.fn 152 []),(6,.ptr 1 0),(8,.ptr 2 0),(9,.bool s1.1),(11,.ptr 3 0),(13,A5 x0),(14,.j (x0.length:Int)),(15,.j s1.2.1),(32,.bool y4)]) (fun y4=>[some ⟨[.j x1],0⟩,some ⟨[.j 0,.j 0,.j 0,.j 0,.j 0,.j 0,.str [],.str [],.str []],0⟩,some ⟨[.j s1.2.2.1,.j s1.2.2.2.1,.j s1.2.2.2.2.1,.j s1.2.2.2.2.2.1,.j s1.2.2.2.2.2.2.1,.j s1.2.2.2.2.2.2.2.1,.str s1.2.2.2.2.2.2.2.2.1,.str s1.2.2.2.2.2.2.2.2.2.1,.str s1.2.2.2.2.2.2.2.2.2.2],0⟩,some ⟨A1 false v3,0⟩]) (fun y=>y4=y) gg ?_ ?_
   ·refine RW.reg ?_;refine rl.run 3 rfl ?_;obtain ⟨v5,e5,h7⟩:=A2 ey4;refine rl.call rfl rfl rfl (A6.eR [0] (Dm e5) ?_)
    cases hb:v5
    ·have h8:=A4 h7 hb;refine rl.f 10 rfl ?_;cases h8
     exact ⟨_,rfl,(Gh.rN [0,1,2,3])⟩
    ·have h9:=A3 h7 hb;refine rl.run 4 rfl ?_
     cases hb:(!s1.1)
     ·have h10:=A4 h9 hb;refine rl.run 3 rfl ?_;obtain ⟨v6,e6,h11⟩:=A2 h10;refine rl.call rfl rfl rfl (A6.y (r':=.bool v6) (Ki e6) ?_)
      cases hb:v6
      ·have h12:=A4 h11 hb;refine rl.f 2 rfl ?_;cases h12
       exact ⟨_,rfl,(Gh.rN [0,1,2,3])⟩
      ·have h13:=A3 h11 hb;refine rl.f 2 rfl ?_;cases h13
       exact ⟨_,rfl,(Gh.rN [0,1,2,3])⟩
     ·have h14:=A3 h9 hb;refine rl.f 6 rfl ?_;cases h14
      exact ⟨_,rfl,(Gh.rN [0,1,2,3])⟩
   ·intro y hC
    subst hC
    cases hb:y4
    ·have h15:=A4 h6 hb;refine RW.cond_f rfl (RW.skip (RW.reg (rl.f 2 rfl ?_)));cases h15
     exact hB1 _ rfl _ _ (Gh.rN [0,1,2])
    ·have h16:=A3 h6 hb;refine RW.cond_t rfl (RW.reg (rl.f 3 rfl (RW.reg (rl.f 2 rfl ?_))));cases h16
     exact hB1 _ rfl _ _ (Gh.rN [0,1,2])
 ·intro y2 hC
  subst hC;refine RW.sf 4 rfl (RW.ret ?_);cases h2
  exact RRetS.m (Gh.rN [0])
theorem V1 {x0:List TItem} {x1:Int} {r:TItem×Bool} (hF:G8 x0 x1=some r):A8 Try.prog 116 [A5 x0,.j x1] (.tup [.agg (A1 true r.1),.bool r.2]):=by
 refine A8.q Km ?_;unfold G8 at hF;refine RW.sf 3 rfl (RW.seq (RW.sr 2 rfl ?_));obtain ⟨v1,e1,h1⟩:=A2 hF;refine rl.call rfl rfl rfl (A6.eR [0] (Ab e1) ?_);refine rl.f 6 rfl (RW.sf 1 rfl ?_)
 cases hb:v1.2
 ·have h2:=A4 h1 hb;refine RW.cond_f rfl (RW.skip (RW.sr 2 rfl ?_));obtain ⟨v2,e2,h3⟩:=A2 h2;refine rl.call rfl rfl rfl (A6.eR [0] (Z6 e2) ?_);refine rl.f 4 rfl ?_;refine RW.ka [4,5] [(4,.ptr 1 0),(5,.bool v2.2)] rfl ?_;refine RW.ret ?_;cases h3
  exact RRet.y
 ·have h4:=A3 h1 hb;refine RW.cond_t rfl (RW.sf 3 rfl ?_);refine RW.ka [4,5] [(4,.ptr 1 0),(5,.bool false)] rfl ?_;refine RW.ret ?_;cases h4
  exact RRet.y
theorem Eu {x0:TRec} {x1:TRec} {r:Bool} (hF:V0 x0 x1=some r):B2 Try.prog 1 119 [.agg (A7 false x0),.ptr 0 0] [some ⟨A7 false x1,0⟩] (.bool r) [some ⟨A7 false x1,0⟩]:=by
 refine B2.q Ke ?_;unfold V0 at hF;refine RW.sf 2 rfl (RW.sr 3 rfl ?_);obtain ⟨v1,e1,h1⟩:=A2 hF;refine rl.call rfl rfl rfl (A6.y (r':=.bool v1) (Q5 e1) ?_);refine rl.f 1 rfl (RW.ret ?_);cases h1
 exact RRetS.m (Gh.rN [0])
theorem Av {x0:List TItem} {x1:TRec} {r:TItem×Bool} (hF:E1 x0 x1=some r):B2 Try.prog 1 118 [A5 x0,.fn 119 [.ptr 0 0],.fn 121 []] [some ⟨A7 false x1,0⟩] (.tup [.agg (A1 true r.1),.bool r.2]) [some ⟨A7 false x1,0⟩]:=by
 refine B2.q Ax ?_;unfold E1 at hF;refine RW.sf 2 rfl (RW.sf 4 rfl (RW.seq (RW.sf 3 rfl ?_)));obtain ⟨y7,ey7,h2⟩:=A2 hF
 refine RW.cutq (σ:=Bool×Int×Int×Int×Int×Int×Int×(List UInt8)×(List UInt8)×(List UInt8)) (fun y2=>[(6,.ptr 1 0),(8,.ptr 2 0),(9,.bool y2.1)]) (fun y2=>[some ⟨A7 false x1,0⟩,some ⟨[.j 0,.j 0,.j 0,.j 0,.j 0,.j 0,.str [],.str [],.str []],0⟩,some ⟨[.j y2.2.1,.j y2.2.2.1,.j y2.2.2.2.1,.j y2.2.2.2.2.1,.j y2.2.2.2.2.2.1,.j y2.2.2.2.2.2.2.1,.str y2.2.2.2.2.2.2.2.1,.str y2.2.2.2.2.2.2.2.2.1,.str y2.2.2.2.2.2.2.2.2.2],0⟩]) (fun y=>y7=y) gg ?_ ?_
 ·refine RW.blk ?_
  refine RW.iter (σ:=Bool×Int×Int×Int×Int×Int×Int×Int×(List UInt8)×(List UInt8)×(List UInt8)) ey7 (fun s1=>[(1,.fn 119 [.ptr 0 0]),(2,.fn 121 []),(6,.ptr 1 0),(8,.ptr 2 0),(9,.bool s1.1),(13,A5 x0),(14,.j (x0.length:Int)),(15,.j s1.2.1)]) (fun s1=>[some ⟨A7 false x1,0⟩,some ⟨[.j 0,.j 0,.j 0,.j 0,.j 0,.j 0,.str [],.str [],.str []],0⟩,some ⟨[.j s1.2.2.1,.j s1.2.2.2.1,.j s1.2.2.2.2.1,.j s1.2.2.2.2.2.1,.j s1.2.2.2.2.2.2.1,.j s1.2.2.2.2.2.2.2.1,.str s1.2.2.2.2.2.2.2.2.1,.str s1.2.2.2.2.2.2.2.2.2.1,.str s1.2.2.2.2.2.2.2.2.2.2],0⟩]) (Gh.rN [0,1,2]) (fun s1 B o hS1 hB1 hE1=>?_)
  unfold D4 at hS1;refine RW.sreg ?_
  refine rl.gen rfl rfl fun b hb=>?_
  cases b
  ·have h3:=A4 hS1 hb;refine rl.done (RW.seq (RW.cond_f rfl (RW.exit (B7 ?_))));cases h3
   exact ⟨_,(hE1 _ rfl).symm,(Gh.rN [0,1,2])⟩
  ·have h4:=A3 hS1 hb;refine rl.done (RW.seq (RW.cond_t rfl (RW.skip (RW.seq (RW.blk (RW.sreg ?_))))));obtain ⟨v3,e3,h5⟩:=A2 h4;refine rl.op (B4 (enc:=A1) (o:=false) rfl rfl rfl e3) ?_;refine rl.op (C5 (off':=0) (vs:=(A1 false v3)) B3 rfl e3 rfl rfl rfl) ?_;refine rl.f 2 rfl (RW.seq ?_);obtain ⟨y4,ey4,h6⟩:=A2 h5
   refine RW.cutq (σ:=Bool) (fun y4=>[(1,.fn 119 [.ptr 0 0]),(2,.fn 121 []),(6,.ptr 1 0),(8,.ptr 2 0),(9,.bool s1.1),(11,.ptr 3 0),(13,A5 x0),(14,.j (x0.length:Int)),(15,.j s1.2.1),(32,.bool y4)]) (fun y4=>[some ⟨A7 false x1,0⟩,some ⟨[.j 0,.j 0,.j 0,.j 0,.j 0,.j 0,.str [],.str [],.str []],0⟩,some ⟨[.j s1.2.2.1,.j s1.2.2.2.1,.j s1.2.2.2.2.1,.j s1.2.2.2.2.2.1,.j s1.2.2.2.2.2.2.1,.j s1.2.2.2.2.2.2.2.1,.str s1.2.2.2.2.2.2.2.2.1,.str s1.2.2.2.2.2.2.2.2.2.1,.str s1.2.2.2.2.2.2.2.2.2.2],0⟩,some ⟨A1 false v3,0⟩]) (fun y=>y4=y) gg ?_ ?_
   ·refine RW.reg ?_;refine rl.run 3 rfl ?_;obtain ⟨v5,e5,h7⟩:=A2 ey4;refine rl.call rfl rfl rfl (A6.eR [0] (Eu e5) ?_)
    cases hb:v5
    ·have h8:=A4 h7 hb;refine rl.f 10 rfl ?_;cases h8
     exact ⟨_,rfl,(Gh.rN [0,1,2,3])⟩
    ·have h9:=A3 h7 hb;refine rl.run 4 rfl ?_
     cases hb:(!s1.1)
     ·have h10:=A4 h9 hb;refine rl.run 3 rfl ?_;obtain ⟨v6,e6,h11⟩:=A2 h10;refine rl.call rfl rfl rfl (A6.y (r':=.bool v6) (Bz e6) ?_)
      cases hb:v6
      ·have h12:=A4 h11 hb;refine rl.f 2 rfl ?_;cases h12
       exact ⟨_,rfl,(Gh.rN [0,1,2,3])⟩
      ·have h13:=A3 h11 hb;refine rl.f 2 rfl ?_;cases h13
       exact ⟨_,rfl,(Gh.rN [0,1,2,3])⟩
     ·have h14:=A3 h9 hb;refine rl.f 6 rfl ?_;cases h14
      exact ⟨_,rfl,(Gh.rN [0,1,2,3])⟩
   ·intro y hC
    subst hC
    cases hb:y4
    ·have h15:=A4 h6 hb;refine RW.cond_f rfl (RW.skip (RW.reg (rl.f 2 rfl ?_)));cases h15
     exact hB1 _ rfl _ _ (Gh.rN [0,1,2])
    ·have h16:=A3 h6 hb;refine RW.cond_t rfl (RW.reg (rl.f 3 rfl (RW.reg (rl.f 2 rfl ?_))));cases h16
     exact hB1 _ rfl _ _ (Gh.rN [0,1,2])
 ·intro y2 hC
  subst hC;refine RW.sf 4 rfl (RW.ret ?_);cases h2
  exact RRetS.m (Gh.rN [0])
theorem Dl {x0:TRec} {x1:Int} {x2:Int} {x3:Int} {r:Bool} (hF:M5 x0 x1 x2 x3=some r):B2 Try.prog 3 153 [.agg (A7 false x0),.ptr 0 0,.ptr 1 0,.ptr 2 0] [some ⟨[.j x1],0⟩,some ⟨[.j x2],0⟩,some ⟨[.j x3],0⟩] (.bool r) [some ⟨[.j x1],0⟩,some ⟨[.j x2],0⟩,some ⟨[.j x3],0⟩]:=by
 refine B2.q Gw ?_;unfold M5 at hF;refine RW.sf 2 rfl (RW.sr 3 rfl ?_);obtain ⟨v1,e1,h1⟩:=A2 hF;refine rl.call rfl rfl rfl (A6.y (r':=.bool v1) (Q5 e1) ?_)
 cases hb:v1
 ·have h2:=A4 h1 hb;refine rl.f 7 rfl ?_;refine RW.ka [5] [(5,.bool false)] rfl ?_;refine RW.ret ?_;cases h2
  exact RRetS.m (Gh.rN [0,1,2])
 ·have h3:=A3 h1 hb;refine rl.f 7 rfl ?_;refine RW.ka [5] [(5,.bool (x0.Uid==x3))] rfl ?_;refine RW.ret ?_;cases h3
  exact RRetS.m (Gh.rN [0,1,2])
theorem Ah {x0:List TItem} {x1:Int} {x2:Int} {x3:Int} {r:TItem×Bool} (hF:E7 x0 x1 x2 x3=some r):B2 Try.prog 3 118 [A5 x0,.fn 153 [.ptr 0 0,.ptr 1 0,.ptr 2 0],.fn 121 []] [some ⟨[.j x1],0⟩,some ⟨[.j x2],0⟩,some ⟨[.j x3],0⟩] (.tup [.agg (A1 true r.1),.bool r.2]) [some ⟨[.j x1],0⟩,some ⟨[.j x2],0⟩,some ⟨[.j x3],0⟩]:=by
 refine B2.q Ax ?_;unfold E7 at hF;refine RW.sf 2 rfl (RW.sf 4 rfl (RW.seq (RW.sf 3 rfl ?_)));obtain ⟨y7,ey7,h2⟩:=A2 hF
 refine RW.cutq (σ:=Bool×Int×Int×Int×Int×Int×Int×(List UInt8)×(List UInt8)×(List UInt8)) (fun y2=>[(6,.ptr 3 0),(8,.ptr 4 0),(9,.bool y2.1)]) (fun y2=>[some ⟨[.j x1],0⟩,some ⟨[.j x2],0⟩,some ⟨[.j x3],0⟩,some ⟨[.j 0,.j 0,.j 0,.j 0,.j 0,.j 0,.str [],.str [],.str []],0⟩,some ⟨[.j y2.2.1,.j y2.2.2.1,.j y2.2.2.2.1,.j y2.2.2.2.2.1,.j y2.2.2.2.2.2.1,.j y2.2.2.2.2.2.2.1,.str y2.2.2.2.2.2.2.2.1,.str y2.2.2.2.2.2.2.2.2.1,.str y2.2.2.2.2.2.2.2.2.2],0⟩]) (fun y=>y7=y) gg ?_ ?_
 ·refine RW.blk ?_
  refine RW.iter (σ:=Bool×Int×Int×Int×Int×Int×Int×Int×(List UInt8)×(List UInt8)×(List UInt8)) ey7 (fun s1=>[(1,.fn 153 [.ptr 0 0,.ptr 1 0,.ptr 2 0]),(2,.fn 121 []),(6,.ptr 3 0),(8,.ptr 4 0),(9,.bool s1.1),(13,A5 x0),(14,.j (x0.length:Int)),(15,.j s1.2.1)]) (fun s1=>[some ⟨[.j x1],0⟩,some ⟨[.j x2],0⟩,some ⟨[.j x3],0⟩,some ⟨[.j 0,.j 0,.j 0,.j 0,.j 0,.j 0,.str [],.str [],.str []],0⟩,some ⟨[.j s1.2.2.1,.j s1.2.2.2.1,.j s1.2.2.2.2.1,.j s1.2.2.2.2.2.1,.j s1.2.2.2.2.2.2.1,.j s1.2.2.2.2.2.2.2.1,.str s1.2.2.2.2.2.2.2.2.1,.str s1.2.2.2.2.2.2.2.2.2.1,.str s1.2.2.2.2.2.2.2.2.2.2],0⟩]) (Gh.rN [0,1,2,3,4]) (fun s1 B o hS1 hB1 hE1=>?_)
  unfold C9 at hS1;refine RW.sreg ?_
  refine rl.gen rfl rfl fun b hb=>?_
  cases b
  ·have h3:=A4 hS1 hb;refine rl.done (RW.seq (RW.cond_f rfl (RW.exit (B7 ?_))));cases h3
   exact ⟨_,(hE1 _ rfl).symm,(Gh.rN [0,1,2,3,4])⟩
  ·have h4:=A3 hS1 hb;refine rl.done (RW.seq (RW.cond_t rfl (RW.skip (RW.seq (RW.blk (RW.sreg ?_))))));obtain ⟨v3,e3,h5⟩:=A2 h4;refine rl.op (B4 (enc:=A1) (o:=false) rfl rfl rfl e3) ?_;refine rl.op (C5 (off':=0) (vs:=(A1 false v3)) B3 rfl e3 rfl rfl rfl) ?_;refine rl.f 2 rfl (RW.seq ?_);obtain ⟨y4,ey4,h6⟩:=A2 h5
   refine RW.cutq (σ:=Bool) (fun y4=>[(1,.fn 153 [.ptr 0 0,.ptr 1 0,.ptr 2 0]),(2,.fn 121 []),(6,.ptr 3 0),(8,.ptr 4 0),(9,.bool s1.1),(11,.ptr 5 0),(13,A5 x0),(14,.j (x0.length:Int)),(15,.j s1.2.1),(32,.bool y4)]) (fun y4=>[some ⟨[.j x1],0⟩,some ⟨[.j x2],0⟩,some ⟨[.j x3],0⟩,some ⟨[.j 0,.j 0,.j 0,.j 0,.j 0,.j 0,.str [],.str [],.str []],0⟩,some ⟨[.j s1.2.2.1,.j s1.2.2.2.1,.j s1.2.2.2.2.1,.j s1.2.2.2.2.2.1,.j s1.2.2.2.2.2.2.1,.j s1.2.2.2.2.2.2.2.1,.str s1.2.2.2.2.2.2.2.2.1,.str s1.2.2.2.2.2.2.2.2.2.1,.str s1.2.2.2.2.2.2.2.2.2.2],0⟩,some ⟨A1 false v3,0⟩]) (fun y=>y4=y) gg ?_ ?_
   ·refine RW.reg ?_;refine rl.run 3 rfl ?_;obtain ⟨v5,e5,h7⟩:=A2 ey4;refine rl.call rfl rfl rfl (A6.eR [0,1,2] (Dl e5) ?_)
    cases hb:v5
    ·have h8:=A4 h7 hb;refine rl.f 10 rfl ?_;cases h8
     exact ⟨_,rfl,(Gh.rN [0,1,2,3,4,5])⟩
    ·have h9:=A3 h7 hb;refine rl.run 4 rfl ?_
     cases hb:(!s1.1)
     ·have h10:=A4 h9 hb;refine rl.run 3 rfl ?_;obtain ⟨v6,e6,h11⟩:=A2 h10;refine rl.call rfl rfl rfl (A6.y (r':=.bool v6) (Bz e6) ?_)
      cases hb:v6
      ·have h12:=A4 h11 hb;refine rl.f 2 rfl ?_;cases h12
       exact ⟨_,rfl,(Gh.rN [0,1,2,3,4,5])⟩
      ·have h13:=A3 h11 hb;refine rl.f 2 rfl ?_;cases h13
       exact ⟨_,rfl,(Gh.rN [0,1,2,3,4,5])⟩
     ·have h14:=A3 h9 hb;refine rl.f 6 rfl ?_;cases h14
      exact ⟨_,rfl,(Gh.rN [0,1,2,3,4,5])⟩
   ·intro y hC
    subst hC
    cases hb:y4
    ·have h15:=A4 h6 hb;refine RW.cond_f rfl (RW.skip (RW.reg (rl.f 2 rfl ?_)));cases h15
     exact hB1 _ rfl _ _ (Gh.rN [0,1,2,3,4])
    ·have h16:=A3 h6 hb;refine RW.cond_t rfl (RW.reg (rl.f 3 rfl (RW.reg (rl.f 2 rfl ?_))));cases h16
     exact hB1 _ rfl _ _ (Gh.rN [0,1,2,3,4])
 ·intro y2 hC
  subst hC;refine RW.sf 4 rfl (RW.ret ?_);cases h2
  exact RRetS.m (Gh.rN [0,1,2])
theorem F9 {x0:List TItem} {x1:Int} {x2:Int} {x3:Int} {r:TItem×Bool} (hF:E3 x0 x1 x2 x3=some r):A8 Try.prog 123 [A5 x0,.j x1,.j x2,.j x3] (.tup [.agg (A1 true r.1),.bool r.2]):=by
 refine A8.q Jz ?_;unfold E3 at hF;refine RW.sf 5 rfl (RW.sr 2 rfl ?_);obtain ⟨v1,e1,h1⟩:=A2 hF;refine rl.call rfl rfl rfl (A6.eR [0,1,2] (Ah e1) ?_);refine rl.f 4 rfl ?_;refine RW.ka [8,9] [(8,.ptr 3 0),(9,.bool v1.2)] rfl ?_;refine RW.ret ?_;cases h1
 exact RRet.y
theorem Y6 {x0:List TItem} {x1:Int} {x2:Int} {r:TItem×Bool} (hF:F0 x0 x1 x2=some r):A8 Try.prog 122 [A5 x0,.j x1,.j x2] (.tup [.agg (A1 true r.1),.bool r.2]):=by
 refine A8.q Hj ?_;unfold F0 at hF;refine RW.sf 2 rfl (RW.seq (RW.sr 2 rfl ?_));obtain ⟨v1,e1,h1⟩:=A2 hF;refine rl.call rfl rfl rfl (A6.y (r':=.tup [.agg (A1 false v1.1),.bool v1.2]) (V1 e1) ?_);refine rl.f 6 rfl (RW.sf 2 rfl ?_)
 cases hb:(!v1.2)
 ·have h2:=A4 h1 hb;refine RW.cond_f rfl (RW.skip (RW.seq (RW.sr 3 rfl ?_)));obtain ⟨v2,e2,h3⟩:=A2 h2;refine rl.call rfl rfl rfl (A6.y (r':=.tup [.agg (A1 false v2.1),.bool v2.2]) (F9 e2) ?_);refine rl.f 6 rfl ?_;refine RW.ka [0,1,2,6,11] [(0,A5 x0),(1,.j x1),(2,.j x2),(6,.ptr 0 0),(11,.bool v2.2)] rfl ?_;refine RW.sf 1 rfl ?_
  cases hb:v2.2
  ·have h4:=A4 h3 hb;refine RW.cond_f rfl (RW.skip (RW.sr 3 rfl ?_));obtain ⟨v3,e3,h5⟩:=A2 h4;refine rl.call rfl rfl rfl (A6.y (r':=.tup [.agg (A1 false v3.1),.bool v3.2]) (F9 e3) ?_);refine rl.f 4 rfl ?_;refine RW.ka [6,7] [(6,.ptr 0 0),(7,.bool v3.2)] rfl ?_;refine RW.ret ?_;cases h5
   exact RRet.y
  ·have h6:=A3 h3 hb;refine RW.cond_t rfl (RW.sf 3 rfl (RW.ret ?_));cases h6
   exact RRet.y
 ·have h7:=A3 h1 hb;refine RW.cond_t rfl (RW.sf 3 rfl ?_);refine RW.ka [6,7] [(6,.ptr 0 0),(7,.bool false)] rfl ?_;refine RW.ret ?_;cases h7
  exact RRet.y
set_option maxHeartbeats 2000000 in
theorem Df {x0:List TItem} {x1:Int} {r:Bool} (hF:U8 x0 x1=some r):A8 Try.prog 85 [A5 x0,.j x1] (.bool r):=by
 refine A8.q Pd ?_;unfold U8 at hF;refine RW.sf 1 rfl (RW.sr 2 rfl ?_);obtain ⟨v1,e1,h1⟩:=A2 hF;refine rl.op (B4 (enc:=A1) (o:=false) rfl rfl rfl e1) ?_;refine rl.op (C5 (off':=0) (vs:=(A1 false v1)) B3 rfl e1 rfl rfl rfl) ?_;refine rl.f 2 rfl (RW.seq (RW.sr 2 rfl ?_));obtain ⟨v2,e2,h2⟩:=A2 h1;refine rl.op (Zx B3 rfl rfl rfl Vf e2) ?_;refine rl.run 1 rfl ?_;obtain ⟨v3,e3,h3⟩:=A2 h2;refine rl.call rfl rfl rfl (A6.eR [0] (W8 e3) ?_)
 cases hb:v3
 ·have h4:=A4 h3 hb;refine rl.done (RW.cond_f rfl (RW.skip (RW.sf 4 rfl ?_)));refine RW.ka [0,5,6] [(0,A5 x0),(5,.ptr 0 0),(6,.ptr 1 0)] rfl ?_;refine RW.sf 4 rfl (RW.seq (RW.sf 2 rfl ?_));obtain ⟨y4,ey4,h5⟩:=A2 h4
  refine RW.cutq (σ:=Bool×Int×Int×Int×Int×Int×Int×(List UInt8)×(List UInt8)×(List UInt8)) (fun y4=>[(5,.ptr 0 0),(7,.ptr 1 0),(8,.bool y4.1)]) (fun y4=>[some ⟨A1 false v1,0⟩,some ⟨[.j y4.2.1,.j y4.2.2.1,.j y4.2.2.2.1,.j y4.2.2.2.2.1,.j y4.2.2.2.2.2.1,.j y4.2.2.2.2.2.2.1,.str y4.2.2.2.2.2.2.2.1,.str y4.2.2.2.2.2.2.2.2.1,.str y4.2.2.2.2.2.2.2.2.2],0⟩]) (fun y=>y4=.inr y) gg ?_ ?_
  ·refine RW.blk ?_;refine RW.sreg ?_
   refine rl.gen rfl rfl fun b hb=>?_
   cases b
   ·have h6:=A4 ey4 hb;refine rl.f 1 rfl (RW.cond_f rfl (RW.sreg ?_))
    refine rl.gen rfl rfl fun b hb=>?_
    cases b
    ·have h7:=A4 h6 hb;refine rl.f 1 rfl (RW.cond_f rfl (RW.seq (RW.sreg ?_)))
     refine rl.gen rfl rfl fun b hb=>?_
     cases b
     ·have h8:=A4 h7 hb;refine rl.f 1 rfl ?_;obtain ⟨y5,ey5,h9⟩:=A2 h8
      refine RW.cutq (σ:=Bool) (fun y5=>[(0,A5 x0),(5,.ptr 0 0),(6,.ptr 1 0),(7,.ptr 2 0),(8,.bool false),(28,.j v1.Rec.Kind),(50,.bool y5)]) (fun y5=>[some ⟨A1 false v1,0⟩,some ⟨A7 false v1.Rec,0⟩,some ⟨[.j 0,.j 0,.j 0,.j 0,.j 0,.j 0,.str [],.str [],.str []],0⟩]) (fun y=>y5=y) gg ?_ ?_
      ·refine RW.cond_f rfl ?_;refine RW.reg ?_
       refine rl.gen rfl rfl fun b hb=>?_
       cases b
       ·have h10:=A4 ey5 hb;refine rl.f 1 rfl ?_;cases h10
        exact ⟨_,rfl,(Gh.y0 [0,1,2])⟩
       ·have h11:=A3 ey5 hb;refine rl.f 1 rfl ?_;cases h11
        exact ⟨_,rfl,(Gh.y0 [0,1,2])⟩
      ·intro y hC
       subst hC
       cases hb:y5
       ·have h12:=A4 h9 hb;refine RW.cond_f rfl (RW.sreg ?_)
        refine rl.gen rfl rfl fun b hb=>?_
        cases b
        ·have h13:=A4 h12 hb;refine rl.f 1 rfl (RW.cond_f rfl (RW.skip ?_));cases h13
         exact ⟨_,rfl,(Gh.y0 [0,2])⟩
        ·have h14:=A3 h12 hb;refine rl.f 1 rfl (RW.cond_t rfl (RW.sr 3 rfl ?_));obtain ⟨v6,e6,h15⟩:=A2 h14;refine rl.call rfl rfl rfl (A6.y (r':=.tup [.agg (A1 false v6.1),.bool v6.2]) (V1 e6) ?_);refine rl.f 6 rfl ?_;refine RW.ka [0,5,6,7,12] [(0,A5 x0),(5,.ptr 0 0),(6,.ptr 1 0),(7,.ptr 2 0),(12,.bool v6.2)] rfl ?_;refine RW.sr 5 rfl ?_;obtain ⟨v7,e7,h16⟩:=A2 h15;refine rl.call rfl rfl rfl (A6.y (r':=.tup [.agg (A1 false v7.1),.bool v7.2]) (F9 e7) ?_);refine rl.f 6 rfl (RW.seq (RW.sr 3 rfl ?_))
         cases hb:(!v6.2)
         ·have h17:=A4 h16 hb;refine rl.f 3 rfl ?_;refine RW.ka [0,5,6,7,98] [(0,A5 x0),(5,.ptr 0 0),(6,.ptr 1 0),(7,.ptr 2 0),(98,.bool (!v7.2))] rfl ?_
          cases hb:(!v7.2)
          ·have h18:=A4 h17 hb;refine RW.cond_f rfl (RW.skip (RW.reg (rl.run 5 rfl ?_)));obtain ⟨v8,e8,h19⟩:=A2 h18;refine rl.call rfl rfl rfl (A6.y (r':=.tup [.agg (A1 false v8.1),.bool v8.2]) (F9 e8) ?_);refine rl.f 5 rfl ?_;cases h19
           exact ⟨_,rfl,(Gh.y0 [0,2])⟩
          ·have h20:=A3 h17 hb;refine RW.cond_t rfl (RW.sf 1 rfl (RW.ret ?_));cases h20;have h21:=elimL h5 rfl;cases h21
           exact RRet.y
         ·have h22:=A3 h16 hb;refine rl.f 3 rfl ?_;refine RW.ka [0,5,6,7,98] [(0,A5 x0),(5,.ptr 0 0),(6,.ptr 1 0),(7,.ptr 2 0),(98,.bool true)] rfl ?_;refine RW.cond_t rfl (RW.sf 1 rfl (RW.ret ?_));cases h22;have h23:=elimL h5 rfl;cases h23
          exact RRet.y
       ·have h24:=A3 h9 hb;refine RW.cond_t rfl (RW.seq (RW.sr 5 rfl ?_));obtain ⟨v9,e9,h25⟩:=A2 h24;refine rl.call rfl rfl rfl (A6.y (r':=.tup [.agg (A1 false v9.1),.bool v9.2]) (Y6 e9) ?_);refine rl.f 6 rfl ?_;refine RW.ka [0,5,6,7,10] [(0,A5 x0),(5,.ptr 0 0),(6,.ptr 1 0),(7,.ptr 2 0),(10,.bool v9.2)] rfl ?_;refine RW.sf 2 rfl ?_
        cases hb:(!v9.2)
        ·have h26:=A4 h25 hb;refine RW.cond_f rfl (RW.skip (RW.reg (rl.run 7 rfl ?_)));obtain ⟨v10,e10,h27⟩:=A2 h26;refine rl.call rfl rfl rfl (A6.y (r':=.tup [.agg (A1 false v10.1),.bool v10.2]) (F9 e10) ?_);refine rl.f 5 rfl ?_;cases h27
         exact ⟨_,rfl,(Gh.y0 [0,2])⟩
        ·have h28:=A3 h25 hb;refine RW.cond_t rfl (RW.sf 1 rfl (RW.ret ?_));cases h28;have h29:=elimL h5 rfl;cases h29
         exact RRet.y
     ·have h30:=A3 h7 hb;refine rl.f 1 rfl (RW.cond_t rfl (RW.skip (RW.cond_t rfl (RW.seq (RW.sr 5 rfl ?_)))));obtain ⟨v11,e11,h31⟩:=A2 h30;refine rl.call rfl rfl rfl (A6.y (r':=.tup [.agg (A1 false v11.1),.bool v11.2]) (Y6 e11) ?_);refine rl.f 6 rfl ?_;refine RW.ka [0,5,6,7,10] [(0,A5 x0),(5,.ptr 0 0),(6,.ptr 1 0),(7,.ptr 2 0),(10,.bool v11.2)] rfl ?_;refine RW.sf 2 rfl ?_
      cases hb:(!v11.2)
      ·have h32:=A4 h31 hb;refine RW.cond_f rfl (RW.skip (RW.reg (rl.run 7 rfl ?_)));obtain ⟨v12,e12,h33⟩:=A2 h32;refine rl.call rfl rfl rfl (A6.y (r':=.tup [.agg (A1 false v12.1),.bool v12.2]) (F9 e12) ?_);refine rl.f 5 rfl ?_;cases h33
       exact ⟨_,rfl,(Gh.y0 [0,2])⟩
      ·have h34:=A3 h31 hb;refine RW.cond_t rfl (RW.sf 1 rfl (RW.ret ?_));cases h34;have h35:=elimL h5 rfl;cases h35
       exact RRet.y
    ·have h36:=A3 h6 hb;refine rl.f 1 rfl (RW.cond_t rfl (RW.seq (RW.sr 2 rfl ?_)));obtain ⟨v13,e13,h37⟩:=A2 h36;refine rl.call rfl rfl rfl (A6.eR [1] (W6 e13) ?_)
     cases hb:v13
     ·have h38:=A4 h37 hb;refine rl.f 1 rfl ?_;refine RW.ka [0,5,6,7,43] [(0,A5 x0),(5,.ptr 0 0),(6,.ptr 1 0),(7,.ptr 2 0),(43,.bool true)] rfl ?_;refine RW.cond_t rfl (RW.sf 1 rfl (RW.ret ?_));cases h38;have h39:=elimL h5 rfl;cases h39
      exact RRet.y
     ·have h40:=A3 h37 hb;refine rl.f 1 rfl ?_;refine RW.ka [0,5,6,7,43] [(0,A5 x0),(5,.ptr 0 0),(6,.ptr 1 0),(7,.ptr 2 0),(43,.bool false)] rfl ?_;refine RW.cond_f rfl (RW.skip (RW.reg (rl.run 2 rfl ?_)));obtain ⟨v14,e14,h41⟩:=A2 h40;refine rl.call rfl rfl rfl (A6.eR [1] (Av e14) ?_);refine rl.f 5 rfl ?_;cases h41
      exact ⟨_,rfl,(Gh.y0 [0,2])⟩
   ·have h42:=A3 ey4 hb;refine rl.f 1 rfl (RW.cond_t rfl (RW.reg (rl.run 3 rfl ?_)));obtain ⟨v15,e15,h43⟩:=A2 h42;refine rl.call rfl rfl rfl (A6.y (r':=.tup [.agg (A1 false v15.1),.bool v15.2]) (V1 e15) ?_);refine rl.f 5 rfl ?_;cases h43
    exact ⟨_,rfl,(Gh.y0 [0,2])⟩
  ·intro y4_ hC
   have h5:=elimR h5 hC;refine RW.sr 2 rfl ?_
   cases hb:y4_.1
   ·have h44:=A4 h5 hb;refine rl.f 5 rfl (RW.ret ?_);cases h44
    exact RRet.y
   ·have h45:=A3 h5 hb;refine rl.f 5 rfl (RW.ret ?_);cases h45
    exact RRet.y
 ·have h46:=A3 h3 hb;refine rl.done (RW.cond_t rfl (RW.sf 1 rfl ?_));refine RW.ka [4] [(4,.bool false)] rfl ?_;refine RW.ret ?_;cases h46
  exact RRet.y
set_option maxHeartbeats 2000000 in
theorem Fk {x0:List TItem} {r:List Bool} (hF:Q8 x0=some r):A8 Try.prog 30 [A5 x0] (.lst true 1 (fl (encO true) r) r.length):=by
 refine A8.q Hw ?_;unfold Q8 at hF;refine RW.sf 1 rfl (RW.sr 1 rfl ?_);obtain ⟨v1,e1,h1⟩:=A2 hF;refine rl.call rfl rfl rfl (A6.y (r':=.bool v1) (Aq e1) ?_)
 cases hb:v1
 ·have h2:=A4 h1 hb;refine rl.f 1 rfl (RW.sf 2 rfl (RW.seq (RW.sf 3 rfl ?_)));refine RW.gh (Gh.nil_t 4 1 rfl) ?_;obtain ⟨y5,ey5,h4⟩:=A2 h2
  refine RW.cutq (σ:=(List Bool)) (fun y3=>[(4,.sl 0 0 y3.length)]) (fun y3=>[some ⟨fl (encO true) y3,1⟩]) (fun y=>y5=y) gg ?_ ?_
  ·refine RW.blk ?_
   refine RW.iter (σ:=Int×(List Bool)) ey5 (fun s2=>[(0,A5 x0),(3,.bool false),(4,.sl 0 0 s2.2.length),(10,.j (x0.length:Int)),(11,.j s2.1)]) (fun s2=>[some ⟨fl (encO true) s2.2,1⟩]) (Gh.y0 [0]) (fun s2 B o hS3 hB3 hE3=>?_)
   unfold T8 at hS3;refine RW.sreg ?_
   refine rl.gen rfl rfl fun b hb=>?_
   cases b
   ·have h5:=A4 hS3 hb;refine rl.done (RW.seq (RW.cond_f rfl (RW.exit (B7 ?_))));cases h5
    exact ⟨_,(hE3 _ rfl).symm,(Gh.y0 [0])⟩
   ·have h6:=A3 hS3 hb;refine rl.done (RW.seq (RW.cond_t rfl (RW.skip (RW.seq (RW.blk (RW.sf 2 rfl (RW.reg (rl.run 8 rfl ?_))))))));obtain ⟨v4,e4,h7⟩:=A2 h6;refine rl.op (R8 rfl rfl (G0 (l:=s2.2) (m:=[false]) (o:=true) ekO rfl rfl (D2 (m:=[false]) (o:=true) fkO rfl rfl) rfl (fkO.fst _ _) e4)) ?_;refine rl.f 1 rfl (RW.reg (rl.f 2 rfl ?_));cases h7
    exact hB3 _ rfl _ _ (Gh.y0 [2])
  ·intro y3 hC
   subst hC;refine RW.sf 2 rfl (RW.ret ?_);cases h4
   exact RRet.y
 ·have h8:=A3 h1 hb;refine rl.f 1 rfl (RW.sf 2 rfl (RW.seq (RW.sf 3 rfl ?_)));refine RW.gh (Gh.nil_t 4 1 rfl) ?_;obtain ⟨y10,ey10,h10⟩:=A2 h8
  refine RW.cutq (σ:=(List Bool)) (fun y7=>[(4,.sl 0 0 y7.length)]) (fun y7=>[some ⟨fl (encO true) y7,1⟩]) (fun y=>y10=y) gg ?_ ?_
  ·refine RW.blk ?_
   refine RW.iter (σ:=Int×(List Bool)) ey10 (fun s6=>[(0,A5 x0),(3,.bool true),(4,.sl 0 0 s6.2.length),(10,.j (x0.length:Int)),(11,.j s6.1)]) (fun s6=>[some ⟨fl (encO true) s6.2,1⟩]) (Gh.y0 [0]) (fun s6 B o hS9 hB9 hE9=>?_)
   unfold T6 at hS9;refine RW.sreg ?_
   refine rl.gen rfl rfl fun b hb=>?_
   cases b
   ·have h11:=A4 hS9 hb;refine rl.done (RW.seq (RW.cond_f rfl (RW.exit (B7 ?_))));cases h11
    exact ⟨_,(hE9 _ rfl).symm,(Gh.y0 [0])⟩
   ·have h12:=A3 hS9 hb;refine rl.done (RW.seq (RW.cond_t rfl (RW.skip (RW.seq (RW.blk (RW.sf 2 rfl (RW.reg (rl.run 5 rfl ?_))))))));obtain ⟨v8,e8,h13⟩:=A2 h12;refine rl.call rfl rfl rfl (A6.y (r':=.bool v8) (Df e8) ?_);refine rl.run 2 rfl ?_;obtain ⟨v9,e9,h14⟩:=A2 h13;refine rl.op (R8 rfl rfl (G0 (l:=s6.2) (m:=[v8]) (o:=true) ekO rfl rfl (D2 (m:=[v8]) (o:=true) fkO rfl rfl) rfl (fkO.fst _ _) e9)) ?_;refine rl.f 1 rfl (RW.reg (rl.f 2 rfl ?_));cases h14
    exact hB9 _ rfl _ _ (Gh.y0 [2])
  ·intro y7 hC
   subst hC;refine RW.sf 2 rfl (RW.ret ?_);cases h10
   exact RRet.y
theorem Dg {x0:List TItem} {x1:Int} {r:Bool} (hF:J8 x0 x1=some r):A8 Try.prog 31 [A5 x0,.j x1] (.bool r):=by
 refine A8.q Pp ?_;unfold J8 at hF;refine RW.sf 1 rfl (RW.seq ?_);obtain ⟨y1,ey1,h1⟩:=A2 hF
 refine RW.cutq (σ:=Bool) (fun y1=>[(4,.bool y1)]) (fun y1=>[]) (fun y=>y1=y) gg ?_ ?_
 ·refine RW.reg ?_;refine rl.run 1 rfl ?_;obtain ⟨v2,e2,h2⟩:=A2 ey1;refine rl.call rfl rfl rfl (A6.y (r':=.bool v2) (Aq e2) ?_)
  cases hb:v2
  ·have h3:=A4 h2 hb;refine rl.f 13 rfl ?_;cases h3
   exact ⟨_,rfl,(Gh.y0 [])⟩
  ·have h4:=A3 h2 hb;refine rl.run 5 rfl ?_;obtain ⟨v3,e3,h5⟩:=A2 h4;refine rl.call rfl rfl rfl (A6.y (r':=.bool v3) (V8 e3) ?_)
   cases hb:v3
   ·have h6:=A4 h5 hb;refine rl.f 7 rfl ?_;cases h6
    exact ⟨_,rfl,(Gh.y0 [])⟩
   ·have h7:=A3 h5 hb;refine rl.run 4 rfl ?_;obtain ⟨v4,e4,h8⟩:=A2 h7;refine rl.call rfl rfl rfl (A6.y (r':=.bool v4) (Df e4) ?_);refine rl.f 2 rfl ?_;cases h8
    exact ⟨_,rfl,(Gh.y0 [])⟩
 ·intro y hC
  subst hC;refine RW.ret ?_;cases h1
  exact RRet.y
theorem Jc {x0:List Bool} {x1:Int} {r:Bool} (hF:W4 x0 x1=some r):A8 Try.prog 78 [L_O x0,.j x1] (.bool r):=by
 refine A8.q Lx ?_;unfold W4 at hF;refine RW.sf 1 rfl (RW.sr 3 rfl ?_)
 refine rl.gen rfl rfl fun b hb=>?_
 cases b
 ·have h1:=A4 hF hb;refine rl.f 7 rfl ?_;refine RW.ka [4] [(4,.bool false)] rfl ?_;refine RW.ret ?_;cases h1
  exact RRet.y
 ·have h2:=A3 hF hb;refine rl.run 3 rfl ?_;obtain ⟨v1,e1,h3⟩:=A2 h2;refine rl.gop rfl (B4 (enc:=encO) (o:=false) rfl rfl rfl e1) ?_;refine rl.gop rfl (G3 (off':=0) ekO rfl e1 rfl rfl rfl) ?_;refine rl.f 2 rfl ?_;refine RW.ka [4] [(4,.bool v1)] rfl ?_;refine RW.ret ?_;cases h3
  exact RRet.y
theorem Cj {x0:List TItem} {x1:List Bool} {r:List TItem} (hF:P2 x0 x1=some r):A8 Try.prog 33 [A5 x0,L_O x1] (.lst true 9 (fl (A1 true) r) r.length):=by
 refine A8.q Mc ?_;unfold P2 at hF;refine RW.sf 1 rfl (RW.sf 2 rfl (RW.seq (RW.sf 3 rfl ?_)));refine RW.gh (Gh.nil_t 5 9 rfl) ?_;obtain ⟨y6,ey6,h2⟩:=A2 hF
 refine RW.cutq (σ:=(List TItem)) (fun y2=>[(5,.sl 0 0 y2.length)]) (fun y2=>[some ⟨fl (A1 true) y2,9⟩]) (fun y=>y6=y) gg ?_ ?_
 ·refine RW.blk ?_
  refine RW.iter (σ:=Int×(List TItem)) ey6 (fun s1=>[(1,L_O x1),(5,.sl 0 0 s1.2.length),(9,A5 x0),(10,.j (x0.length:Int)),(11,.j s1.1)]) (fun s1=>[some ⟨fl (A1 true) s1.2,9⟩]) (Gh.y0 [0]) (fun s1 B o hS1 hB1 hE1=>?_)
  unfold R6 at hS1;refine RW.sreg ?_
  refine rl.gen rfl rfl fun b hb=>?_
  cases b
  ·have h3:=A4 hS1 hb;refine rl.done (RW.seq (RW.cond_f rfl (RW.exit (B7 ?_))));cases h3
   exact ⟨_,(hE1 _ rfl).symm,(Gh.y0 [0])⟩
  ·have h4:=A3 hS1 hb;refine rl.done (RW.seq (RW.cond_t rfl (RW.skip (RW.seq (RW.blk (RW.sr 1 rfl ?_))))));obtain ⟨v3,e3,h5⟩:=A2 h4;refine rl.op (B4 (enc:=A1) (o:=false) rfl rfl rfl e3) ?_;refine rl.op (C5 (off':=0) (vs:=(A1 false v3)) B3 rfl e3 rfl rfl rfl) ?_;refine rl.f 3 rfl (RW.sr 2 rfl ?_);obtain ⟨v4,e4,h6⟩:=A2 h5;refine rl.call rfl rfl rfl (A6.y (r':=.bool v4) (Jc e4) ?_)
   cases hb:v4
   ·have h7:=A4 h6 hb;refine rl.f 1 rfl (RW.cond_t rfl (RW.reg (rl.run 3 rfl ?_)));obtain ⟨v5,e5,h8⟩:=A2 h7;refine rl.op (R8 rfl rfl (G0 (l:=s1.2) (m:=[v3]) (o:=true) B3 rfl rfl (D2 (m:=[v3]) (o:=true) F5 rfl rfl) rfl (F5.fst _ _) e5)) ?_;refine rl.f 1 rfl (RW.reg (rl.f 2 rfl ?_));cases h8
    exact hB1 _ rfl _ _ (Gh.y0 [3])
   ·have h9:=A3 h6 hb;refine rl.f 1 rfl (RW.cond_f rfl (RW.skip (RW.reg (rl.f 2 rfl ?_))));cases h9
    exact hB1 _ rfl _ _ (Gh.y0 [0])
 ·intro y2 hC
  subst hC;refine RW.sf 2 rfl (RW.ret ?_);cases h2
  exact RRet.y
theorem Fb {x0:List TItem} {x1:List TItem} {r:Bool} (hF:R4 x0 x1=some r):A8 Try.prog 36 [A5 x0,A5 x1] (.bool r):=by
 refine A8.q Hn ?_;unfold R4 at hF;refine RW.sf 1 rfl (RW.seq (RW.sr 4 rfl ?_))
 refine rl.gen rfl rfl fun b hb=>?_
 cases b
 ·have h1:=A4 hF hb;refine rl.done (RW.cond_f rfl (RW.skip (RW.seq (RW.sf 1 rfl ?_))));obtain ⟨y5,ey5,h3⟩:=A2 h1
  refine RW.cutq (σ:=Unit) (fun y2=>[]) (fun y2=>[]) (fun y=>y5=.inr y) gg ?_ ?_
  ·refine RW.blk ?_
   refine RW.iter (σ:=Int) ey5 (fun s1=>[(0,A5 x0),(1,A5 x1),(5,.j s1)]) (fun s1=>[]) (Gh.y0 []) (fun s1 B o hS2 hB2 hE2=>?_)
   unfold T1 at hS2;refine RW.seq (RW.sr 3 rfl ?_)
   refine rl.gen rfl rfl fun b hb=>?_
   cases b
   ·have h4:=A4 hS2 hb;refine rl.done (RW.cond_f rfl (RW.exit (B7 ?_)));cases h4
    exact ⟨_,(hE2 _ rfl).symm,(Gh.y0 [])⟩
   ·have h5:=A3 hS2 hb;refine rl.done (RW.cond_t rfl (RW.skip (RW.seq (RW.blk (RW.sdrw (A0.op rfl rfl (A0.op rfl rfl ?_)))))));obtain ⟨v3,e3,h6⟩:=A2 h5;refine A0.op rfl (B4 (enc:=A1) (o:=false) rfl rfl rfl e3) ?_;refine A0.op rfl (C5 (off':=0) (vs:=(A1 false v3)) B3 rfl e3 rfl rfl rfl) ?_;refine A0.op rfl rfl (A0.op rfl rfl ?_);obtain ⟨v4,e4,h7⟩:=A2 h6;refine A0.op rfl (B4 (enc:=A1) (o:=false) rfl rfl rfl e4) ?_;refine A0.op rfl (C5 (off':=0) (vs:=(A1 false v4)) B3 rfl e4 rfl rfl rfl) ?_
    refine A0.gen rfl rfl fun b hb=>?_
    cases b
    ·have h8:=A4 h7 hb;refine A0.done ?_;refine RW.ka [0,1,5,25] [(0,A5 x0),(1,A5 x1),(5,.j s1),(25,.bool false)] rfl ?_;refine RW.cond_f rfl (RW.skip (RW.reg (rl.f 3 rfl ?_)));cases h8
     exact hB2 _ rfl _ _ (Gh.y0 [])
    ·have h9:=A3 h7 hb;refine A0.done ?_;refine RW.ka [0,1,5,25] [(0,A5 x0),(1,A5 x1),(5,.j s1),(25,.bool true)] rfl ?_;refine RW.cond_t rfl (RW.sf 1 rfl (RW.ret ?_));cases h9;have h10:=elimL h3 (hE2 _ rfl);cases h10
     exact RRet.y
  ·intro y2 hC
   have h3:=elimR h3 hC;refine RW.sf 1 rfl (RW.ret ?_);cases h3
   exact RRet.y
 ·have h11:=A3 hF hb;refine rl.done (RW.cond_t rfl (RW.sf 1 rfl (RW.ret ?_)));cases h11
  exact RRet.y
theorem Ae {x0:List Int} {B0_ o0_:Nat} {r:TL01Cur} (hF:J5 x0=some r):B2 Try.prog 0 47 [pvB B0_ o0_ x0] [] (.ptr 0 0) [some ⟨[pvB B0_ o0_ x0,.j r.mI,.j r.mH],0⟩]:=by
 refine B2.p Pq ?_;unfold J5 at hF;refine RW.sf 1 rfl (RW.sf 4 rfl (RW.seq (RW.sf 1 rfl ?_)));obtain ⟨y5,ey5,h2⟩:=A2 hF
 refine RW.cutq (σ:=Int) (fun y2=>[(0,pvB B0_ o0_ x0),(3,.j y2)]) (fun y2=>[]) (fun y=>y5=y) gg ?_ ?_
 ·refine RW.blk ?_
  refine RW.iter (σ:=Int×Int) ey5 (fun s1=>[(0,pvB B0_ o0_ x0),(3,.j s1.1),(4,.j s1.2)]) (fun s1=>[]) (Gh.y0 []) (fun s1 B o hS1 hB1 hE1=>?_)
  unfold U9 at hS1;refine RW.seq (RW.seq ?_);obtain ⟨y3,ey3,h3⟩:=A2 hS1
  refine RW.cutq (σ:=Bool) (fun y3=>[(0,pvB B0_ o0_ x0),(3,.j s1.1),(4,.j s1.2),(15,.bool y3)]) (fun y3=>[]) (fun y=>y3=y) gg ?_ ?_
  ·refine RW.reg ?_;refine rl.run 3 rfl ?_
   refine rl.gen rfl rfl fun b hb=>?_
   cases b
   ·have h4:=A4 ey3 hb;refine rl.f 4 rfl ?_;cases h4
    exact ⟨_,rfl,(Gh.y0 [])⟩
   ·have h5:=A3 ey3 hb;refine rl.run 2 rfl ?_
    refine rl.gen rfl rfl fun b hb=>?_
    cases b
    ·have h6:=A4 h5 hb;refine rl.f 1 rfl ?_;cases h6
     exact ⟨_,rfl,(Gh.y0 [])⟩
    ·have h7:=A3 h5 hb;refine rl.f 1 rfl ?_;cases h7
     exact ⟨_,rfl,(Gh.y0 [])⟩
  ·intro y hC
   subst hC
   cases hb:y3
   ·have h8:=A4 h3 hb;refine RW.cond_f rfl (RW.exit (B7 ?_));cases h8
    exact ⟨_,(hE1 _ rfl).symm,(Gh.y0 [])⟩
   ·have h9:=A3 h3 hb;refine RW.cond_t rfl (RW.skip (RW.seq (RW.blk (RW.reg (rl.run 4 rfl ?_)))));obtain ⟨v4,e4,h10⟩:=A2 h9;refine rl.op (Zd (enc:=encB) (o:=false) rfl rfl rfl e4) ?_;refine rl.op (G3 (off':=0) ekB rfl e4 rfl rfl rfl) ?_;refine rl.f 5 rfl (RW.reg (rl.f 3 rfl ?_));cases h10
    exact hB1 _ rfl _ _ (Gh.y0 [])
 ·intro y2 hC
  subst hC;refine RW.sf 5 rfl (RW.ret ?_);cases h2
  exact RRetM.m [0] Gh.refl
theorem K3 {x0:TL01Cur} {B0_ o0_:Nat} {r:Int×TL01Cur} (hF:E9 x0=some r):B2 Try.prog 0 71 [.ptr 0 0] [some ⟨[pvB B0_ o0_ x0.mB,.j x0.mI,.j x0.mH],0⟩] (.j r.1) [some ⟨[pvB B0_ o0_ x0.mB,.j r.2.mI,.j r.2.mH],0⟩]:=by
 refine B2.q Ll ?_;unfold E9 at hF;refine RW.sf 1 rfl (RW.sf 10 rfl (RW.sdrw (A0.op rfl rfl (A0.op rfl rfl (A0.op rfl rfl (A0.op rfl rfl (A0.op rfl rfl ?_)))))));refine A0.op rfl rfl (A0.op rfl rfl (A0.op rfl rfl (A0.op rfl rfl (A0.op rfl rfl (A0.op rfl rfl (A0.op rfl rfl (A0.op rfl rfl (A0.done ?_))))))));refine RW.ka [0,3] [(0,.ptr 0 0),(3,.j (andv .i64 (xorv .i64 (shrv .i64 (w64 ((w64 (x0.mH*6364136223846793005))+1442695040888963407)) 33) (shrv .i64 (w64 ((w64 (x0.mH*6364136223846793005))+1442695040888963407)) 45)) 255))] rfl ?_;refine RW.seq (RW.sdrw (A0.op rfl rfl (A0.op rfl rfl (A0.op rfl rfl (A0.op rfl rfl (A0.op rfl rfl (A0.op rfl rfl (A0.op rfl rfl (A0.op rfl rfl (A0.op rfl rfl ?_))))))))))
 refine A0.gen rfl rfl fun b hb=>?_
 cases b
 ·have h1:=A4 hF hb;refine A0.done (RW.cond_f rfl (RW.skip (RW.sf 2 rfl ?_)));refine RW.ka [2] [(2,.j (andv .i64 (xorv .i64 (shrv .i64 (w64 ((w64 (x0.mH*6364136223846793005))+1442695040888963407)) 33) (shrv .i64 (w64 ((w64 (x0.mH*6364136223846793005))+1442695040888963407)) 45)) 255))] rfl ?_;refine RW.ret ?_;cases h1
  exact RRetS.m (Gh.rN [0])
 ·have h2:=A3 hF hb;refine A0.done (RW.cond_t rfl (RW.sdrw (A0.op rfl rfl (A0.op rfl rfl (A0.op rfl rfl (A0.op rfl rfl (A0.op rfl rfl (A0.op rfl rfl (A0.op rfl rfl (A0.op rfl rfl (A0.op rfl rfl ?_)))))))))));obtain ⟨v1,e1,h3⟩:=A2 h2;refine A0.op rfl (B4 (enc:=encB) (o:=false) rfl rfl rfl e1) ?_;refine A0.op rfl (G3 (off':=0) ekB rfl e1 rfl rfl rfl) ?_;refine A0.op rfl rfl (A0.op rfl rfl (A0.op rfl rfl (A0.op rfl rfl (A0.done ?_))));refine RW.ka [0,3] [(0,.ptr 0 0),(3,.j (andv .i64 (w64 ((andv .i64 (xorv .i64 (shrv .i64 (w64 ((w64 (x0.mH*6364136223846793005))+1442695040888963407)) 33) (shrv .i64 (w64 ((w64 (x0.mH*6364136223846793005))+1442695040888963407)) 45)) 255)+(w64 v1))) 255))] rfl ?_;refine RW.reg (rl.f 9 rfl (RW.sf 2 rfl ?_));refine RW.ka [2] [(2,.j (andv .i64 (w64 ((andv .i64 (xorv .i64 (shrv .i64 (w64 ((w64 (x0.mH*6364136223846793005))+1442695040888963407)) 33) (shrv .i64 (w64 ((w64 (x0.mH*6364136223846793005))+1442695040888963407)) 45)) 255)+(w64 v1))) 255))] rfl ?_;refine RW.ret ?_;cases h3
  exact RRetS.m (Gh.rN [0])
theorem B5 {x0:TL01Cur} {x1:Int} {B0_ o0_:Nat} {r:Int×TL01Cur} (hF:A9 x0 x1=some r):B2 Try.prog 0 72 [.ptr 0 0,.j x1] [some ⟨[pvB B0_ o0_ x0.mB,.j x0.mI,.j x0.mH],0⟩] (.j r.1) [some ⟨[pvB B0_ o0_ x0.mB,.j r.2.mI,.j r.2.mH],0⟩]:=by
 refine B2.q Kk ?_;unfold A9 at hF;refine RW.sf 1 rfl (RW.seq (RW.sr 1 rfl ?_))
 refine rl.gen rfl rfl fun b hb=>?_
 cases b
 ·have h1:=A4 hF hb;refine rl.done (RW.cond_f rfl (RW.skip (RW.seq (RW.sr 1 rfl ?_))))
  refine rl.gen rfl rfl fun b hb=>?_
  cases b
  ·have h2:=A4 h1 hb;refine rl.done (RW.cond_f rfl (RW.skip (RW.sr 1 rfl ?_)));obtain ⟨v1,e1,h3⟩:=A2 h2;refine rl.call rfl rfl rfl (A6.eN (r0:=.j v1.1) (H':=[some ⟨[pvB B0_ o0_ x0.mB,.j v1.2.mI,.j v1.2.mH],0⟩]) [⟨[pvB B0_ o0_ x0.mB,.j x0.mI,.j x0.mH],0⟩] [⟨[pvB B0_ o0_ x0.mB,.j v1.2.mI,.j v1.2.mH],0⟩] [] [0] [pvB B0_ o0_ x0.mB] (K3 e1) ?_);refine rl.f 1 rfl (RW.sr 1 rfl ?_);obtain ⟨v2,e2,h4⟩:=A2 h3;refine rl.call rfl rfl rfl (A6.eN (r0:=.j v2.1) (H':=[some ⟨[pvB B0_ o0_ x0.mB,.j v2.2.mI,.j v2.2.mH],0⟩]) [⟨[pvB B0_ o0_ x0.mB,.j v1.2.mI,.j v1.2.mH],0⟩] [⟨[pvB B0_ o0_ x0.mB,.j v2.2.mI,.j v2.2.mH],0⟩] [] [0] [pvB B0_ o0_ x0.mB] (K3 e2) ?_);refine rl.f 1 rfl (RW.sr 1 rfl ?_);obtain ⟨v3,e3,h5⟩:=A2 h4;refine rl.call rfl rfl rfl (A6.eN (r0:=.j v3.1) (H':=[some ⟨[pvB B0_ o0_ x0.mB,.j v3.2.mI,.j v3.2.mH],0⟩]) [⟨[pvB B0_ o0_ x0.mB,.j v2.2.mI,.j v2.2.mH],0⟩] [⟨[pvB B0_ o0_ x0.mB,.j v3.2.mI,.j v3.2.mH],0⟩] [] [0] [pvB B0_ o0_ x0.mB] (K3 e3) ?_);refine rl.f 1 rfl ?_;refine RW.ka [0,1,5,6,7] [(0,.ptr 0 0),(1,.j x1),(5,.j v1.1),(6,.j v2.1),(7,.j v3.1)] rfl ?_;refine RW.sr 1 rfl ?_;obtain ⟨v4,e4,h6⟩:=A2 h5;refine rl.call rfl rfl rfl (A6.eN (r0:=.j v4.1) (H':=[some ⟨[pvB B0_ o0_ x0.mB,.j v4.2.mI,.j v4.2.mH],0⟩]) [⟨[pvB B0_ o0_ x0.mB,.j v3.2.mI,.j v3.2.mH],0⟩] [⟨[pvB B0_ o0_ x0.mB,.j v4.2.mI,.j v4.2.mH],0⟩] [] [0] [pvB B0_ o0_ x0.mB] (K3 e4) ?_);refine rl.f 1 rfl (RW.sr 11 rfl ?_);obtain ⟨v5,e5,h7⟩:=A2 h6;refine rl.op (Zy rfl rfl e5) ?_;refine rl.f 1 rfl ?_;refine RW.ka [4] [(4,.j v5)] rfl ?_;refine RW.ret ?_;cases h7
   exact RRetS.m (Gh.rN [0])
  ·have h8:=A3 h1 hb;refine rl.done (RW.cond_t rfl (RW.sr 1 rfl ?_));obtain ⟨v6,e6,h9⟩:=A2 h8;refine rl.call rfl rfl rfl (A6.eN (r0:=.j v6.1) (H':=[some ⟨[pvB B0_ o0_ x0.mB,.j v6.2.mI,.j v6.2.mH],0⟩]) [⟨[pvB B0_ o0_ x0.mB,.j x0.mI,.j x0.mH],0⟩] [⟨[pvB B0_ o0_ x0.mB,.j v6.2.mI,.j v6.2.mH],0⟩] [] [0] [pvB B0_ o0_ x0.mB] (K3 e6) ?_);refine rl.run 1 rfl ?_;obtain ⟨v7,e7,h10⟩:=A2 h9;refine rl.op (Zy rfl rfl e7) ?_;refine rl.f 1 rfl (RW.ret ?_);cases h10
   exact RRetS.m (Gh.rN [0])
 ·have h11:=A3 hF hb;refine rl.done (RW.cond_t rfl (RW.sf 1 rfl (RW.ret ?_)));cases h11
  exact RRetS.m (Gh.rN [0])
theorem T5 {x0:TL01Cur} {x1:Int} {B0_ o0_:Nat} {r:Bool×TL01Cur} (hF:E4 x0 x1=some r):B2 Try.prog 0 111 [.ptr 0 0,.j x1] [some ⟨[pvB B0_ o0_ x0.mB,.j x0.mI,.j x0.mH],0⟩] (.bool r.1) [some ⟨[pvB B0_ o0_ x0.mB,.j r.2.mI,.j r.2.mH],0⟩]:=by
 refine B2.q Kv ?_;unfold E4 at hF;refine RW.sf 1 rfl (RW.sr 2 rfl ?_);obtain ⟨v1,e1,h1⟩:=A2 hF;refine rl.call rfl rfl rfl (A6.eN (r0:=.j v1.1) (H':=[some ⟨[pvB B0_ o0_ x0.mB,.j v1.2.mI,.j v1.2.mH],0⟩]) [⟨[pvB B0_ o0_ x0.mB,.j x0.mI,.j x0.mH],0⟩] [⟨[pvB B0_ o0_ x0.mB,.j v1.2.mI,.j v1.2.mH],0⟩] [] [0] [pvB B0_ o0_ x0.mB] (B5 e1) ?_);refine rl.f 2 rfl (RW.ret ?_);cases h1
 exact RRetS.m (Gh.rN [0])
theorem Ak {x0:TL01Cur} {x1:List Int} {B0_ o0_:Nat} {r:Int×TL01Cur} (hF:G7 x0 x1=some r):B2 Try.prog 0 125 [.ptr 0 0,.sl 1 0 x1.length] [some ⟨[pvB B0_ o0_ x0.mB,.j x0.mI,.j x0.mH],0⟩,some ⟨fl (encI true) x1,1⟩] (.j r.1) [some ⟨[pvB B0_ o0_ x0.mB,.j r.2.mI,.j r.2.mH],0⟩,some ⟨fl (encI true) x1,1⟩]:=by
 refine B2.q Fx ?_;unfold G7 at hF;refine RW.sf 1 rfl (RW.sr 4 rfl ?_);obtain ⟨v1,e1,h1⟩:=A2 hF;refine rl.call rfl rfl rfl (A6.eN (r0:=.j v1.1) (H':=[some ⟨[pvB B0_ o0_ x0.mB,.j v1.2.mI,.j v1.2.mH],0⟩,some ⟨fl (encI true) x1,1⟩]) [⟨[pvB B0_ o0_ x0.mB,.j x0.mI,.j x0.mH],0⟩] [⟨[pvB B0_ o0_ x0.mB,.j v1.2.mI,.j v1.2.mH],0⟩] [] [0] [pvB B0_ o0_ x0.mB] (B5 e1) ?_);obtain ⟨v2,e2,h2⟩:=A2 h1;refine rl.op (M3 rfl rfl rfl rfl e2) ?_;refine rl.op (V6 (o:=true) (off':=0) ekI rfl rfl e2 rfl rfl rfl) ?_;refine rl.f 1 rfl (RW.ret ?_);cases h2
 exact RRetS.m (Gh.rN [0,1])
theorem Ev {x0:TL01Cur} {x1:Int} {B0_ o0_:Nat} {r:Int×TL01Cur} (hF:L7 x0 x1=some r):B2 Try.prog 0 87 [.ptr 0 0,.j x1] [some ⟨[pvB B0_ o0_ x0.mB,.j x0.mI,.j x0.mH],0⟩] (.j r.1) [some ⟨[pvB B0_ o0_ x0.mB,.j r.2.mI,.j r.2.mH],0⟩]:=by
 refine B2.q Kg ?_;unfold L7 at hF;refine RW.sf 1 rfl (RW.seq (RW.sr 1 rfl ?_));obtain ⟨v1,e1,h1⟩:=A2 hF;refine rl.call rfl rfl rfl (A6.eN (r0:=.bool v1.1) (H':=[some ⟨[pvB B0_ o0_ x0.mB,.j v1.2.mI,.j v1.2.mH],0⟩]) [⟨[pvB B0_ o0_ x0.mB,.j x0.mI,.j x0.mH],0⟩] [⟨[pvB B0_ o0_ x0.mB,.j v1.2.mI,.j v1.2.mH],0⟩] [] [0] [pvB B0_ o0_ x0.mB] (T5 e1) ?_)
 cases hb:v1.1
 ·have h2:=A4 h1 hb;refine rl.done (RW.cond_f rfl (RW.skip (RW.sr 2 rfl ?_)));obtain ⟨v2,e2,h3⟩:=A2 h2;refine rl.call rfl rfl rfl (A6.eN (r0:=.j v2.1) (H':=[some ⟨[pvB B0_ o0_ x0.mB,.j v2.2.mI,.j v2.2.mH],0⟩]) [⟨[pvB B0_ o0_ x0.mB,.j v1.2.mI,.j v1.2.mH],0⟩] [⟨[pvB B0_ o0_ x0.mB,.j v2.2.mI,.j v2.2.mH],0⟩] [] [0] [pvB B0_ o0_ x0.mB] (B5 e2) ?_);refine rl.f 1 rfl (RW.ret ?_);cases h3
  exact RRetS.m (Gh.rN [0])
 ·have h4:=A3 h1 hb;refine rl.done (RW.cond_t rfl (RW.sr 5 rfl ?_));obtain ⟨v3,e3,h5⟩:=A2 h4;refine rl.call rfl rfl rfl (A6.eN (r0:=.j v3.1) (H':=[some ⟨[pvB B0_ o0_ x0.mB,.j v3.2.mI,.j v3.2.mH],0⟩,some ⟨fl (encI true) [(-1),x1,w64 (x1+1),9223372036854775807,(-9223372036854775808)],1⟩]) [⟨[pvB B0_ o0_ x0.mB,.j v1.2.mI,.j v1.2.mH],0⟩,⟨fl (encI true) [(-1),x1,w64 (x1+1),9223372036854775807,(-9223372036854775808)],1⟩] [⟨[pvB B0_ o0_ x0.mB,.j v3.2.mI,.j v3.2.mH],0⟩,⟨fl (encI true) [(-1),x1,w64 (x1+1),9223372036854775807,(-9223372036854775808)],1⟩] [] [0,1] [pvB B0_ o0_ x0.mB] (Ak e3) ?_);refine rl.f 1 rfl (RW.ret ?_);cases h5
  exact RRetS.m (Gh.rN [0])
theorem Ho {x0:Int} {x1:Int} {r:List UInt8} (hF:W0 x0 x1=some r):A8 Try.prog 154 [.j x0,.int .u8 x1] (.str r):=by
 refine A8.q Lw ?_;unfold W0 at hF;refine RW.sf 1 rfl (RW.sr 1 rfl ?_);obtain ⟨v1,e1,h1⟩:=A2 hF;refine rl.op (x_ms ekB rfl rfl e1 rfl) ?_;refine rl.f 1 rfl (RW.seq (RW.sf 1 rfl ?_));obtain ⟨y6,ey6,h3⟩:=A2 h1
 refine RW.cutq (σ:=(List Int)) (fun y3=>[(5,.sl 0 0 y3.length)]) (fun y3=>[some ⟨fl (encB true) y3,1⟩]) (fun y=>y6=y) gg ?_ ?_
 ·refine RW.blk ?_
  refine RW.iter (σ:=Int×(List Int)) ey6 (fun s2=>[(0,.j x0),(1,.int .u8 x1),(5,.sl 0 0 s2.2.length),(6,.j s2.1)]) (fun s2=>[some ⟨fl (encB true) s2.2,1⟩]) (Gh.y0 [0]) (fun s2 B o hS2 hB2 hE2=>?_)
  unfold P8 at hS2;refine RW.seq (RW.sr 2 rfl ?_)
  refine rl.gen rfl rfl fun b hb=>?_
  cases b
  ·have h4:=A4 hS2 hb;refine rl.done (RW.cond_f rfl (RW.exit (B7 ?_)));cases h4
   exact ⟨_,(hE2 _ rfl).symm,(Gh.y0 [0])⟩
  ·have h5:=A3 hS2 hb;refine rl.done (RW.cond_t rfl (RW.skip (RW.seq (RW.blk (RW.reg (rl.run 3 rfl ?_))))));obtain ⟨v4,e4,h6⟩:=A2 h5;refine rl.op (M3 rfl rfl rfl rfl e4) ?_;obtain ⟨v5,e5,h7⟩:=A2 h6;refine rl.op0 (Yu (off':=0) (o:=true) (e':=x1) ekB e4 rfl rfl rfl rfl rfl rfl rfl rfl rfl e5) ?_;refine rl.done (RW.reg (rl.f 3 rfl ?_));cases h7
   exact hB2 _ rfl _ _ (Gh.ren0 [0] (.same rfl (ekB.fref _ _) .nil) rfl (.i rfl (.i rfl (.cons rfl (.slq rfl (Xq e5)) (.i rfl .nil)))))
 ·intro y3 hC
  subst hC;refine RW.sr 1 rfl ?_;refine rl.op (Yt (o:=true) (l:=y6) rfl rfl) ?_;refine rl.f 1 rfl (RW.ret ?_);cases h3
  exact RRet.y
theorem Y9 {x0:TL01Cur} {x1:List (List UInt8)} {B0_ o0_:Nat} {r:(List UInt8)×TL01Cur} (hF:H4 x0 x1=some r):B2 Try.prog 0 137 [.ptr 0 0,.sl 1 0 x1.length] [some ⟨[pvB B0_ o0_ x0.mB,.j x0.mI,.j x0.mH],0⟩,some ⟨fl (encS true) x1,1⟩] (.str r.1) [some ⟨[pvB B0_ o0_ x0.mB,.j r.2.mI,.j r.2.mH],0⟩,some ⟨fl (encS true) x1,1⟩]:=by
 refine B2.q Mf ?_;unfold H4 at hF;refine RW.sf 1 rfl (RW.sr 4 rfl ?_);obtain ⟨v1,e1,h1⟩:=A2 hF;refine rl.call rfl rfl rfl (A6.eN (r0:=.j v1.1) (H':=[some ⟨[pvB B0_ o0_ x0.mB,.j v1.2.mI,.j v1.2.mH],0⟩,some ⟨fl (encS true) x1,1⟩]) [⟨[pvB B0_ o0_ x0.mB,.j x0.mI,.j x0.mH],0⟩] [⟨[pvB B0_ o0_ x0.mB,.j v1.2.mI,.j v1.2.mH],0⟩] [] [0] [pvB B0_ o0_ x0.mB] (B5 e1) ?_);obtain ⟨v2,e2,h2⟩:=A2 h1;refine rl.op (M3 rfl rfl rfl rfl e2) ?_;refine rl.op (V6 (o:=true) (off':=0) ekS rfl rfl e2 rfl rfl rfl) ?_;refine rl.f 1 rfl (RW.ret ?_);cases h2
 exact RRetS.m (Gh.rN [0,1])
theorem Fo {x0:TL01Cur} {B0_ o0_:Nat} {r:(List UInt8)×TL01Cur} (hF:Q1 x0=some r):B2 Try.prog 0 138 [.ptr 0 0] [some ⟨[pvB B0_ o0_ x0.mB,.j x0.mI,.j x0.mH],0⟩] (.str r.1) [some ⟨[pvB B0_ o0_ x0.mB,.j r.2.mI,.j r.2.mH],0⟩]:=by
 refine B2.q Mk ?_;unfold Q1 at hF;refine RW.sf 1 rfl (RW.sr 2 rfl ?_);obtain ⟨v1,e1,h1⟩:=A2 hF;refine rl.call rfl rfl rfl (A6.eN (r0:=.str v1.1) (H':=[some ⟨[pvB B0_ o0_ x0.mB,.j v1.2.mI,.j v1.2.mH],0⟩,some ⟨fl (encS true) [[104,101,108,108,111],[102,114,111,109,58,32,97,110,110,10,10,104,105],[115,117,98,106,101,99,116,58,32,120,10,10,98,111,100,121,32,111,102,32,105,116,10,46,100,111,116,10],[],[120,10,46,46,10]],1⟩]) [⟨[pvB B0_ o0_ x0.mB,.j x0.mI,.j x0.mH],0⟩,⟨fl (encS true) [[104,101,108,108,111],[102,114,111,109,58,32,97,110,110,10,10,104,105],[115,117,98,106,101,99,116,58,32,120,10,10,98,111,100,121,32,111,102,32,105,116,10,46,100,111,116,10],[],[120,10,46,46,10]],1⟩] [⟨[pvB B0_ o0_ x0.mB,.j v1.2.mI,.j v1.2.mH],0⟩,⟨fl (encS true) [[104,101,108,108,111],[102,114,111,109,58,32,97,110,110,10,10,104,105],[115,117,98,106,101,99,116,58,32,120,10,10,98,111,100,121,32,111,102,32,105,116,10,46,100,111,116,10],[],[120,10,46,46,10]],1⟩] [] [0,1] [pvB B0_ o0_ x0.mB] (Y9 e1) ?_);refine rl.f 1 rfl (RW.ret ?_);cases h1
 exact RRetS.m (Gh.rN [0])
set_option maxHeartbeats 2000000 in
theorem V2 {x0:TL01Cur} {B0_ o0_:Nat} {r:TRec×TL01Cur} (hF:F6 x0=some r):B2 Try.prog 0 95 [.ptr 0 0] [some ⟨[pvB B0_ o0_ x0.mB,.j x0.mI,.j x0.mH],0⟩] (.agg (A7 true r.1)) [some ⟨[pvB B0_ o0_ x0.mB,.j r.2.mI,.j r.2.mH],0⟩]:=by
 refine B2.q Pf ?_;unfold F6 at hF;refine RW.sf 1 rfl (RW.sr 2 rfl ?_);obtain ⟨v1,e1,h1⟩:=A2 hF;refine rl.call rfl rfl rfl (A6.eN (r0:=.j v1.1) (H':=[some ⟨[pvB B0_ o0_ x0.mB,.j v1.2.mI,.j v1.2.mH],0⟩,some ⟨[.j 0,.j 0,.j 0,.j 0,.j 0,.str [],.str [],.str []],0⟩,some ⟨fl (encI true) ([1,1,2,3,3,3,3,4,4,5,5]:List Int),1⟩]) [⟨[pvB B0_ o0_ x0.mB,.j x0.mI,.j x0.mH],0⟩,⟨fl (encI true) ([1,1,2,3,3,3,3,4,4,5,5]:List Int),1⟩] [⟨[pvB B0_ o0_ x0.mB,.j v1.2.mI,.j v1.2.mH],0⟩,⟨fl (encI true) ([1,1,2,3,3,3,3,4,4,5,5]:List Int),1⟩] [] [0,2] [pvB B0_ o0_ x0.mB] (Ak e1) ?_);refine rl.run 1 rfl ?_;obtain ⟨v2,e2,h2⟩:=A2 h1;refine rl.call rfl rfl rfl (A6.eN (r0:=.j v2.1) (H':=[some ⟨[pvB B0_ o0_ x0.mB,.j v2.2.mI,.j v2.2.mH],0⟩,some ⟨[.j 0,.j 0,.j 0,.j 0,.j 0,.str [],.str [],.str []],0⟩,some ⟨fl (encI true) ([1,1,2,3,3,3,3,4,4,5,5]:List Int),1⟩]) [⟨[pvB B0_ o0_ x0.mB,.j v1.2.mI,.j v1.2.mH],0⟩] [⟨[pvB B0_ o0_ x0.mB,.j v2.2.mI,.j v2.2.mH],0⟩] [] [0] [pvB B0_ o0_ x0.mB] (B5 e2) ?_);refine rl.f 4 rfl (RW.seq (RW.sf 2 rfl (RW.blk (RW.sreg ?_))))
 refine rl.gen rfl rfl fun b hb=>?_
 cases b
 ·have h3:=A4 h2 hb;refine rl.f 1 rfl (RW.cond_f rfl (RW.sreg ?_))
  refine rl.gen rfl rfl fun b hb=>?_
  cases b
  ·have h4:=A4 h3 hb;refine rl.f 1 rfl ?_;refine RW.ka [0,2,3,12,27] [(0,.ptr 0 0),(2,.ptr 1 0),(3,.ptr 3 0),(12,.j v1.1),(27,.bool false)] rfl ?_;refine RW.cond_f rfl (RW.sreg ?_)
   refine rl.gen rfl rfl fun b hb=>?_
   cases b
   ·have h5:=A4 h4 hb;refine rl.f 1 rfl (RW.cond_f rfl (RW.sreg ?_))
    refine rl.gen rfl rfl fun b hb=>?_
    cases b
    ·have h6:=A4 h5 hb;refine rl.f 1 rfl (RW.cond_f rfl (RW.skip (RW.sf 2 rfl (RW.ret ?_))));cases h6
     exact RRetS.m (Gh.rN [0])
    ·have h7:=A3 h5 hb;refine rl.f 1 rfl (RW.cond_t rfl (RW.reg (rl.run 1 rfl ?_)));obtain ⟨v3,e3,h8⟩:=A2 h7;refine rl.call rfl rfl rfl (A6.eN (r0:=.j v3.1) (H':=[some ⟨[pvB B0_ o0_ x0.mB,.j v3.2.mI,.j v3.2.mH],0⟩,some ⟨[.j 0,.j 0,.j 0,.j 0,.j 0,.str [],.str [],.str []],0⟩,some ⟨fl (encI true) ([1,1,2,3,3,3,3,4,4,5,5]:List Int),1⟩,some ⟨[.j v1.1,.j (w64 (1+v2.1)),.j 0,.j 0,.j 0,.str [],.str [],.str []],0⟩]) [⟨[pvB B0_ o0_ x0.mB,.j v2.2.mI,.j v2.2.mH],0⟩] [⟨[pvB B0_ o0_ x0.mB,.j v3.2.mI,.j v3.2.mH],0⟩] [] [0] [pvB B0_ o0_ x0.mB] (B5 e3) ?_);refine rl.f 3 rfl (RW.sf 2 rfl ?_);refine RW.ka [2] [(2,.ptr 1 0)] rfl ?_;refine RW.ret ?_;cases h8
     exact RRetS.m (Gh.rN [0])
   ·have h9:=A3 h4 hb;refine rl.f 1 rfl (RW.cond_t rfl (RW.sr 1 rfl ?_));obtain ⟨v4,e4,h10⟩:=A2 h9;refine rl.call rfl rfl rfl (A6.eN (r0:=.j v4.1) (H':=[some ⟨[pvB B0_ o0_ x0.mB,.j v4.2.mI,.j v4.2.mH],0⟩,some ⟨[.j 0,.j 0,.j 0,.j 0,.j 0,.str [],.str [],.str []],0⟩,some ⟨fl (encI true) ([1,1,2,3,3,3,3,4,4,5,5]:List Int),1⟩,some ⟨[.j v1.1,.j (w64 (1+v2.1)),.j 0,.j 0,.j 0,.str [],.str [],.str []],0⟩]) [⟨[pvB B0_ o0_ x0.mB,.j v2.2.mI,.j v2.2.mH],0⟩] [⟨[pvB B0_ o0_ x0.mB,.j v4.2.mI,.j v4.2.mH],0⟩] [] [0] [pvB B0_ o0_ x0.mB] (B5 e4) ?_);refine rl.f 3 rfl (RW.reg (rl.run 1 rfl ?_));obtain ⟨v5,e5,h11⟩:=A2 h10;refine rl.call rfl rfl rfl (A6.eN (r0:=.j v5.1) (H':=[some ⟨[pvB B0_ o0_ x0.mB,.j v5.2.mI,.j v5.2.mH],0⟩,some ⟨[.j 0,.j 0,.j 0,.j 0,.j 0,.str [],.str [],.str []],0⟩,some ⟨fl (encI true) ([1,1,2,3,3,3,3,4,4,5,5]:List Int),1⟩,some ⟨[.j v1.1,.j (w64 (1+v2.1)),.j (w64 (1+v4.1)),.j 0,.j 0,.str [],.str [],.str []],0⟩]) [⟨[pvB B0_ o0_ x0.mB,.j v4.2.mI,.j v4.2.mH],0⟩] [⟨[pvB B0_ o0_ x0.mB,.j v5.2.mI,.j v5.2.mH],0⟩] [] [0] [pvB B0_ o0_ x0.mB] (B5 e5) ?_);refine rl.f 2 rfl (RW.sf 2 rfl ?_);refine RW.ka [2] [(2,.ptr 1 0)] rfl ?_;refine RW.ret ?_;cases h11
    exact RRetS.m (Gh.rN [0])
  ·have h12:=A3 h3 hb;refine rl.f 1 rfl ?_;refine RW.ka [0,2,3,12,27] [(0,.ptr 0 0),(2,.ptr 1 0),(3,.ptr 3 0),(12,.j v1.1),(27,.bool true)] rfl ?_;refine RW.cond_t rfl (RW.sr 1 rfl ?_);obtain ⟨v6,e6,h13⟩:=A2 h12;refine rl.call rfl rfl rfl (A6.eN (r0:=.j v6.1) (H':=[some ⟨[pvB B0_ o0_ x0.mB,.j v6.2.mI,.j v6.2.mH],0⟩,some ⟨[.j 0,.j 0,.j 0,.j 0,.j 0,.str [],.str [],.str []],0⟩,some ⟨fl (encI true) ([1,1,2,3,3,3,3,4,4,5,5]:List Int),1⟩,some ⟨[.j v1.1,.j (w64 (1+v2.1)),.j 0,.j 0,.j 0,.str [],.str [],.str []],0⟩]) [⟨[pvB B0_ o0_ x0.mB,.j v2.2.mI,.j v2.2.mH],0⟩] [⟨[pvB B0_ o0_ x0.mB,.j v6.2.mI,.j v6.2.mH],0⟩] [] [0] [pvB B0_ o0_ x0.mB] (B5 e6) ?_);refine rl.f 3 rfl (RW.sr 1 rfl ?_);obtain ⟨v7,e7,h14⟩:=A2 h13;refine rl.call rfl rfl rfl (A6.eN (r0:=.j v7.1) (H':=[some ⟨[pvB B0_ o0_ x0.mB,.j v7.2.mI,.j v7.2.mH],0⟩,some ⟨[.j 0,.j 0,.j 0,.j 0,.j 0,.str [],.str [],.str []],0⟩,some ⟨fl (encI true) ([1,1,2,3,3,3,3,4,4,5,5]:List Int),1⟩,some ⟨[.j v1.1,.j (w64 (1+v2.1)),.j (w64 (1+v6.1)),.j 0,.j 0,.str [],.str [],.str []],0⟩]) [⟨[pvB B0_ o0_ x0.mB,.j v6.2.mI,.j v6.2.mH],0⟩] [⟨[pvB B0_ o0_ x0.mB,.j v7.2.mI,.j v7.2.mH],0⟩] [] [0] [pvB B0_ o0_ x0.mB] (B5 e7) ?_);refine rl.f 2 rfl (RW.reg (rl.run 1 rfl ?_));obtain ⟨v8,e8,h15⟩:=A2 h14;refine rl.call rfl rfl rfl (A6.eN (r0:=.str v8.1) (H':=[some ⟨[pvB B0_ o0_ x0.mB,.j v8.2.mI,.j v8.2.mH],0⟩,some ⟨[.j 0,.j 0,.j 0,.j 0,.j 0,.str [],.str [],.str []],0⟩,some ⟨fl (encI true) ([1,1,2,3,3,3,3,4,4,5,5]:List Int),1⟩,some ⟨[.j v1.1,.j (w64 (1+v2.1)),.j (w64 (1+v6.1)),.j 0,.j v7.1,.str [],.str [],.str []],0⟩]) [⟨[pvB B0_ o0_ x0.mB,.j v7.2.mI,.j v7.2.mH],0⟩] [⟨[pvB B0_ o0_ x0.mB,.j v8.2.mI,.j v8.2.mH],0⟩] [] [0] [pvB B0_ o0_ x0.mB] (Fo e8) ?_);refine rl.f 2 rfl (RW.sf 2 rfl ?_);refine RW.ka [2] [(2,.ptr 1 0)] rfl ?_;refine RW.ret ?_;cases h15
   exact RRetS.m (Gh.rN [0])
 ·have h16:=A3 h2 hb;refine rl.f 1 rfl (RW.cond_t rfl (RW.sr 2 rfl ?_));obtain ⟨v9,e9,h17⟩:=A2 h16;refine rl.call rfl rfl rfl (A6.eN (r0:=.str v9.1) (H':=[some ⟨[pvB B0_ o0_ x0.mB,.j v9.2.mI,.j v9.2.mH],0⟩,some ⟨[.j 0,.j 0,.j 0,.j 0,.j 0,.str [],.str [],.str []],0⟩,some ⟨fl (encI true) ([1,1,2,3,3,3,3,4,4,5,5]:List Int),1⟩,some ⟨[.j v1.1,.j (w64 (1+v2.1)),.j 0,.j 0,.j 0,.str [],.str [],.str []],0⟩,some ⟨fl (encS true) [[97,110,110],[98,111,98]],1⟩]) [⟨[pvB B0_ o0_ x0.mB,.j v2.2.mI,.j v2.2.mH],0⟩,⟨fl (encS true) [[97,110,110],[98,111,98]],1⟩] [⟨[pvB B0_ o0_ x0.mB,.j v9.2.mI,.j v9.2.mH],0⟩,⟨fl (encS true) [[97,110,110],[98,111,98]],1⟩] [] [0,4] [pvB B0_ o0_ x0.mB] (Y9 e9) ?_);refine rl.f 2 rfl ?_;refine RW.ka [0,2,3] [(0,.ptr 0 0),(2,.ptr 1 0),(3,.ptr 3 0)] rfl ?_;refine RW.sr 2 rfl ?_;obtain ⟨v10,e10,h18⟩:=A2 h17;refine rl.call rfl rfl rfl (A6.eN (r0:=.str v10.1) (H':=[some ⟨[pvB B0_ o0_ x0.mB,.j v10.2.mI,.j v10.2.mH],0⟩,some ⟨[.j 0,.j 0,.j 0,.j 0,.j 0,.str [],.str [],.str []],0⟩,some ⟨fl (encI true) ([1,1,2,3,3,3,3,4,4,5,5]:List Int),1⟩,some ⟨[.j v1.1,.j (w64 (1+v2.1)),.j 0,.j 0,.j 0,.str v9.1,.str [],.str []],0⟩,some ⟨fl (encS true) [[97,110,110],[98,111,98]],1⟩,some ⟨fl (encS true) [[105,110,98,111,120],[119,111,114,107]],1⟩]) [⟨[pvB B0_ o0_ x0.mB,.j v9.2.mI,.j v9.2.mH],0⟩,⟨fl (encS true) [[105,110,98,111,120],[119,111,114,107]],1⟩] [⟨[pvB B0_ o0_ x0.mB,.j v10.2.mI,.j v10.2.mH],0⟩,⟨fl (encS true) [[105,110,98,111,120],[119,111,114,107]],1⟩] [] [0,5] [pvB B0_ o0_ x0.mB] (Y9 e10) ?_);refine rl.f 2 rfl (RW.reg (rl.run 1 rfl ?_));obtain ⟨v11,e11,h19⟩:=A2 h18;refine rl.call rfl rfl rfl (A6.eN (r0:=.j v11.1) (H':=[some ⟨[pvB B0_ o0_ x0.mB,.j v11.2.mI,.j v11.2.mH],0⟩,some ⟨[.j 0,.j 0,.j 0,.j 0,.j 0,.str [],.str [],.str []],0⟩,some ⟨fl (encI true) ([1,1,2,3,3,3,3,4,4,5,5]:List Int),1⟩,some ⟨[.j v1.1,.j (w64 (1+v2.1)),.j 0,.j 0,.j 0,.str v9.1,.str v10.1,.str []],0⟩,some ⟨fl (encS true) [[97,110,110],[98,111,98]],1⟩,some ⟨fl (encS true) [[105,110,98,111,120],[119,111,114,107]],1⟩]) [⟨[pvB B0_ o0_ x0.mB,.j v10.2.mI,.j v10.2.mH],0⟩] [⟨[pvB B0_ o0_ x0.mB,.j v11.2.mI,.j v11.2.mH],0⟩] [] [0] [pvB B0_ o0_ x0.mB] (B5 e11) ?_)
  refine rl.f 3 rfl (RW.sf 2 rfl ?_);refine RW.ka [2] [(2,.ptr 1 0)] rfl ?_;refine RW.ret ?_;cases h19
  exact RRetS.m (Gh.rN [0])
set_option maxHeartbeats 2000000 in
theorem Ft {x0:TL01Cur} {B0_ o0_:Nat} {r:TRec×TL01Cur} (hF:U1 x0=some r):B2 Try.prog 0 126 [.ptr 0 0] [some ⟨[pvB B0_ o0_ x0.mB,.j x0.mI,.j x0.mH],0⟩] (.agg (A7 true r.1)) [some ⟨[pvB B0_ o0_ x0.mB,.j r.2.mI,.j r.2.mH],0⟩]:=by
 refine B2.q Pn ?_;unfold U1 at hF;refine RW.sf 1 rfl (RW.sr 1 rfl ?_);obtain ⟨v1,e1,h1⟩:=A2 hF;refine rl.call rfl rfl rfl (A6.eN (r0:=.j v1.1) (H':=[some ⟨[pvB B0_ o0_ x0.mB,.j v1.2.mI,.j v1.2.mH],0⟩,some ⟨[.j 0,.j 0,.j 0,.j 0,.j 0,.str [],.str [],.str []],0⟩]) [⟨[pvB B0_ o0_ x0.mB,.j x0.mI,.j x0.mH],0⟩] [⟨[pvB B0_ o0_ x0.mB,.j v1.2.mI,.j v1.2.mH],0⟩] [] [0] [pvB B0_ o0_ x0.mB] (B5 e1) ?_);refine rl.f 1 rfl (RW.sr 1 rfl ?_);obtain ⟨v2,e2,h2⟩:=A2 h1;refine rl.call rfl rfl rfl (A6.eN (r0:=.j v2.1) (H':=[some ⟨[pvB B0_ o0_ x0.mB,.j v2.2.mI,.j v2.2.mH],0⟩,some ⟨[.j 0,.j 0,.j 0,.j 0,.j 0,.str [],.str [],.str []],0⟩]) [⟨[pvB B0_ o0_ x0.mB,.j v1.2.mI,.j v1.2.mH],0⟩] [⟨[pvB B0_ o0_ x0.mB,.j v2.2.mI,.j v2.2.mH],0⟩] [] [0] [pvB B0_ o0_ x0.mB] (B5 e2) ?_);refine rl.f 1 rfl (RW.sr 1 rfl ?_);obtain ⟨v3,e3,h3⟩:=A2 h2;refine rl.call rfl rfl rfl (A6.eN (r0:=.agg (A7 false v3.1)) (H':=[some ⟨[pvB B0_ o0_ x0.mB,.j v3.2.mI,.j v3.2.mH],0⟩,some ⟨[.j 0,.j 0,.j 0,.j 0,.j 0,.str [],.str [],.str []],0⟩]) [⟨[pvB B0_ o0_ x0.mB,.j v2.2.mI,.j v2.2.mH],0⟩] [⟨[pvB B0_ o0_ x0.mB,.j v3.2.mI,.j v3.2.mH],0⟩] [] [0] [pvB B0_ o0_ x0.mB] (V2 e3) ?_);refine rl.f 2 rfl (RW.seq (RW.sf 1 rfl (RW.blk (RW.sreg ?_))))
 refine rl.gen rfl rfl fun b hb=>?_
 cases b
 ·have h4:=A4 h3 hb;refine rl.f 1 rfl (RW.cond_f rfl (RW.sreg ?_))
  refine rl.gen rfl rfl fun b hb=>?_
  cases b
  ·have h5:=A4 h4 hb;refine rl.f 1 rfl ?_;refine RW.ka [2,4,5,12,18] [(2,.ptr 1 0),(4,.j v2.1),(5,.ptr 2 0),(12,.j v1.1),(18,.bool false)] rfl ?_;refine RW.cond_f rfl (RW.sreg ?_)
   refine rl.gen rfl rfl fun b hb=>?_
   cases b
   ·have h6:=A4 h5 hb;refine rl.f 1 rfl (RW.cond_f rfl (RW.sreg ?_))
    refine rl.gen rfl rfl fun b hb=>?_
    cases b
    ·have h7:=A4 h6 hb;refine rl.f 1 rfl (RW.cond_f rfl (RW.sreg ?_))
     refine rl.gen rfl rfl fun b hb=>?_
     cases b
     ·have h8:=A4 h7 hb;refine rl.f 1 rfl (RW.cond_f rfl (RW.sreg ?_))
      refine rl.gen rfl rfl fun b hb=>?_
      cases b
      ·have h9:=A4 h8 hb;refine rl.f 1 rfl (RW.cond_f rfl (RW.sreg ?_))
       refine rl.gen rfl rfl fun b hb=>?_
       cases b
       ·have h10:=A4 h9 hb;refine rl.f 1 rfl ?_;refine RW.ka [2,4,5,55] [(2,.ptr 1 0),(4,.j v2.1),(5,.ptr 2 0),(55,.bool false)] rfl ?_;refine RW.cond_f rfl (RW.skip (RW.sf 2 rfl (RW.ret ?_)));cases h10
        exact RRetS.m (Gh.rN [0])
       ·have h11:=A3 h9 hb;refine rl.f 1 rfl ?_;refine RW.ka [2,4,5,55] [(2,.ptr 1 0),(4,.j v2.1),(5,.ptr 2 0),(55,.bool true)] rfl ?_;refine RW.cond_t rfl (RW.reg (rl.f 4 rfl (RW.sf 2 rfl (RW.ret ?_))));cases h11
        exact RRetS.m (Gh.rN [0])
      ·have h12:=A3 h8 hb;refine rl.f 1 rfl (RW.cond_t rfl (RW.reg (rl.run 3 rfl ?_)));obtain ⟨v4,e4,h13⟩:=A2 h12;refine rl.call rfl rfl rfl (A6.y (r':=.str v4) (Ho e4) ?_);refine rl.f 2 rfl (RW.sf 2 rfl ?_);refine RW.ka [2] [(2,.ptr 1 0)] rfl ?_;refine RW.ret ?_;cases h13
       exact RRetS.m (Gh.rN [0])
     ·have h14:=A3 h7 hb;refine rl.f 1 rfl (RW.cond_t rfl (RW.reg (rl.run 3 rfl ?_)));obtain ⟨v5,e5,h15⟩:=A2 h14;refine rl.op (M3 rfl rfl rfl rfl e5) ?_;refine rl.op (V6 (o:=true) (off':=0) ekS rfl rfl e5 rfl rfl rfl) ?_;refine rl.f 2 rfl (RW.sf 2 rfl ?_);refine RW.ka [2] [(2,.ptr 1 0)] rfl ?_;refine RW.ret ?_;cases h15
      exact RRetS.m (Gh.rN [0])
    ·have h16:=A3 h6 hb;refine rl.f 1 rfl (RW.cond_t rfl (RW.reg (rl.f 5 rfl (RW.sf 2 rfl ?_))));refine RW.ka [2] [(2,.ptr 1 0)] rfl ?_;refine RW.ret ?_;cases h16
     exact RRetS.m (Gh.rN [0])
   ·have h17:=A3 h5 hb;refine rl.f 1 rfl (RW.cond_t rfl (RW.reg (rl.run 3 rfl ?_)));obtain ⟨v6,e6,h18⟩:=A2 h17;refine rl.op (M3 rfl rfl rfl rfl e6) ?_;refine rl.op (V6 (o:=true) (off':=0) ekI rfl rfl e6 rfl rfl rfl) ?_;refine rl.f 2 rfl (RW.sf 2 rfl ?_);refine RW.ka [2] [(2,.ptr 1 0)] rfl ?_;refine RW.ret ?_;cases h18
    exact RRetS.m (Gh.rN [0])
  ·have h19:=A3 h4 hb;refine rl.f 1 rfl ?_;refine RW.ka [2,4,5,12,18] [(2,.ptr 1 0),(4,.j v2.1),(5,.ptr 2 0),(12,.j v1.1),(18,.bool true)] rfl ?_;refine RW.cond_t rfl (RW.reg (rl.run 3 rfl ?_));obtain ⟨v7,e7,h20⟩:=A2 h19;refine rl.op (M3 rfl rfl rfl rfl e7) ?_;refine rl.op (V6 (o:=true) (off':=0) ekI rfl rfl e7 rfl rfl rfl) ?_;refine rl.f 2 rfl (RW.sf 2 rfl ?_);refine RW.ka [2] [(2,.ptr 1 0)] rfl ?_;refine RW.ret ?_;cases h20
   exact RRetS.m (Gh.rN [0])
 ·have h21:=A3 h3 hb;refine rl.f 1 rfl (RW.cond_t rfl (RW.reg (rl.f 4 rfl (RW.sf 2 rfl ?_))));refine RW.ka [2] [(2,.ptr 1 0)] rfl ?_;refine RW.ret ?_;cases h21
  exact RRetS.m (Gh.rN [0])
theorem Ep {x0:TL01Cur} {B0_ o0_:Nat} {r:(List TItem)×TL01Cur} (hF:M0 x0=some r):B2 Try.prog 0 77 [.ptr 0 0] [some ⟨[pvB B0_ o0_ x0.mB,.j x0.mI,.j x0.mH],0⟩] (.sl 1 0 r.1.length) [some ⟨[pvB B0_ o0_ x0.mB,.j r.2.mI,.j r.2.mH],0⟩,some ⟨fl (A1 true) r.1,9⟩]:=by
 refine B2.p Jy ?_;unfold M0 at hF;refine RW.sf 1 rfl (RW.sf 2 rfl (RW.seq (RW.sf 1 rfl ?_)));refine RW.gh (Gh.nil_t 3 9 rfl) ?_;obtain ⟨y6,ey6,h2⟩:=A2 hF
 refine RW.cutq (σ:=Int×Int×(List TItem)) (fun y2=>[(0,.ptr 0 0),(3,.sl 1 0 y2.2.2.length)]) (fun y2=>[some ⟨[pvB B0_ o0_ x0.mB,.j y2.1,.j y2.2.1],0⟩,some ⟨fl (A1 true) y2.2.2,9⟩]) (fun y=>y6=y) gg ?_ ?_
 ·refine RW.blk ?_
  refine RW.iter (σ:=Int×Int×Int×(List TItem)) ey6 (fun s1=>[(0,.ptr 0 0),(3,.sl 1 0 s1.2.2.2.length),(4,.j s1.1)]) (fun s1=>[some ⟨[pvB B0_ o0_ x0.mB,.j s1.2.1,.j s1.2.2.1],0⟩,some ⟨fl (A1 true) s1.2.2.2,9⟩]) (Gh.rN [0,1]) (fun s1 B o hS1 hB1 hE1=>?_)
  unfold M7 at hS1;refine RW.seq (RW.sr 2 rfl ?_);obtain ⟨v3,e3,h3⟩:=A2 hS1;refine rl.call rfl rfl rfl (A6.eN (r0:=.j v3.1) (H':=[some ⟨[pvB B0_ o0_ x0.mB,.j v3.2.mI,.j v3.2.mH],0⟩,some ⟨fl (A1 true) s1.2.2.2,9⟩]) [⟨[pvB B0_ o0_ x0.mB,.j s1.2.1,.j s1.2.2.1],0⟩] [⟨[pvB B0_ o0_ x0.mB,.j v3.2.mI,.j v3.2.mH],0⟩] [] [0] [pvB B0_ o0_ x0.mB] (B5 e3) ?_)
  refine rl.gen rfl rfl fun b hb=>?_
  cases b
  ·have h4:=A4 h3 hb;refine rl.done (RW.cond_f rfl (RW.exit (B7 ?_)));cases h4
   exact ⟨_,(hE1 _ rfl).symm,(Gh.rN [0,1])⟩
  ·have h5:=A3 h3 hb;refine rl.done (RW.cond_t rfl (RW.skip (RW.seq (RW.blk (RW.reg (rl.run 4 rfl ?_))))));obtain ⟨v4,e4,h6⟩:=A2 h5;refine rl.call rfl rfl rfl (A6.eN (r0:=.agg (A7 false v4.1)) (H':=[some ⟨[pvB B0_ o0_ x0.mB,.j v4.2.mI,.j v4.2.mH],0⟩,some ⟨fl (A1 true) s1.2.2.2,9⟩]) [⟨[pvB B0_ o0_ x0.mB,.j v3.2.mI,.j v3.2.mH],0⟩] [⟨[pvB B0_ o0_ x0.mB,.j v4.2.mI,.j v4.2.mH],0⟩] [] [0] [pvB B0_ o0_ x0.mB] (V2 e4) ?_);refine rl.run 2 rfl ?_;obtain ⟨v5,e5,h7⟩:=A2 h6;refine rl.op (R8 rfl rfl (G0 (l:=s1.2.2.2) (m:=[({ Seq:=w64 (2+s1.1),Rec:=v4.1 }:TItem)]) (o:=true) B3 rfl rfl (D2 (m:=[({ Seq:=w64 (2+s1.1),Rec:=v4.1 }:TItem)]) (o:=true) F5 rfl rfl) rfl (F5.fst _ _) e5)) ?_;refine rl.f 1 rfl (RW.reg (rl.f 3 rfl ?_));cases h7
   exact hB1 _ rfl _ _ (Gh.rN [0,3])
 ·intro y2 hC
  subst hC;refine RW.seq (RW.seq ?_);obtain ⟨y7,ey7,h8⟩:=A2 h2
  refine RW.cutq (σ:=Bool×Int×Int) (fun y7=>[(0,.ptr 0 0),(3,.sl 1 0 y6.2.2.length),(26,.bool y7.1)]) (fun y7=>[some ⟨[pvB B0_ o0_ x0.mB,.j y7.2.1,.j y7.2.2],0⟩,some ⟨fl (A1 true) y6.2.2,9⟩]) (fun y=>y7=y) gg ?_ ?_
  ·refine RW.reg ?_;refine rl.run 2 rfl ?_
   refine rl.gen rfl rfl fun b hb=>?_
   cases b
   ·have h9:=A4 ey7 hb;refine rl.f 4 rfl ?_;cases h9
    exact ⟨_,rfl,(Gh.rN [0,1])⟩
   ·have h10:=A3 ey7 hb;refine rl.run 2 rfl ?_;obtain ⟨v8,e8,h11⟩:=A2 h10;refine rl.call rfl rfl rfl (A6.eN (r0:=.bool v8.1) (H':=[some ⟨[pvB B0_ o0_ x0.mB,.j v8.2.mI,.j v8.2.mH],0⟩,some ⟨fl (A1 true) y6.2.2,9⟩]) [⟨[pvB B0_ o0_ x0.mB,.j y6.1,.j y6.2.1],0⟩] [⟨[pvB B0_ o0_ x0.mB,.j v8.2.mI,.j v8.2.mH],0⟩] [] [0] [pvB B0_ o0_ x0.mB] (T5 e8) ?_)
    cases hb:v8.1
    ·have h12:=A4 h11 hb;refine rl.f 1 rfl ?_;cases h12
     exact ⟨_,rfl,(Gh.rN [0,1])⟩
    ·have h13:=A3 h11 hb;refine rl.f 1 rfl ?_;cases h13
     exact ⟨_,rfl,(Gh.rN [0,1])⟩
  ·intro y hC
   subst hC
   cases hb:y7.1
   ·have h14:=A4 h8 hb;refine RW.cond_f rfl (RW.skip (RW.sf 2 rfl (RW.ret ?_)));cases h14
    exact RRetM.m [0,1] Gh.refl
   ·have h15:=A3 h8 hb;refine RW.cond_t rfl (RW.reg (rl.run 5 rfl ?_));obtain ⟨v9,e9,h16⟩:=A2 h15;refine rl.call rfl rfl rfl (A6.eN (r0:=.j v9.1) (H':=[some ⟨[pvB B0_ o0_ x0.mB,.j v9.2.mI,.j v9.2.mH],0⟩,some ⟨fl (A1 true) y6.2.2,9⟩]) [⟨[pvB B0_ o0_ x0.mB,.j y7.2.1,.j y7.2.2],0⟩] [⟨[pvB B0_ o0_ x0.mB,.j v9.2.mI,.j v9.2.mH],0⟩] [] [0] [pvB B0_ o0_ x0.mB] (B5 e9) ?_);obtain ⟨v10,e10,h17⟩:=A2 h16;refine rl.op (M3 rfl rfl rfl rfl e10) ?_;refine rl.op (Xs (o:=true) (off':=0) (vs:=(A1 false v10)) B3 rfl rfl e10 rfl rfl rfl) ?_;refine rl.run 1 rfl ?_;obtain ⟨v11,e11,h18⟩:=A2 h17;refine rl.op (R8 rfl rfl (G0 (l:=y6.2.2) (m:=[v10]) (o:=true) B3 rfl rfl (D2 (m:=[v10]) (o:=true) F5 rfl rfl) rfl (F5.fst _ _) e11)) ?_;refine rl.f 1 rfl (RW.sf 2 rfl ?_);refine RW.ka [2] [(2,.sl 3 0 v11.length)] rfl ?_;refine RW.ret ?_;cases h18
    exact RRetM.m [0,3] Gh.refl
set_option maxHeartbeats 2000000 in
theorem Af {x0:TL01Cur} {B0_ o0_:Nat} {r:(List TItem)×TL01Cur} (hF:J6 x0=some r):B2 Try.prog 0 88 [.ptr 0 0] [some ⟨[pvB B0_ o0_ x0.mB,.j x0.mI,.j x0.mH],0⟩] (.sl 1 0 r.1.length) [some ⟨[pvB B0_ o0_ x0.mB,.j r.2.mI,.j r.2.mH],0⟩,some ⟨fl (A1 true) r.1,9⟩]:=by
 refine B2.p Pi ?_;unfold J6 at hF;refine RW.sf 1 rfl (RW.sr 1 rfl ?_);obtain ⟨v1,e1,h1⟩:=A2 hF;refine rl.call rfl rfl rfl (A6.eN (r0:=.j v1.1) (H':=[some ⟨[pvB B0_ o0_ x0.mB,.j v1.2.mI,.j v1.2.mH],0⟩]) [⟨[pvB B0_ o0_ x0.mB,.j x0.mI,.j x0.mH],0⟩] [⟨[pvB B0_ o0_ x0.mB,.j v1.2.mI,.j v1.2.mH],0⟩] [] [0] [pvB B0_ o0_ x0.mB] (B5 e1) ?_);refine rl.f 1 rfl (RW.sr 1 rfl ?_);obtain ⟨v2,e2,h2⟩:=A2 h1;refine rl.call rfl rfl rfl (A6.eN (r0:=.j v2.1) (H':=[some ⟨[pvB B0_ o0_ x0.mB,.j v2.2.mI,.j v2.2.mH],0⟩]) [⟨[pvB B0_ o0_ x0.mB,.j v1.2.mI,.j v1.2.mH],0⟩] [⟨[pvB B0_ o0_ x0.mB,.j v2.2.mI,.j v2.2.mH],0⟩] [] [0] [pvB B0_ o0_ x0.mB] (B5 e2) ?_);refine rl.f 1 rfl (RW.sr 2 rfl ?_);obtain ⟨v3,e3,h3⟩:=A2 h2;refine rl.call rfl rfl rfl (A6.eN (r0:=.sl 1 0 v3.1.length) (H':=[some ⟨[pvB B0_ o0_ x0.mB,.j v3.2.mI,.j v3.2.mH],0⟩,some ⟨fl (A1 true) v3.1,9⟩]) [⟨[pvB B0_ o0_ x0.mB,.j v2.2.mI,.j v2.2.mH],0⟩] [⟨[pvB B0_ o0_ x0.mB,.j v3.2.mI,.j v3.2.mH],0⟩] [⟨fl (A1 true) v3.1,9⟩] [0] [pvB B0_ o0_ x0.mB] (Ep e3) ?_);obtain ⟨v4,e4,h4⟩:=A2 h3;refine rl.op (R8 rfl rfl (Yg (m:=v3.1) (o:=true) B3 (D2 (m:=v3.1) (o:=true) F5 rfl rfl) rfl (F5.fst _ _) e4)) ?_;refine rl.f 1 rfl (RW.seq (RW.sf 1 rfl (RW.blk (RW.sreg ?_))))
 refine rl.gen rfl rfl fun b hb=>?_
 cases b
 ·have h5:=A4 h4 hb;refine rl.f 1 rfl ?_;refine RW.ka [0,4,5,14,15] [(0,.ptr 0 0),(4,.j v2.1),(5,.sl 2 0 v4.length),(14,.j v1.1),(15,.bool false)] rfl ?_;refine RW.cond_f rfl (RW.sreg ?_)
  refine rl.gen rfl rfl fun b hb=>?_
  cases b
  ·have h6:=A4 h5 hb;refine rl.f 1 rfl (RW.cond_f rfl (RW.sreg ?_))
   refine rl.gen rfl rfl fun b hb=>?_
   cases b
   ·have h7:=A4 h6 hb;refine rl.f 1 rfl (RW.cond_f rfl (RW.sreg ?_))
    refine rl.gen rfl rfl fun b hb=>?_
    cases b
    ·have h8:=A4 h7 hb;refine rl.f 1 rfl (RW.cond_f rfl (RW.skip (RW.sf 2 rfl ?_)));refine RW.ka [2] [(2,.sl 2 0 v4.length)] rfl ?_;refine RW.ret ?_;cases h8
     exact RRetM.m [0,2] Gh.refl
    ·have h9:=A3 h7 hb;refine rl.f 1 rfl (RW.cond_t rfl ?_);obtain ⟨y8,ey8,h11⟩:=A2 h9
     refine RW.cutq (σ:=(List TItem)) (fun y6=>[(5,.sl 1 0 y6.length)]) (fun y6=>[some ⟨[pvB B0_ o0_ x0.mB,.j v3.2.mI,.j v3.2.mH],0⟩,some ⟨fl (A1 true) y6,9⟩]) (fun y=>y8=y) gg ?_ ?_
     ·refine RW.blk ?_
      refine RW.iter (σ:=(List TItem)) ey8 (fun s5=>[(4,.j v2.1),(5,.sl 1 0 s5.length)]) (fun s5=>[some ⟨[pvB B0_ o0_ x0.mB,.j v3.2.mI,.j v3.2.mH],0⟩,some ⟨fl (A1 true) s5,9⟩]) (Gh.rN [0,2]) (fun s5 B o hS10 hB10 hE10=>?_)
      unfold L5 at hS10;refine RW.seq (RW.sr 5 rfl ?_)
      refine rl.gen rfl rfl fun b hb=>?_
      cases b
      ·have h12:=A4 hS10 hb;refine rl.done (RW.cond_f rfl (RW.exit (B7 ?_)));cases h12
       exact ⟨_,(hE10 _ rfl).symm,(Gh.rN [0,1])⟩
      ·have h13:=A3 hS10 hb;refine rl.done (RW.cond_t rfl (RW.skip (RW.blk (RW.reg (rl.run 7 rfl ?_)))));obtain ⟨v7,e7,h14⟩:=A2 h13;refine rl.op (R8 rfl rfl (G0 (l:=s5) (m:=[({ Seq:=w64 (100+(s5.length:Int)),Rec:=({ Kind:=2,Valid:=7,Uid:=0,Next:=0,Flags:=0,User:=[],Name:=[],Text:=[] }:TRec) }:TItem)]) (o:=true) B3 rfl rfl (D2 (m:=[({ Seq:=w64 (100+(s5.length:Int)),Rec:=({ Kind:=2,Valid:=7,Uid:=0,Next:=0,Flags:=0,User:=[],Name:=[],Text:=[] }:TRec) }:TItem)]) (o:=true) F5 rfl rfl) rfl (F5.fst _ _) e7)) ?_;refine rl.f 1 rfl ?_;cases h14
       exact hB10 _ rfl _ _ (Gh.rN [0,3])
     ·intro y6 hC
      subst hC;refine RW.sf 2 rfl (RW.ret ?_);cases h11
      exact RRetM.m [0,1] Gh.refl
   ·have h15:=A3 h6 hb;refine rl.f 1 rfl (RW.cond_t rfl (RW.reg (rl.run 2 rfl ?_)));obtain ⟨v9,e9,h16⟩:=A2 h15;refine rl.call rfl rfl rfl (A6.eN (r0:=.agg (A7 false v9.1)) (H':=[some ⟨[pvB B0_ o0_ x0.mB,.j v9.2.mI,.j v9.2.mH],0⟩,some ⟨fl (A1 true) v3.1,9⟩,some ⟨fl (A1 true) v4,9⟩]) [⟨[pvB B0_ o0_ x0.mB,.j v3.2.mI,.j v3.2.mH],0⟩] [⟨[pvB B0_ o0_ x0.mB,.j v9.2.mI,.j v9.2.mH],0⟩] [] [0] [pvB B0_ o0_ x0.mB] (V2 e9) ?_);refine rl.run 2 rfl ?_;obtain ⟨v10,e10,h17⟩:=A2 h16;refine rl.op (R8 rfl rfl (G0 (l:=v4) (m:=[({ Seq:=0,Rec:=v9.1 }:TItem)]) (o:=true) B3 rfl rfl (D2 (m:=[({ Seq:=0,Rec:=v9.1 }:TItem)]) (o:=true) F5 rfl rfl) rfl (F5.fst _ _) e10)) ?_;refine rl.f 1 rfl (RW.sf 2 rfl ?_);refine RW.ka [2] [(2,.sl 4 0 v10.length)] rfl ?_;refine RW.ret ?_;cases h17
    exact RRetM.m [0,4] Gh.refl
  ·have h18:=A3 h5 hb;refine rl.f 1 rfl (RW.cond_t rfl (RW.reg (rl.run 2 rfl ?_)));obtain ⟨v11,e11,h19⟩:=A2 h18;refine rl.call rfl rfl rfl (A6.eN (r0:=.agg (A7 false v11.1)) (H':=[some ⟨[pvB B0_ o0_ x0.mB,.j v11.2.mI,.j v11.2.mH],0⟩,some ⟨fl (A1 true) v3.1,9⟩,some ⟨fl (A1 true) v4,9⟩]) [⟨[pvB B0_ o0_ x0.mB,.j v3.2.mI,.j v3.2.mH],0⟩] [⟨[pvB B0_ o0_ x0.mB,.j v11.2.mI,.j v11.2.mH],0⟩] [] [0] [pvB B0_ o0_ x0.mB] (Ft e11) ?_);refine rl.run 2 rfl ?_;obtain ⟨v12,e12,h20⟩:=A2 h19;refine rl.op (R8 rfl rfl (G0 (l:=v4) (m:=[({ Seq:=99,Rec:=v11.1 }:TItem)]) (o:=true) B3 rfl rfl (D2 (m:=[({ Seq:=99,Rec:=v11.1 }:TItem)]) (o:=true) F5 rfl rfl) rfl (F5.fst _ _) e12)) ?_;refine rl.f 1 rfl (RW.sf 2 rfl ?_);refine RW.ka [2] [(2,.sl 4 0 v12.length)] rfl ?_;refine RW.ret ?_;cases h20
   exact RRetM.m [0,4] Gh.refl
 ·have h21:=A3 h4 hb;refine rl.f 1 rfl ?_;refine RW.ka [0,4,5,14,15] [(0,.ptr 0 0),(4,.j v2.1),(5,.sl 2 0 v4.length),(14,.j v1.1),(15,.bool true)] rfl ?_;refine RW.cond_t rfl (RW.reg (rl.run 2 rfl ?_));obtain ⟨v13,e13,h22⟩:=A2 h21;refine rl.call rfl rfl rfl (A6.eN (r0:=.agg (A7 false v13.1)) (H':=[some ⟨[pvB B0_ o0_ x0.mB,.j v13.2.mI,.j v13.2.mH],0⟩,some ⟨fl (A1 true) v3.1,9⟩,some ⟨fl (A1 true) v4,9⟩]) [⟨[pvB B0_ o0_ x0.mB,.j v3.2.mI,.j v3.2.mH],0⟩] [⟨[pvB B0_ o0_ x0.mB,.j v13.2.mI,.j v13.2.mH],0⟩] [] [0] [pvB B0_ o0_ x0.mB] (V2 e13) ?_);refine rl.run 2 rfl ?_;obtain ⟨v14,e14,h23⟩:=A2 h22;refine rl.op (R8 rfl rfl (G0 (l:=v4) (m:=[({ Seq:=2,Rec:=v13.1 }:TItem)]) (o:=true) B3 rfl rfl (D2 (m:=[({ Seq:=2,Rec:=v13.1 }:TItem)]) (o:=true) F5 rfl rfl) rfl (F5.fst _ _) e14)) ?_;refine rl.f 1 rfl (RW.sf 2 rfl ?_);refine RW.ka [2] [(2,.sl 4 0 v14.length)] rfl ?_;refine RW.ret ?_;cases h23
  exact RRetM.m [0,4] Gh.refl
theorem Et {x0:List Int} {r:(List TItem)×Int} (hF:L4 x0=some r):A8 Try.prog 38 [L_B x0] (.tup [.lst true 9 (fl (A1 true) r.1) r.1.length,.j r.2]):=by
 refine A8.q Gf ?_;unfold L4 at hF;refine RW.sf 2 rfl ?_
 refine RW.pin 0 rfl fun B1 o1=>?_
 refine RW.sr 1 rfl ?_;obtain ⟨v2,e2,h1⟩:=A2 hF;refine rl.call rfl rfl rfl (A6.eN (r0:=.ptr 0 0) (H':=[some ⟨[pvB B1 o1 x0,.j v2.mI,.j v2.mH],0⟩]) [] [] [⟨[pvB B1 o1 x0,.j v2.mI,.j v2.mH],0⟩] [] [pvB B1 o1 x0] (Ae e2) ?_);refine rl.f 1 rfl (RW.sr 1 rfl ?_);obtain ⟨v3,e3,h2⟩:=A2 h1;refine rl.call rfl rfl rfl (A6.eN (r0:=.j v3.1) (H':=[some ⟨[pvB B1 o1 x0,.j v3.2.mI,.j v3.2.mH],0⟩]) [⟨[pvB B1 o1 x0,.j v2.mI,.j v2.mH],0⟩] [⟨[pvB B1 o1 x0,.j v3.2.mI,.j v3.2.mH],0⟩] [] [0] [pvB B1 o1 x0] (Ev e3) ?_);refine rl.f 1 rfl (RW.sr 1 rfl ?_);obtain ⟨v4,e4,h3⟩:=A2 h2;refine rl.call rfl rfl rfl (A6.eN (r0:=.sl 1 0 v4.1.length) (H':=[some ⟨[pvB B1 o1 x0,.j v4.2.mI,.j v4.2.mH],0⟩,some ⟨fl (A1 true) v4.1,9⟩]) [⟨[pvB B1 o1 x0,.j v3.2.mI,.j v3.2.mH],0⟩] [⟨[pvB B1 o1 x0,.j v4.2.mI,.j v4.2.mH],0⟩] [⟨fl (A1 true) v4.1,9⟩] [0] [pvB B1 o1 x0] (Af e4) ?_);refine rl.f 3 rfl (RW.ret ?_);cases h3
 exact RRet.y
theorem Bs {x0:TL01Cur} {x1:Int} {B0_ o0_:Nat} {r:(List Bool)×TL01Cur×List Bool×Int×Int} (hF:J9 x0 x1=some r):B2 Try.prog 0 127 [.ptr 0 0,.j x1] [some ⟨[pvB B0_ o0_ x0.mB,.j x0.mI,.j x0.mH],0⟩] (.sl 1 ((r.2.2.2.1:Int).toNat*1) r.1.length) [some ⟨[pvB B0_ o0_ x0.mB,.j r.2.1.mI,.j r.2.1.mH],0⟩,some ⟨fl (encO true) r.2.2.1,1⟩]:=by
 refine B2.p Kz ?_;unfold J9 at hF;refine RW.sf 1 rfl (RW.sf 2 rfl (RW.seq (RW.sf 1 rfl ?_)));refine RW.gh (Gh.nil_t 5 1 rfl) ?_;obtain ⟨y5,ey5,h2⟩:=A2 hF
 refine RW.cutq (σ:=Int×Int×(List Bool)) (fun y2=>[(0,.ptr 0 0),(1,.j x1),(5,.sl 1 0 y2.2.2.length)]) (fun y2=>[some ⟨[pvB B0_ o0_ x0.mB,.j y2.1,.j y2.2.1],0⟩,some ⟨fl (encO true) y2.2.2,1⟩]) (fun y=>y5=y) gg ?_ ?_
 ·refine RW.blk ?_
  refine RW.iter (σ:=Int×Int×Int×(List Bool)) ey5 (fun s1=>[(0,.ptr 0 0),(1,.j x1),(5,.sl 1 0 s1.2.2.2.length),(6,.j s1.1)]) (fun s1=>[some ⟨[pvB B0_ o0_ x0.mB,.j s1.2.1,.j s1.2.2.1],0⟩,some ⟨fl (encO true) s1.2.2.2,1⟩]) (Gh.rN [0,1]) (fun s1 B o hS1 hB1 hE1=>?_)
  unfold K8 at hS1;refine RW.seq (RW.sr 2 rfl ?_)
  refine rl.gen rfl rfl fun b hb=>?_
  cases b
  ·have h3:=A4 hS1 hb;refine rl.done (RW.cond_f rfl (RW.exit (B7 ?_)));cases h3
   exact ⟨_,(hE1 _ rfl).symm,(Gh.rN [0,1])⟩
  ·have h4:=A3 hS1 hb;refine rl.done (RW.cond_t rfl (RW.skip (RW.seq (RW.blk (RW.reg (rl.run 2 rfl ?_))))));obtain ⟨v3,e3,h5⟩:=A2 h4;refine rl.call rfl rfl rfl (A6.eN (r0:=.bool v3.1) (H':=[some ⟨[pvB B0_ o0_ x0.mB,.j v3.2.mI,.j v3.2.mH],0⟩,some ⟨fl (encO true) s1.2.2.2,1⟩]) [⟨[pvB B0_ o0_ x0.mB,.j s1.2.1,.j s1.2.2.1],0⟩] [⟨[pvB B0_ o0_ x0.mB,.j v3.2.mI,.j v3.2.mH],0⟩] [] [0] [pvB B0_ o0_ x0.mB] (T5 e3) ?_);refine rl.run 1 rfl ?_;obtain ⟨v4,e4,h6⟩:=A2 h5;refine rl.op (R8 rfl rfl (G0 (l:=s1.2.2.2) (m:=[v3.1]) (o:=true) ekO rfl rfl (D2 (m:=[v3.1]) (o:=true) fkO rfl rfl) rfl (fkO.fst _ _) e4)) ?_;refine rl.f 1 rfl (RW.reg (rl.f 3 rfl ?_));cases h6
   exact hB1 _ rfl _ _ (Gh.rN [0,3])
 ·intro y2 hC
  subst hC;refine RW.seq (RW.seq ?_);obtain ⟨y6,ey6,h7⟩:=A2 h2
  refine RW.cutq (σ:=Bool×Int×Int) (fun y6=>[(5,.sl 1 0 y5.2.2.length),(23,.bool y6.1)]) (fun y6=>[some ⟨[pvB B0_ o0_ x0.mB,.j y6.2.1,.j y6.2.2],0⟩,some ⟨fl (encO true) y5.2.2,1⟩]) (fun y=>y6=y) gg ?_ ?_
  ·refine RW.reg ?_;refine rl.run 1 rfl ?_;obtain ⟨v7,e7,h8⟩:=A2 ey6;refine rl.call rfl rfl rfl (A6.eN (r0:=.bool v7.1) (H':=[some ⟨[pvB B0_ o0_ x0.mB,.j v7.2.mI,.j v7.2.mH],0⟩,some ⟨fl (encO true) y5.2.2,1⟩]) [⟨[pvB B0_ o0_ x0.mB,.j y5.1,.j y5.2.1],0⟩] [⟨[pvB B0_ o0_ x0.mB,.j v7.2.mI,.j v7.2.mH],0⟩] [] [0] [pvB B0_ o0_ x0.mB] (T5 e7) ?_)
   cases hb:v7.1
   ·have h9:=A4 h8 hb;refine rl.f 4 rfl ?_;cases h9
    exact ⟨_,rfl,(Gh.rN [0,1])⟩
   ·have h10:=A3 h8 hb;refine rl.run 2 rfl ?_
    refine rl.gen rfl rfl fun b hb=>?_
    cases b
    ·have h11:=A4 h10 hb;refine rl.f 1 rfl ?_;cases h11
     exact ⟨_,rfl,(Gh.rN [0,1])⟩
    ·have h12:=A3 h10 hb;refine rl.f 1 rfl ?_;cases h12
     exact ⟨_,rfl,(Gh.rN [0,1])⟩
  ·intro y hC
   subst hC
   cases hb:y6.1
   ·have h13:=A4 h7 hb;refine RW.cond_f rfl (RW.skip (RW.sf 2 rfl (RW.ret ?_)));cases h13
    exact RRetM.m [0,1] Gh.refl
   ·have h14:=A3 h7 hb;refine RW.cond_t rfl (RW.reg (rl.run 1 rfl ?_));obtain ⟨v8,e8,h15⟩:=A2 h14;refine rl.op (Yy (i:=1) rfl rfl rfl rfl rfl Zs e8) ?_;refine rl.f 1 rfl (RW.sf 2 rfl (RW.ret ?_));cases h15
    exact RRetM.m [0,1] Gh.refl
theorem Fm {x0:List Int} {r:((List TItem)×(List Bool))×List Bool×Int×Int} (hF:P0 x0=some r):B2 Try.prog 0 89 [L_B x0] [] (.tup [.sl 0 0 r.1.1.length,.sl 1 ((r.2.2.1:Int).toNat*1) r.1.2.length]) [some ⟨fl (A1 true) r.1.1,9⟩,some ⟨fl (encO true) r.2.1,1⟩]:=by
 refine B2.p Ec ?_;unfold P0 at hF;refine RW.sf 2 rfl ?_
 refine RW.pin 0 rfl fun B1 o1=>?_
 refine RW.sr 1 rfl ?_;obtain ⟨v2,e2,h1⟩:=A2 hF;refine rl.call rfl rfl rfl (A6.eN (r0:=.ptr 0 0) (H':=[some ⟨[pvB B1 o1 x0,.j v2.mI,.j v2.mH],0⟩]) [] [] [⟨[pvB B1 o1 x0,.j v2.mI,.j v2.mH],0⟩] [] [pvB B1 o1 x0] (Ae e2) ?_);refine rl.f 1 rfl (RW.sr 1 rfl ?_);obtain ⟨v3,e3,h2⟩:=A2 h1;refine rl.call rfl rfl rfl (A6.eN (r0:=.sl 1 0 v3.1.length) (H':=[some ⟨[pvB B1 o1 x0,.j v3.2.mI,.j v3.2.mH],0⟩,some ⟨fl (A1 true) v3.1,9⟩]) [⟨[pvB B1 o1 x0,.j v2.mI,.j v2.mH],0⟩] [⟨[pvB B1 o1 x0,.j v3.2.mI,.j v3.2.mH],0⟩] [⟨fl (A1 true) v3.1,9⟩] [0] [pvB B1 o1 x0] (Af e3) ?_);refine rl.f 1 rfl (RW.sr 4 rfl ?_);obtain ⟨v4,e4,h3⟩:=A2 h2;refine rl.call rfl rfl rfl (A6.eN (r0:=.sl 2 ((v4.2.2.2.1:Int).toNat*1) v4.1.length) (H':=[some ⟨[pvB B1 o1 x0,.j v4.2.1.mI,.j v4.2.1.mH],0⟩,some ⟨fl (A1 true) v3.1,9⟩,some ⟨fl (encO true) v4.2.2.1,1⟩]) [⟨[pvB B1 o1 x0,.j v3.2.mI,.j v3.2.mH],0⟩] [⟨[pvB B1 o1 x0,.j v4.2.1.mI,.j v4.2.1.mH],0⟩] [⟨fl (encO true) v4.2.2.1,1⟩] [0] [pvB B1 o1 x0] (Bs (Md e4)) ?_);refine rl.f 2 rfl ?_;refine RW.ka [2,3] [(2,.sl 1 0 v3.1.length),(3,.sl 2 ((v4.2.2.2.1:Int).toNat*1) v4.1.length)] rfl ?_;refine RW.ret ?_;cases h3
 exact RRetM.m [1,2] Gh.refl
theorem Wl {x0:List Int} {r:(List TItem)×(List Bool)} (hF:Ej x0=some r):A8 Try.prog 89 [L_B x0] (.tup [.lst true 9 (fl (A1 true) r.1) r.1.length,L_O r.2]):=by
 refine A8.q Ec ?_;unfold Ej at hF;refine RW.sf 2 rfl ?_
 refine RW.pin 0 rfl fun B1 o1=>?_
 refine RW.sr 1 rfl ?_;obtain ⟨v2,e2,h1⟩:=A2 hF;refine rl.call rfl rfl rfl (A6.eN (r0:=.ptr 0 0) (H':=[some ⟨[pvB B1 o1 x0,.j v2.mI,.j v2.mH],0⟩]) [] [] [⟨[pvB B1 o1 x0,.j v2.mI,.j v2.mH],0⟩] [] [pvB B1 o1 x0] (Ae e2) ?_);refine rl.f 1 rfl (RW.sr 1 rfl ?_);obtain ⟨v3,e3,h2⟩:=A2 h1;refine rl.call rfl rfl rfl (A6.eN (r0:=.sl 1 0 v3.1.length) (H':=[some ⟨[pvB B1 o1 x0,.j v3.2.mI,.j v3.2.mH],0⟩,some ⟨fl (A1 true) v3.1,9⟩]) [⟨[pvB B1 o1 x0,.j v2.mI,.j v2.mH],0⟩] [⟨[pvB B1 o1 x0,.j v3.2.mI,.j v3.2.mH],0⟩] [⟨fl (A1 true) v3.1,9⟩] [0] [pvB B1 o1 x0] (Af e3) ?_);refine rl.f 1 rfl (RW.sr 4 rfl ?_);obtain ⟨v4,e4,h3⟩:=A2 h2;refine rl.call rfl rfl rfl (A6.eN (r0:=.sl 2 ((v4.2.2.2.1:Int).toNat*1) v4.1.length) (H':=[some ⟨[pvB B1 o1 x0,.j v4.2.1.mI,.j v4.2.1.mH],0⟩,some ⟨fl (A1 true) v3.1,9⟩,some ⟨fl (encO true) v4.2.2.1,1⟩]) [⟨[pvB B1 o1 x0,.j v3.2.mI,.j v3.2.mH],0⟩] [⟨[pvB B1 o1 x0,.j v4.2.1.mI,.j v4.2.1.mH],0⟩] [⟨fl (encO true) v4.2.2.1,1⟩] [0] [pvB B1 o1 x0] (Bs (Md e4)) ?_);refine rl.f 2 rfl ?_;refine RW.ka [2,3] [(2,.sl 1 0 v3.1.length),(3,.sl 2 ((v4.2.2.2.1:Int).toNat*1) v4.1.length)] rfl ?_;refine RW.ret ?_;cases h3
 exact RRet.m rfl (OutT.tup (.cons (OutR.ownq B3 rfl rfl) (.cons (OutR.viewq fkO rfl (Te (p:=fun r:(List Bool)×TL01Cur×List Bool×Int×Int=>sub? r.2.2.1 r.2.2.2.1 r.2.2.2.2=some r.1) e4)) .nil)))
theorem Dw {x0:List Int} {r:(List TItem)×(List Bool)} (hF:K4 x0=some r):A8 Try.prog 39 [L_B x0] (.tup [.lst true 9 (fl (A1 true) r.1) r.1.length,L_O r.2]):=by
 refine A8.q Fj ?_;unfold K4 at hF;refine RW.sf 2 rfl (RW.sr 1 rfl ?_);obtain ⟨v1,e1,h1⟩:=A2 hF;refine rl.call rfl rfl rfl (A6.eN (r0:=.tup [.sl 0 0 v1.1.1.length,.sl 1 ((v1.2.2.1:Int).toNat*1) v1.1.2.length]) (H':=[some ⟨fl (A1 true) v1.1.1,9⟩,some ⟨fl (encO true) v1.2.1,1⟩]) [] [] [⟨fl (A1 true) v1.1.1,9⟩,⟨fl (encO true) v1.2.1,1⟩] [] [] (Fm (Md e1)) ?_);refine rl.f 4 rfl (RW.ret ?_);cases h1
 exact RRet.m rfl (OutT.tup (.cons (OutR.ownq B3 rfl rfl) (.cons (OutR.viewq fkO rfl (Te (p:=fun r:((List TItem)×(List Bool))×List Bool×Int×Int=>sub? r.2.1 r.2.2.1 r.2.2.2=some r.1.2) e1)) .nil)))
theorem F4 {x0:Int} {x1:Int} {x2:Int} {r:Bool} (hF:E5 x0 x1 x2=some r):A8 Try.prog 67 [.j x0,.j x1,.j x2] (.bool r):=by
 refine A8.q Qr ?_;unfold E5 at hF;refine RW.sf 1 rfl (RW.sr 2 rfl ?_)
 refine rl.gen rfl rfl fun b hb=>?_
 cases b
 ·have h1:=A4 hF hb;refine rl.f 6 rfl ?_;refine RW.ka [6] [(6,.bool false)] rfl ?_;refine RW.ret ?_;cases h1
  exact RRet.y
 ·have h2:=A3 hF hb;refine rl.f 6 rfl ?_;refine RW.ka [6] [(6,.bool (decide (x0≤x2)))] rfl ?_;refine RW.ret ?_;cases h2
  exact RRet.y
theorem Di {x0:List UInt8} {r:Bool} (hF:U7 x0=some r):A8 Try.prog 124 [.str x0] (.bool r):=by
 refine A8.q Pc ?_;unfold U7 at hF;refine RW.sf 1 rfl (RW.seq (RW.sf 1 rfl ?_));obtain ⟨y6,ey6,h2⟩:=A2 hF
 refine RW.cutq (σ:=Unit) (fun y2=>[(0,.str x0)]) (fun y2=>[]) (fun y=>y6=.inr y) gg ?_ ?_
 ·refine RW.blk ?_
  refine RW.iter (σ:=Int) ey6 (fun s1=>[(0,.str x0),(3,.j s1)]) (fun s1=>[]) (Gh.y0 []) (fun s1 B o hS1 hB1 hE1=>?_)
  unfold L1 at hS1;refine RW.seq (RW.sr 3 rfl ?_)
  refine rl.gen rfl rfl fun b hb=>?_
  cases b
  ·have h3:=A4 hS1 hb;refine rl.done (RW.cond_f rfl (RW.exit (B7 ?_)));cases h3
   exact ⟨_,(hE1 _ rfl).symm,(Gh.y0 [])⟩
  ·have h4:=A3 hS1 hb;refine rl.done (RW.cond_t rfl (RW.skip (RW.seq (RW.blk (RW.seq ?_)))));obtain ⟨y3,ey3,h5⟩:=A2 h4
   refine RW.cutq (σ:=Bool) (fun y3=>[(0,.str x0),(3,.j s1),(19,.bool y3)]) (fun y3=>[]) (fun y=>y3=y) gg ?_ ?_
   ·refine RW.reg ?_;refine rl.run 2 rfl ?_;obtain ⟨v4,e4,h6⟩:=A2 ey3;refine rl.op (Vc rfl rfl e4) ?_
    refine rl.gen rfl rfl fun b hb=>?_
    cases b
    ·have h7:=A4 h6 hb;refine rl.run 3 rfl ?_;obtain ⟨v5,e5,h8⟩:=A2 h7;refine rl.gop rfl (Vc rfl rfl e5) ?_
     refine rl.gen rfl rfl fun b hb=>?_
     cases b
     ·have h9:=A4 h8 hb;refine rl.f 1 rfl ?_;cases h9
      exact ⟨_,rfl,(Gh.y0 [])⟩
     ·have h10:=A3 h8 hb;refine rl.f 1 rfl ?_;cases h10
      exact ⟨_,rfl,(Gh.y0 [])⟩
    ·have h11:=A3 h6 hb;refine rl.f 6 rfl ?_;cases h11
     exact ⟨_,rfl,(Gh.y0 [])⟩
   ·intro y hC
    subst hC
    cases hb:y3
    ·have h12:=A4 h5 hb;refine RW.cond_f rfl (RW.skip (RW.reg (rl.f 3 rfl ?_)));cases h12
     exact hB1 _ rfl _ _ (Gh.y0 [])
    ·have h13:=A3 h5 hb;refine RW.cond_t rfl (RW.sf 1 rfl (RW.ret ?_));cases h13;have h14:=elimL h2 (hE1 _ rfl);cases h14
     exact RRet.y
 ·intro y2 hC
  have h2:=elimR h2 hC;refine RW.sr 2 rfl ?_;obtain ⟨v7,e7,h15⟩:=A2 h2;refine rl.call rfl rfl rfl (A6.y (r':=.bool v7) (F4 e7) ?_);refine rl.f 1 rfl (RW.ret ?_);cases h15
  exact RRet.y
set_option maxHeartbeats 2000000 in
theorem Ly {x0:TRec} {r:Bool} (hF:Ai x0=some r):A8 Try.prog 86 [.agg (A7 false x0)] (.bool r):=by
 refine A8.q Qv ?_;unfold Ai at hF;refine RW.sf 2 rfl (RW.seq (RW.seq ?_));obtain ⟨y1,ey1,h1⟩:=A2 hF
 refine RW.cutq (σ:=Bool) (fun y1=>[(1,.ptr 0 0),(15,.bool y1)]) (fun y1=>[some ⟨A7 false x0,0⟩]) (fun y=>y1=y) gg ?_ ?_
 ·refine RW.reg ?_;refine rl.run 2 rfl ?_;obtain ⟨v2,e2,h2⟩:=A2 ey1;refine rl.call rfl rfl rfl (A6.y (r':=.bool v2) (F4 e2) ?_)
  cases hb:v2
  ·have h3:=A4 h2 hb;refine rl.f 7 rfl ?_;cases h3
   exact ⟨_,rfl,(Gh.y0 [0])⟩
  ·have h4:=A3 h2 hb;refine rl.run 4 rfl ?_;obtain ⟨v3,e3,h5⟩:=A2 h4;refine rl.call rfl rfl rfl (A6.y (r':=.bool v3) (F4 e3) ?_)
   cases hb:v3
   ·have h6:=A4 h5 hb;refine rl.f 2 rfl ?_;cases h6
    exact ⟨_,rfl,(Gh.y0 [0])⟩
   ·have h7:=A3 h5 hb;refine rl.f 2 rfl ?_;cases h7
    exact ⟨_,rfl,(Gh.y0 [0])⟩
 ·intro y hC
  subst hC
  cases hb:y1
  ·have h8:=A4 h1 hb;refine RW.cond_f rfl (RW.skip (RW.sr 2 rfl ?_))
   refine rl.gen rfl rfl fun b hb=>?_
   cases b
   ·have h9:=A4 h8 hb;refine rl.f 1 rfl (RW.seq ?_);obtain ⟨y4,ey4,h10⟩:=A2 h9
    refine RW.cutq (σ:=Bool) (fun y4=>[(1,.ptr 0 0),(3,.bool false),(4,.bool y4)]) (fun y4=>[some ⟨A7 false x0,0⟩]) (fun y=>y4=y) gg ?_ ?_
    ·refine RW.reg ?_;refine rl.run 2 rfl ?_
     refine rl.gen rfl rfl fun b hb=>?_
     cases b
     ·have h11:=A4 ey4 hb;refine rl.run 3 rfl ?_
      refine rl.gen rfl rfl fun b hb=>?_
      cases b
      ·have h12:=A4 h11 hb;refine rl.run 4 rfl ?_
       refine rl.gen rfl rfl fun b hb=>?_
       cases b
       ·have h13:=A4 h12 hb;refine rl.f 2 rfl ?_;cases h13
        exact ⟨_,rfl,(Gh.y0 [0])⟩
       ·have h14:=A3 h12 hb;refine rl.f 2 rfl ?_;cases h14
        exact ⟨_,rfl,(Gh.y0 [0])⟩
      ·have h15:=A3 h11 hb;refine rl.f 7 rfl ?_;cases h15
       exact ⟨_,rfl,(Gh.y0 [0])⟩
     ·have h16:=A3 ey4 hb;refine rl.f 11 rfl ?_;cases h16
      exact ⟨_,rfl,(Gh.y0 [0])⟩
    ·intro y hC
     subst hC;refine RW.seq ?_;obtain ⟨y5,ey5,h17⟩:=A2 h10
     refine RW.cutq (σ:=Bool) (fun y5=>[(1,.ptr 0 0),(3,.bool false),(4,.bool y4),(5,.bool y5)]) (fun y5=>[some ⟨A7 false x0,0⟩]) (fun y=>y5=y) gg ?_ ?_
     ·refine RW.reg ?_;refine rl.run 2 rfl ?_
      refine rl.gen rfl rfl fun b hb=>?_
      cases b
      ·have h18:=A4 ey5 hb;refine rl.run 3 rfl ?_
       refine rl.gen rfl rfl fun b hb=>?_
       cases b
       ·have h19:=A4 h18 hb;refine rl.f 2 rfl ?_;cases h19
        exact ⟨_,rfl,(Gh.y0 [0])⟩
       ·have h20:=A3 h18 hb;refine rl.f 2 rfl ?_;cases h20
        exact ⟨_,rfl,(Gh.y0 [0])⟩
      ·have h21:=A3 ey5 hb;refine rl.f 6 rfl ?_;cases h21
       exact ⟨_,rfl,(Gh.y0 [0])⟩
     ·intro y hC
      subst hC;refine RW.seq (RW.seq ?_);obtain ⟨y6,ey6,h22⟩:=A2 h17
      refine RW.cutq (σ:=Bool) (fun y6=>[(1,.ptr 0 0),(4,.bool y4),(5,.bool y5),(77,.bool y6)]) (fun y6=>[some ⟨A7 false x0,0⟩]) (fun y=>y6=y) gg ?_ ?_
      ·refine RW.reg ?_;refine rl.run 25 rfl ?_
       refine rl.gen rfl rfl fun b hb=>?_
       cases b
       ·have h23:=A4 ey6 hb;refine rl.run 3 rfl ?_
        refine rl.gen rfl rfl fun b hb=>?_
        cases b
        ·have h24:=A4 h23 hb;refine rl.run 4 rfl ?_
         refine rl.gen rfl rfl fun b hb=>?_
         cases b
         ·have h25:=A4 h24 hb;refine rl.f 3 rfl ?_;cases h25
          exact ⟨_,rfl,(Gh.y0 [0])⟩
         ·have h26:=A3 h24 hb;refine rl.f 3 rfl ?_;cases h26
          exact ⟨_,rfl,(Gh.y0 [0])⟩
        ·have h27:=A3 h23 hb;refine rl.f 8 rfl ?_;cases h27
         exact ⟨_,rfl,(Gh.y0 [0])⟩
       ·have h28:=A3 ey6 hb;refine rl.f 12 rfl ?_;cases h28
        exact ⟨_,rfl,(Gh.y0 [0])⟩
      ·intro y hC
       subst hC
       cases hb:y6
       ·have h29:=A4 h22 hb;refine RW.cond_f rfl (RW.skip (RW.seq (RW.seq ?_)));obtain ⟨y7,ey7,h30⟩:=A2 h29
        refine RW.cutq (σ:=Bool) (fun y7=>[(1,.ptr 0 0),(5,.bool y5),(93,.bool y7)]) (fun y7=>[some ⟨A7 false x0,0⟩]) (fun y=>y7=y) gg ?_ ?_
        ·refine RW.reg ?_;refine rl.run 2 rfl ?_
         cases hb:y4
         ·have h31:=A4 ey7 hb;refine rl.run 11 rfl ?_
          refine rl.gen rfl rfl fun b hb=>?_
          cases b
          ·have h32:=A4 h31 hb;refine rl.f 2 rfl ?_;cases h32
           exact ⟨_,rfl,(Gh.y0 [0])⟩
          ·have h33:=A3 h31 hb;refine rl.f 2 rfl ?_;cases h33
           exact ⟨_,rfl,(Gh.y0 [0])⟩
         ·have h34:=A3 ey7 hb;refine rl.run 2 rfl ?_;obtain ⟨v8,e8,h35⟩:=A2 h34;refine rl.call rfl rfl rfl (A6.y (r':=.bool v8) (F4 e8) ?_)
          cases hb:v8
          ·have h36:=A4 h35 hb;refine rl.f 11 rfl ?_;cases h36
           exact ⟨_,rfl,(Gh.y0 [0])⟩
          ·have h37:=A3 h35 hb;refine rl.f 11 rfl ?_;cases h37
           exact ⟨_,rfl,(Gh.y0 [0])⟩
        ·intro y hC
         subst hC
         cases hb:y7
         ·have h38:=A4 h30 hb;refine RW.cond_f rfl (RW.skip (RW.seq (RW.seq ?_)));obtain ⟨y9,ey9,h39⟩:=A2 h38
          refine RW.cutq (σ:=Bool) (fun y9=>[(1,.ptr 0 0),(109,.bool y9)]) (fun y9=>[some ⟨A7 false x0,0⟩]) (fun y=>y9=y) gg ?_ ?_
          ·refine RW.reg ?_;refine rl.run 2 rfl ?_
           cases hb:y5
           ·have h40:=A4 ey9 hb;refine rl.run 11 rfl ?_
            refine rl.gen rfl rfl fun b hb=>?_
            cases b
            ·have h41:=A4 h40 hb;refine rl.f 2 rfl ?_;cases h41
             exact ⟨_,rfl,(Gh.y0 [0])⟩
            ·have h42:=A3 h40 hb;refine rl.f 2 rfl ?_;cases h42
             exact ⟨_,rfl,(Gh.y0 [0])⟩
           ·have h43:=A3 ey9 hb;refine rl.run 2 rfl ?_;obtain ⟨v10,e10,h44⟩:=A2 h43;refine rl.call rfl rfl rfl (A6.y (r':=.bool v10) (F4 e10) ?_)
            cases hb:v10
            ·have h45:=A4 h44 hb;refine rl.f 11 rfl ?_;cases h45
             exact ⟨_,rfl,(Gh.y0 [0])⟩
            ·have h46:=A3 h44 hb;refine rl.f 11 rfl ?_;cases h46
             exact ⟨_,rfl,(Gh.y0 [0])⟩
          ·intro y hC
           subst hC
           cases hb:y9
           ·have h47:=A4 h39 hb;refine RW.cond_f rfl (RW.skip (RW.seq (RW.sr 2 rfl ?_)))
            refine rl.gen rfl rfl fun b hb=>?_
            cases b
            ·have h48:=A4 h47 hb;refine rl.done (RW.cond_f rfl (RW.skip (RW.sf 4 rfl (RW.ret ?_))));cases h48
             exact RRet.y
            ·have h49:=A3 h47 hb;refine rl.done (RW.cond_t rfl (RW.sf 5 rfl (RW.ret ?_)));cases h49
             exact RRet.y
           ·have h50:=A3 h39 hb;refine RW.cond_t rfl (RW.sf 1 rfl (RW.ret ?_));cases h50
            exact RRet.y
         ·have h51:=A3 h30 hb;refine RW.cond_t rfl (RW.sf 1 rfl (RW.ret ?_));cases h51
          exact RRet.y
       ·have h52:=A3 h22 hb;refine RW.cond_t rfl (RW.sf 1 rfl (RW.ret ?_));cases h52
        exact RRet.y
   ·have h53:=A3 h8 hb;refine rl.f 1 rfl (RW.seq ?_);obtain ⟨y11,ey11,h54⟩:=A2 h53
    refine RW.cutq (σ:=Bool) (fun y11=>[(1,.ptr 0 0),(3,.bool true),(4,.bool y11)]) (fun y11=>[some ⟨A7 false x0,0⟩]) (fun y=>y11=y) gg ?_ ?_
    ·refine RW.reg ?_;refine rl.run 2 rfl ?_
     refine rl.gen rfl rfl fun b hb=>?_
     cases b
     ·have h55:=A4 ey11 hb;refine rl.run 3 rfl ?_
      refine rl.gen rfl rfl fun b hb=>?_
      cases b
      ·have h56:=A4 h55 hb;refine rl.run 4 rfl ?_
       refine rl.gen rfl rfl fun b hb=>?_
       cases b
       ·have h57:=A4 h56 hb;refine rl.f 2 rfl ?_;cases h57
        exact ⟨_,rfl,(Gh.y0 [0])⟩
       ·have h58:=A3 h56 hb;refine rl.f 2 rfl ?_;cases h58
        exact ⟨_,rfl,(Gh.y0 [0])⟩
      ·have h59:=A3 h55 hb;refine rl.f 7 rfl ?_;cases h59
       exact ⟨_,rfl,(Gh.y0 [0])⟩
     ·have h60:=A3 ey11 hb;refine rl.f 11 rfl ?_;cases h60
      exact ⟨_,rfl,(Gh.y0 [0])⟩
    ·intro y hC
     subst hC;refine RW.seq ?_;obtain ⟨y12,ey12,h61⟩:=A2 h54
     refine RW.cutq (σ:=Bool) (fun y12=>[(1,.ptr 0 0),(3,.bool true),(4,.bool y11),(5,.bool y12)]) (fun y12=>[some ⟨A7 false x0,0⟩]) (fun y=>y12=y) gg ?_ ?_
     ·refine RW.reg ?_;refine rl.run 2 rfl ?_
      refine rl.gen rfl rfl fun b hb=>?_
      cases b
      ·have h62:=A4 ey12 hb;refine rl.run 3 rfl ?_
       refine rl.gen rfl rfl fun b hb=>?_
       cases b
       ·have h63:=A4 h62 hb;refine rl.f 2 rfl ?_;cases h63
        exact ⟨_,rfl,(Gh.y0 [0])⟩
       ·have h64:=A3 h62 hb;refine rl.f 2 rfl ?_;cases h64
        exact ⟨_,rfl,(Gh.y0 [0])⟩
      ·have h65:=A3 ey12 hb;refine rl.f 6 rfl ?_;cases h65
       exact ⟨_,rfl,(Gh.y0 [0])⟩
     ·intro y hC
      subst hC;refine RW.seq (RW.seq ?_);obtain ⟨y13,ey13,h66⟩:=A2 h61
      refine RW.cutq (σ:=Bool) (fun y13=>[(1,.ptr 0 0),(4,.bool y11),(5,.bool y12),(77,.bool y13)]) (fun y13=>[some ⟨A7 false x0,0⟩]) (fun y=>y13=y) gg ?_ ?_
      ·refine RW.reg ?_;refine rl.run 4 rfl ?_;obtain ⟨v14,e14,h67⟩:=A2 ey13;refine rl.call rfl rfl rfl (A6.y (r':=.bool v14) (Di e14) ?_)
       cases hb:v14
       ·have h68:=A4 h67 hb;refine rl.f 33 rfl ?_;cases h68
        exact ⟨_,rfl,(Gh.y0 [0])⟩
       ·have h69:=A3 h67 hb;refine rl.run 4 rfl ?_;obtain ⟨v15,e15,h70⟩:=A2 h69;refine rl.call rfl rfl rfl (A6.y (r':=.bool v15) (Di e15) ?_)
        cases hb:v15
        ·have h71:=A4 h70 hb;refine rl.f 28 rfl ?_;cases h71
         exact ⟨_,rfl,(Gh.y0 [0])⟩
        ·have h72:=A3 h70 hb;refine rl.run 5 rfl ?_;obtain ⟨v16,e16,h73⟩:=A2 h72;refine rl.call rfl rfl rfl (A6.y (r':=.bool v16) (F4 e16) ?_)
         cases hb:v16
         ·have h74:=A4 h73 hb;refine rl.f 22 rfl ?_;cases h74
          exact ⟨_,rfl,(Gh.y0 [0])⟩
         ·have h75:=A3 h73 hb;refine rl.f 22 rfl ?_;cases h75
          exact ⟨_,rfl,(Gh.y0 [0])⟩
      ·intro y hC
       subst hC
       cases hb:y13
       ·have h76:=A4 h66 hb;refine RW.cond_f rfl (RW.skip (RW.seq (RW.seq ?_)));obtain ⟨y17,ey17,h77⟩:=A2 h76
        refine RW.cutq (σ:=Bool) (fun y17=>[(1,.ptr 0 0),(5,.bool y12),(93,.bool y17)]) (fun y17=>[some ⟨A7 false x0,0⟩]) (fun y=>y17=y) gg ?_ ?_
        ·refine RW.reg ?_;refine rl.run 2 rfl ?_
         cases hb:y11
         ·have h78:=A4 ey17 hb;refine rl.run 11 rfl ?_
          refine rl.gen rfl rfl fun b hb=>?_
          cases b
          ·have h79:=A4 h78 hb;refine rl.f 2 rfl ?_;cases h79
           exact ⟨_,rfl,(Gh.y0 [0])⟩
          ·have h80:=A3 h78 hb;refine rl.f 2 rfl ?_;cases h80
           exact ⟨_,rfl,(Gh.y0 [0])⟩
         ·have h81:=A3 ey17 hb;refine rl.run 2 rfl ?_;obtain ⟨v18,e18,h82⟩:=A2 h81;refine rl.call rfl rfl rfl (A6.y (r':=.bool v18) (F4 e18) ?_)
          cases hb:v18
          ·have h83:=A4 h82 hb;refine rl.f 11 rfl ?_;cases h83
           exact ⟨_,rfl,(Gh.y0 [0])⟩
          ·have h84:=A3 h82 hb;refine rl.f 11 rfl ?_;cases h84
           exact ⟨_,rfl,(Gh.y0 [0])⟩
        ·intro y hC
         subst hC
         cases hb:y17
         ·have h85:=A4 h77 hb;refine RW.cond_f rfl (RW.skip (RW.seq (RW.seq ?_)));obtain ⟨y19,ey19,h86⟩:=A2 h85
          refine RW.cutq (σ:=Bool) (fun y19=>[(1,.ptr 0 0),(109,.bool y19)]) (fun y19=>[some ⟨A7 false x0,0⟩]) (fun y=>y19=y) gg ?_ ?_
          ·refine RW.reg ?_;refine rl.run 2 rfl ?_
           cases hb:y12
           ·have h87:=A4 ey19 hb;refine rl.run 11 rfl ?_
            refine rl.gen rfl rfl fun b hb=>?_
            cases b
            ·have h88:=A4 h87 hb;refine rl.f 2 rfl ?_;cases h88
             exact ⟨_,rfl,(Gh.y0 [0])⟩
            ·have h89:=A3 h87 hb;refine rl.f 2 rfl ?_;cases h89
             exact ⟨_,rfl,(Gh.y0 [0])⟩
           ·have h90:=A3 ey19 hb;refine rl.run 2 rfl ?_;obtain ⟨v20,e20,h91⟩:=A2 h90;refine rl.call rfl rfl rfl (A6.y (r':=.bool v20) (F4 e20) ?_)
            cases hb:v20
            ·have h92:=A4 h91 hb;refine rl.f 11 rfl ?_;cases h92
             exact ⟨_,rfl,(Gh.y0 [0])⟩
            ·have h93:=A3 h91 hb;refine rl.f 11 rfl ?_;cases h93
             exact ⟨_,rfl,(Gh.y0 [0])⟩
          ·intro y hC
           subst hC
           cases hb:y19
           ·have h94:=A4 h86 hb;refine RW.cond_f rfl (RW.skip (RW.seq (RW.sr 2 rfl ?_)))
            refine rl.gen rfl rfl fun b hb=>?_
            cases b
            ·have h95:=A4 h94 hb;refine rl.done (RW.cond_f rfl (RW.skip (RW.sf 4 rfl (RW.ret ?_))));cases h95
             exact RRet.y
            ·have h96:=A3 h94 hb;refine rl.done (RW.cond_t rfl (RW.sf 5 rfl (RW.ret ?_)));cases h96
             exact RRet.y
           ·have h97:=A3 h86 hb;refine RW.cond_t rfl (RW.sf 1 rfl (RW.ret ?_));cases h97
            exact RRet.y
         ·have h98:=A3 h77 hb;refine RW.cond_t rfl (RW.sf 1 rfl (RW.ret ?_));cases h98
          exact RRet.y
       ·have h99:=A3 h66 hb;refine RW.cond_t rfl (RW.sf 1 rfl (RW.ret ?_));cases h99
        exact RRet.y
  ·have h100:=A3 h1 hb;refine RW.cond_t rfl (RW.sf 1 rfl (RW.ret ?_));cases h100
   exact RRet.y
set_option maxHeartbeats 2000000 in
theorem Am {x0:List TItem} {r:Bool} (hF:K7 x0=some r):A8 Try.prog 35 [A5 x0] (.bool r):=by
 refine A8.q Kw ?_;unfold K7 at hF;refine RW.sf 1 rfl (RW.seq (RW.sf 1 rfl ?_));obtain ⟨y16,ey16,h2⟩:=A2 hF
 refine RW.cutq (σ:=Unit) (fun y2=>[(0,A5 x0)]) (fun y2=>[]) (fun y=>y16=.inr y) gg ?_ ?_
 ·refine RW.blk ?_
  refine RW.iter (σ:=Int) ey16 (fun s1=>[(0,A5 x0),(3,.j s1)]) (fun s1=>[]) (Gh.y0 []) (fun s1 B o hS1 hB1 hE1=>?_)
  unfold M9 at hS1;refine RW.seq (RW.sr 3 rfl ?_)
  refine rl.gen rfl rfl fun b hb=>?_
  cases b
  ·have h3:=A4 hS1 hb;refine rl.done (RW.cond_f rfl (RW.exit (B7 ?_)));cases h3
   exact ⟨_,(hE1 _ rfl).symm,(Gh.y0 [])⟩
  ·have h4:=A3 hS1 hb;refine rl.done (RW.cond_t rfl (RW.skip (RW.seq (RW.blk (RW.seq (RW.seq ?_))))));obtain ⟨y3,ey3,h5⟩:=A2 h4
   refine RW.cutq (σ:=Bool) (fun y3=>[(0,A5 x0),(3,.j s1),(26,.bool y3)]) (fun y3=>[]) (fun y=>y3=y) gg ?_ ?_
   ·refine RW.reg ?_;refine rl.run 2 rfl ?_;obtain ⟨v4,e4,h6⟩:=A2 ey3;refine rl.op (B4 (enc:=A1) (o:=false) rfl rfl rfl e4) ?_;refine rl.run 1 rfl ?_;refine rl.op (G3 (off':=0) B3 rfl e4 rfl rfl rfl) ?_;obtain ⟨v5,e5,h7⟩:=A2 h6;refine rl.call rfl rfl rfl (A6.y (r':=.bool v5) (F4 e5) ?_)
    cases hb:v5
    ·have h8:=A4 h7 hb;refine rl.f 10 rfl ?_;cases h8
     exact ⟨_,rfl,(Gh.y0 [])⟩
    ·have h9:=A3 h7 hb;refine rl.run 4 rfl ?_;obtain ⟨v6,e6,h10⟩:=A2 h9;refine rl.gop rfl (B4 (enc:=A1) (o:=false) rfl rfl rfl e6) ?_;refine rl.run 1 rfl ?_;refine rl.gop rfl (C5 (off':=1) (vs:=(A7 false v6.Rec)) B3 rfl e6 rfl rfl rfl) ?_;obtain ⟨v7,e7,h11⟩:=A2 h10;refine rl.call rfl rfl rfl (A6.y (r':=.bool v7) (Ly e7) ?_)
     cases hb:v7
     ·have h12:=A4 h11 hb;refine rl.f 2 rfl ?_;cases h12
      exact ⟨_,rfl,(Gh.y0 [])⟩
     ·have h13:=A3 h11 hb;refine rl.f 2 rfl ?_;cases h13
      exact ⟨_,rfl,(Gh.y0 [])⟩
   ·intro y hC
    subst hC
    cases hb:y3
    ·have h14:=A4 h5 hb;refine RW.cond_f rfl (RW.skip (RW.sf 1 rfl ?_));obtain ⟨y15,ey15,h16⟩:=A2 h14
     refine RW.cutq (σ:=Unit) (fun y9=>[(0,A5 x0),(3,.j s1)]) (fun y9=>[]) (fun y=>y15=.inr y) gg ?_ ?_
     ·refine RW.blk ?_
      refine RW.iter (σ:=Int) ey15 (fun s8=>[(0,A5 x0),(3,.j s1),(4,.j s8)]) (fun s8=>[]) (Gh.y0 []) (fun s8 B o hS15 hB15 hE15=>?_)
      unfold Q2 at hS15;refine RW.seq (RW.sr 2 rfl ?_)
      refine rl.gen rfl rfl fun b hb=>?_
      cases b
      ·have h17:=A4 hS15 hb;refine rl.done (RW.cond_f rfl (RW.exit (B7 ?_)));cases h17
       exact ⟨_,(hE15 _ rfl).symm,(Gh.y0 [])⟩
      ·have h18:=A3 hS15 hb;refine rl.done (RW.cond_t rfl (RW.skip (RW.seq (RW.blk (RW.seq ?_)))));obtain ⟨y10,ey10,h19⟩:=A2 h18
       refine RW.cutq (σ:=Bool) (fun y10=>[(0,A5 x0),(3,.j s1),(4,.j s8),(53,.bool y10)]) (fun y10=>[]) (fun y=>y10=y) gg ?_ ?_
       ·refine RW.drw ?_;refine A0.op rfl rfl (A0.op rfl rfl ?_);obtain ⟨v11,e11,h20⟩:=A2 ey10;refine A0.op rfl (B4 (enc:=A1) (o:=false) rfl rfl rfl e11) ?_;refine A0.op rfl rfl ?_;refine A0.op rfl (G3 (off':=0) B3 rfl e11 rfl rfl rfl) ?_;refine A0.op rfl rfl (A0.op rfl rfl ?_);obtain ⟨v12,e12,h21⟩:=A2 h20;refine A0.op rfl (B4 (enc:=A1) (o:=false) rfl rfl rfl e12) ?_;refine A0.op rfl rfl ?_;refine A0.op rfl (G3 (off':=0) B3 rfl e12 rfl rfl rfl) ?_
        refine A0.gen rfl rfl fun b hb=>?_
        cases b
        ·have h22:=A4 h21 hb;refine A0.op rfl rfl (A0.off rfl (A0.off rfl (A0.off rfl (A0.off rfl (A0.off rfl (A0.off rfl (A0.off rfl (A0.off rfl (A0.off rfl (A0.op rfl rfl (A0.done ?_)))))))))));cases h22
         exact ⟨_,rfl,(Gh.y0 [])⟩
        ·have h23:=A3 h21 hb;refine A0.op rfl rfl (A0.op rfl rfl (A0.op rfl rfl ?_));obtain ⟨v13,e13,h24⟩:=A2 h23;refine A0.op rfl (B4 (enc:=A1) (o:=false) rfl rfl rfl e13) ?_;refine A0.op rfl (C5 (off':=0) (vs:=(A1 false v13)) B3 rfl e13 rfl rfl rfl) ?_;refine A0.op rfl rfl (A0.op rfl rfl ?_);obtain ⟨v14,e14,h25⟩:=A2 h24;refine A0.op rfl (B4 (enc:=A1) (o:=false) rfl rfl rfl e14) ?_;refine A0.op rfl (C5 (off':=0) (vs:=(A1 false v14)) B3 rfl e14 rfl rfl rfl) ?_
         refine A0.gen rfl rfl fun b hb=>?_
         cases b
         ·have h26:=A4 h25 hb;refine A0.op rfl rfl (A0.done ?_);cases h26
          exact ⟨_,rfl,(Gh.y0 [])⟩
         ·have h27:=A3 h25 hb;refine A0.op rfl rfl (A0.done ?_);cases h27
          exact ⟨_,rfl,(Gh.y0 [])⟩
       ·intro y hC
        subst hC
        cases hb:y10
        ·have h28:=A4 h19 hb;refine RW.cond_f rfl (RW.skip (RW.reg (rl.f 3 rfl ?_)));cases h28
         exact hB15 _ rfl _ _ (Gh.y0 [])
        ·have h29:=A3 h19 hb;refine RW.cond_t rfl (RW.sf 1 rfl (RW.ret ?_));cases h29;have h30:=elimL h16 (hE15 _ rfl);cases h30;have h31:=elimL h2 (hE1 _ rfl);cases h31
         exact RRet.y
     ·intro y9 hC
      have h16:=elimR h16 hC;refine RW.reg (rl.f 3 rfl ?_);cases h16
      exact hB1 _ rfl _ _ (Gh.y0 [])
    ·have h32:=A3 h5 hb;refine RW.cond_t rfl (RW.sf 1 rfl (RW.ret ?_));cases h32;have h33:=elimL h2 (hE1 _ rfl);cases h33
     exact RRet.y
 ·intro y2 hC
  have h2:=elimR h2 hC;refine RW.sf 4 rfl (RW.ret ?_);cases h2
  exact RRet.y
theorem Fn {x0:TItem} {x1:TItem} {r:Bool} (hF:R3 x0 x1=some r):A8 Try.prog 128 [.agg (A1 false x0),.agg (A1 false x1)] (.bool r):=by
 refine A8.q Jk ?_;unfold R3 at hF;refine RW.sf 3 rfl (RW.seq ?_);obtain ⟨y1,ey1,h1⟩:=A2 hF
 refine RW.cutq (σ:=Bool) (fun y1=>[(4,.bool y1)]) (fun y1=>[]) (fun y=>y1=y) gg ?_ ?_
 ·refine RW.reg ?_;refine rl.run 6 rfl ?_
  refine rl.gen rfl rfl fun b hb=>?_
  cases b
  ·have h2:=A4 ey1 hb;refine rl.run 7 rfl ?_
   refine rl.gen rfl rfl fun b hb=>?_
   cases b
   ·have h3:=A4 h2 hb;refine rl.f 9 rfl ?_;cases h3
    exact ⟨_,rfl,(Gh.y0 [])⟩
   ·have h4:=A3 h2 hb;refine rl.f 9 rfl ?_;cases h4
    exact ⟨_,rfl,(Gh.y0 [])⟩
  ·have h5:=A3 ey1 hb;refine rl.f 17 rfl ?_;cases h5
   exact ⟨_,rfl,(Gh.y0 [])⟩
 ·intro y hC
  subst hC;refine RW.ret ?_;cases h1
  exact RRet.y
set_option maxHeartbeats 2000000 in
theorem F7 {x0:List TItem} {x1:Int} {x2:Int} {x3:Int} {r:TItem×Bool} (hF:E2 x0 x1 x2 x3=some r):A8 Try.prog 79 [A5 x0,.j x1,.j x2,.j x3] (.tup [.agg (A1 true r.1),.bool r.2]):=by
 refine A8.q Mh ?_;unfold E2 at hF;refine RW.sf 2 rfl (RW.sf 3 rfl (RW.sf 1 rfl (RW.seq (RW.sr 1 rfl ?_))));refine rl.done ?_;obtain ⟨y5,ey5,h2⟩:=A2 hF
 refine RW.cutq (σ:=Bool×Int×Int×Int×Int×Int×Int×(List UInt8)×(List UInt8)×(List UInt8)) (fun y2=>[(8,.ptr 0 0),(10,.ptr 1 0),(11,.bool y2.1)]) (fun y2=>[some ⟨[.j 0,.j 0,.j 0,.j 0,.j 0,.j 0,.str [],.str [],.str []],0⟩,some ⟨[.j y2.2.1,.j y2.2.2.1,.j y2.2.2.2.1,.j y2.2.2.2.2.1,.j y2.2.2.2.2.2.1,.j y2.2.2.2.2.2.2.1,.str y2.2.2.2.2.2.2.2.1,.str y2.2.2.2.2.2.2.2.2.1,.str y2.2.2.2.2.2.2.2.2.2],0⟩]) (fun y=>y5=y) gg ?_ ?_
 ·refine RW.blk ?_
  refine RW.iter (σ:=Bool×Int×Int×Int×Int×Int×Int×Int×(List UInt8)×(List UInt8)×(List UInt8)) ey5 (fun s1=>[(0,A5 x0),(1,.j x1),(2,.j x2),(3,.j x3),(8,.ptr 0 0),(10,.ptr 1 0),(11,.bool s1.1),(12,.j s1.2.1)]) (fun s1=>[some ⟨[.j 0,.j 0,.j 0,.j 0,.j 0,.j 0,.str [],.str [],.str []],0⟩,some ⟨[.j s1.2.2.1,.j s1.2.2.2.1,.j s1.2.2.2.2.1,.j s1.2.2.2.2.2.1,.j s1.2.2.2.2.2.2.1,.j s1.2.2.2.2.2.2.2.1,.str s1.2.2.2.2.2.2.2.2.1,.str s1.2.2.2.2.2.2.2.2.2.1,.str s1.2.2.2.2.2.2.2.2.2.2],0⟩]) (Gh.y0 [0,1]) (fun s1 B o hS1 hB1 hE1=>?_)
  unfold P5 at hS1;refine RW.seq (RW.sr 3 rfl ?_)
  refine rl.gen rfl rfl fun b hb=>?_
  cases b
  ·have h3:=A4 hS1 hb;refine rl.done (RW.cond_f rfl (RW.exit (B7 ?_)));cases h3
   exact ⟨_,(hE1 _ rfl).symm,(Gh.y0 [0,1])⟩
  ·have h4:=A3 hS1 hb;refine rl.done (RW.cond_t rfl (RW.skip (RW.seq (RW.blk (RW.sr 2 rfl ?_)))));obtain ⟨v3,e3,h5⟩:=A2 h4;refine rl.op (B4 (enc:=A1) (o:=false) rfl rfl rfl e3) ?_;refine rl.op (C5 (off':=0) (vs:=(A1 false v3)) B3 rfl e3 rfl rfl rfl) ?_;refine rl.f 2 rfl (RW.seq ?_);obtain ⟨y4,ey4,h6⟩:=A2 h5
   refine RW.cutq (σ:=Bool) (fun y4=>[(0,A5 x0),(1,.j x1),(2,.j x2),(3,.j x3),(8,.ptr 0 0),(10,.ptr 1 0),(11,.bool s1.1),(12,.j s1.2.1),(13,.ptr 2 0),(54,.bool y4)]) (fun y4=>[some ⟨[.j 0,.j 0,.j 0,.j 0,.j 0,.j 0,.str [],.str [],.str []],0⟩,some ⟨[.j s1.2.2.1,.j s1.2.2.2.1,.j s1.2.2.2.2.1,.j s1.2.2.2.2.2.1,.j s1.2.2.2.2.2.2.1,.j s1.2.2.2.2.2.2.2.1,.str s1.2.2.2.2.2.2.2.2.1,.str s1.2.2.2.2.2.2.2.2.2.1,.str s1.2.2.2.2.2.2.2.2.2.2],0⟩,some ⟨A1 false v3,0⟩]) (fun y=>y4=y) gg ?_ ?_
   ·refine RW.reg ?_;refine rl.run 4 rfl ?_
    refine rl.gen rfl rfl fun b hb=>?_
    cases b
    ·have h7:=A4 ey4 hb;refine rl.f 25 rfl ?_;cases h7
     exact ⟨_,rfl,(Gh.y0 [0,1,2])⟩
    ·have h8:=A3 ey4 hb;refine rl.run 5 rfl ?_
     refine rl.gen rfl rfl fun b hb=>?_
     cases b
     ·have h9:=A4 h8 hb;refine rl.f 19 rfl ?_;cases h9
      exact ⟨_,rfl,(Gh.y0 [0,1,2])⟩
     ·have h10:=A3 h8 hb;refine rl.run 6 rfl ?_
      refine rl.gen rfl rfl fun b hb=>?_
      cases b
      ·have h11:=A4 h10 hb;refine rl.f 12 rfl ?_;cases h11
       exact ⟨_,rfl,(Gh.y0 [0,1,2])⟩
      ·have h12:=A3 h10 hb;refine rl.run 5 rfl ?_
       cases hb:(!s1.1)
       ·have h13:=A4 h12 hb;refine rl.run 4 rfl ?_
        refine rl.gen rfl rfl fun b hb=>?_
        cases b
        ·have h14:=A4 h13 hb;refine rl.f 2 rfl ?_;cases h14
         exact ⟨_,rfl,(Gh.y0 [0,1,2])⟩
        ·have h15:=A3 h13 hb;refine rl.f 2 rfl ?_;cases h15
         exact ⟨_,rfl,(Gh.y0 [0,1,2])⟩
       ·have h16:=A3 h12 hb;refine rl.f 7 rfl ?_;cases h16
        exact ⟨_,rfl,(Gh.y0 [0,1,2])⟩
   ·intro y hC
    subst hC
    cases hb:y4
    ·have h17:=A4 h6 hb;refine RW.cond_f rfl (RW.skip (RW.reg (rl.f 3 rfl ?_)));cases h17
     exact hB1 _ rfl _ _ (Gh.y0 [0,1])
    ·have h18:=A3 h6 hb;refine RW.cond_t rfl (RW.sf 2 rfl (RW.reg (rl.f 1 rfl (RW.reg (rl.f 3 rfl ?_)))));cases h18
     exact hB1 _ rfl _ _ (Gh.y0 [0,1])
 ·intro y2 hC
  subst hC;refine RW.sf 4 rfl (RW.ret ?_);cases h2
  exact RRet.y
theorem U4 {x0:List TItem} {x1:Int} {x2:Int} {x3:Int} {r:Bool} (hF:H5 x0 x1 x2 x3=some r):A8 Try.prog 130 [A5 x0,.j x1,.j x2,.j x3] (.bool r):=by
 refine A8.q Pg ?_;unfold H5 at hF;refine RW.sf 1 rfl (RW.sr 4 rfl ?_);obtain ⟨v1,e1,h1⟩:=A2 hF;refine rl.call rfl rfl rfl (A6.y (r':=.tup [.agg (A1 false v1.1),.bool v1.2]) (F7 e1) ?_);refine rl.f 6 rfl ?_;refine RW.ka [10] [(10,.bool v1.2)] rfl ?_;refine RW.sf 2 rfl (RW.ret ?_);cases h1
 exact RRet.y
theorem Aj {x0:List TItem} {x1:Int} {r:Bool} (hF:J4 x0 x1=some r):A8 Try.prog 129 [A5 x0,.j x1] (.bool r):=by
 refine A8.q Kd ?_;unfold J4 at hF;refine RW.sf 1 rfl (RW.sr 2 rfl ?_);obtain ⟨v1,e1,h1⟩:=A2 hF;refine rl.call rfl rfl rfl (A6.y (r':=.bool v1) (U4 e1) ?_)
 cases hb:v1
 ·have h2:=A4 h1 hb;refine rl.f 7 rfl ?_;refine RW.ka [4] [(4,.bool false)] rfl ?_;refine RW.ret ?_;cases h2
  exact RRet.y
 ·have h3:=A3 h1 hb;refine rl.run 3 rfl ?_;obtain ⟨v2,e2,h4⟩:=A2 h3;refine rl.call rfl rfl rfl (A6.y (r':=.bool v2) (U4 e2) ?_);refine rl.f 3 rfl ?_;refine RW.ka [4] [(4,.bool (!v2))] rfl ?_;refine RW.ret ?_;cases h4
  exact RRet.y
set_option maxHeartbeats 2000000 in
theorem Ck {x0:List TItem} {x1:Int} {r:Bool} (hF:P4 x0 x1=some r):A8 Try.prog 90 [A5 x0,.j x1] (.bool r):=by
 refine A8.q Mb ?_;unfold P4 at hF;refine RW.sf 1 rfl (RW.sr 2 rfl ?_);obtain ⟨v1,e1,h1⟩:=A2 hF;refine rl.op (B4 (enc:=A1) (o:=false) rfl rfl rfl e1) ?_;refine rl.op (C5 (off':=0) (vs:=(A1 false v1)) B3 rfl e1 rfl rfl rfl) ?_;refine rl.f 2 rfl (RW.sf 4 rfl (RW.seq (RW.sf 1 rfl ?_)));obtain ⟨y5,ey5,h3⟩:=A2 h1
 refine RW.cutq (σ:=Unit) (fun y3=>[(0,A5 x0),(5,.ptr 0 0),(6,.ptr 1 0)]) (fun y3=>[some ⟨A1 false v1,0⟩,some ⟨A7 false v1.Rec,0⟩]) (fun y=>y5=.inr y) gg ?_ ?_
 ·refine RW.blk ?_
  refine RW.iter (σ:=Int) ey5 (fun s2=>[(0,A5 x0),(1,.j x1),(5,.ptr 0 0),(6,.ptr 1 0),(7,.j s2)]) (fun s2=>[some ⟨A1 false v1,0⟩,some ⟨A7 false v1.Rec,0⟩]) (Gh.y0 [0,1]) (fun s2 B o hS2 hB2 hE2=>?_)
  unfold P1 at hS2;refine RW.seq (RW.sr 2 rfl ?_)
  refine rl.gen rfl rfl fun b hb=>?_
  cases b
  ·have h4:=A4 hS2 hb;refine rl.done (RW.cond_f rfl (RW.exit (B7 ?_)));cases h4
   exact ⟨_,(hE2 _ rfl).symm,(Gh.y0 [0,1])⟩
  ·have h5:=A3 hS2 hb;refine rl.done (RW.cond_t rfl (RW.skip (RW.seq (RW.blk (RW.sdrw (A0.op rfl rfl (A0.op rfl rfl ?_)))))));obtain ⟨v4,e4,h6⟩:=A2 h5;refine A0.op rfl (B4 (enc:=A1) (o:=false) rfl rfl rfl e4) ?_;refine A0.op rfl rfl ?_;refine A0.op rfl (G3 (off':=0) B3 rfl e4 rfl rfl rfl) ?_;refine A0.op rfl rfl (A0.op rfl rfl ?_)
   refine A0.gen rfl rfl fun b hb=>?_
   cases b
   ·have h7:=A4 h6 hb;refine A0.done (RW.cond_f rfl (RW.skip (RW.reg (rl.f 3 rfl ?_))));cases h7
    exact hB2 _ rfl _ _ (Gh.y0 [0,1])
   ·have h8:=A3 h6 hb;refine A0.done (RW.cond_t rfl (RW.sf 1 rfl ?_));refine RW.ka [4] [(4,.bool false)] rfl ?_;refine RW.ret ?_;cases h8;have h9:=elimL h3 (hE2 _ rfl);cases h9
    exact RRet.y
 ·intro y3 hC
  have h3:=elimR h3 hC;refine RW.seq (RW.sf 2 rfl (RW.blk (RW.sreg ?_)))
  refine rl.gen rfl rfl fun b hb=>?_
  cases b
  ·have h10:=A4 h3 hb;refine rl.f 1 rfl (RW.cond_f rfl (RW.sreg ?_))
   refine rl.gen rfl rfl fun b hb=>?_
   cases b
   ·have h11:=A4 h10 hb;refine rl.f 1 rfl (RW.cond_f rfl (RW.sreg ?_))
    refine rl.gen rfl rfl fun b hb=>?_
    cases b
    ·have h12:=A4 h11 hb;refine rl.f 1 rfl (RW.cond_f rfl (RW.skip (RW.sr 7 rfl ?_)));obtain ⟨v6,e6,h13⟩:=A2 h12;refine rl.call rfl rfl rfl (A6.y (r':=.tup [.agg (A1 false v6.1),.bool v6.2]) (F7 e6) ?_);refine rl.f 6 rfl ?_;refine RW.ka [0,5,6,14] [(0,A5 x0),(5,.ptr 0 0),(6,.ptr 1 0),(14,.ptr 2 0)] rfl ?_;refine RW.seq ?_;obtain ⟨y7,ey7,h14⟩:=A2 h13
     refine RW.cutq (σ:=Bool) (fun y7=>[(4,.bool y7)]) (fun y7=>[]) (fun y=>y7=y) gg ?_ ?_
     ·refine RW.reg ?_;refine rl.run 3 rfl ?_;obtain ⟨v8,e8,h15⟩:=A2 ey7;refine rl.call rfl rfl rfl (A6.y (r':=.bool v8) (Aj e8) ?_)
      cases hb:v8
      ·have h16:=A4 h15 hb;refine rl.f 25 rfl ?_;cases h16
       exact ⟨_,rfl,(Gh.y0 [])⟩
      ·have h17:=A3 h15 hb;refine rl.run 6 rfl ?_;obtain ⟨v9,e9,h18⟩:=A2 h17;refine rl.call rfl rfl rfl (A6.y (r':=.bool v9) (U4 e9) ?_)
       cases hb:v9
       ·have h19:=A4 h18 hb;refine rl.f 18 rfl ?_;cases h19
        exact ⟨_,rfl,(Gh.y0 [])⟩
       ·have h20:=A3 h18 hb;refine rl.run 7 rfl ?_;obtain ⟨v10,e10,h21⟩:=A2 h20;refine rl.call rfl rfl rfl (A6.y (r':=.bool v10) (U4 e10) ?_)
        cases hb:v10
        ·have h22:=A4 h21 hb;refine rl.f 10 rfl ?_;cases h22
         exact ⟨_,rfl,(Gh.y0 [])⟩
        ·have h23:=A3 h21 hb;refine rl.f 10 rfl ?_;cases h23
         exact ⟨_,rfl,(Gh.y0 [])⟩
     ·intro y hC
      subst hC;refine RW.ret ?_;cases h14
      exact RRet.y
    ·have h24:=A3 h11 hb;refine rl.f 1 rfl (RW.cond_t rfl (RW.sr 5 rfl ?_));obtain ⟨v11,e11,h25⟩:=A2 h24;refine rl.call rfl rfl rfl (A6.y (r':=.tup [.agg (A1 false v11.1),.bool v11.2]) (F7 e11) ?_);refine rl.f 6 rfl ?_;refine RW.ka [0,5,6,12] [(0,A5 x0),(5,.ptr 0 0),(6,.ptr 1 0),(12,.ptr 2 0)] rfl ?_;refine RW.seq ?_;obtain ⟨y12,ey12,h26⟩:=A2 h25
     refine RW.cutq (σ:=Bool) (fun y12=>[(4,.bool y12)]) (fun y12=>[]) (fun y=>y12=y) gg ?_ ?_
     ·refine RW.reg ?_;refine rl.run 3 rfl ?_;obtain ⟨v13,e13,h27⟩:=A2 ey12;refine rl.call rfl rfl rfl (A6.y (r':=.bool v13) (Aj e13) ?_)
      cases hb:v13
      ·have h28:=A4 h27 hb;refine rl.f 16 rfl ?_;cases h28
       exact ⟨_,rfl,(Gh.y0 [])⟩
      ·have h29:=A3 h27 hb;refine rl.run 6 rfl ?_;obtain ⟨v14,e14,h30⟩:=A2 h29;refine rl.call rfl rfl rfl (A6.y (r':=.bool v14) (U4 e14) ?_)
       cases hb:v14
       ·have h31:=A4 h30 hb;refine rl.f 9 rfl ?_;cases h31
        exact ⟨_,rfl,(Gh.y0 [])⟩
       ·have h32:=A3 h30 hb;refine rl.f 9 rfl ?_;cases h32
        exact ⟨_,rfl,(Gh.y0 [])⟩
     ·intro y hC
      subst hC;refine RW.ret ?_;cases h26
      exact RRet.y
   ·have h33:=A3 h10 hb;refine rl.f 1 rfl (RW.cond_t rfl (RW.sr 3 rfl ?_));obtain ⟨v15,e15,h34⟩:=A2 h33;refine rl.call rfl rfl rfl (A6.y (r':=.tup [.agg (A1 false v15.1),.bool v15.2]) (F7 e15) ?_);refine rl.f 6 rfl ?_;refine RW.ka [0,5,6,9] [(0,A5 x0),(5,.ptr 0 0),(6,.ptr 1 0),(9,.ptr 2 0)] rfl ?_;refine RW.seq (RW.sf 1 rfl ?_);obtain ⟨y21,ey21,h36⟩:=A2 h34
    refine RW.cutq (σ:=Unit) (fun y17=>[]) (fun y17=>[]) (fun y=>y21=.inr y) gg ?_ ?_
    ·refine RW.blk ?_
     refine RW.iter (σ:=Int) ey21 (fun s16=>[(0,A5 x0),(5,.ptr 0 0),(6,.ptr 1 0),(9,.ptr 2 0),(11,.j s16)]) (fun s16=>[some ⟨A1 false v1,0⟩,some ⟨A7 false v1.Rec,0⟩,some ⟨A1 false v15.1,0⟩]) (Gh.y0 [0,1,2]) (fun s16 B o hS35 hB35 hE35=>?_)
     unfold Q6 at hS35;refine RW.seq (RW.sr 3 rfl ?_)
     refine rl.gen rfl rfl fun b hb=>?_
     cases b
     ·have h37:=A4 hS35 hb;refine rl.done (RW.cond_f rfl (RW.exit (B7 ?_)));cases h37
      exact ⟨_,(hE35 _ rfl).symm,(Gh.y0 [])⟩
     ·have h38:=A3 hS35 hb;refine rl.done (RW.cond_t rfl (RW.skip (RW.seq (RW.blk (RW.seq ?_)))));obtain ⟨y18,ey18,h39⟩:=A2 h38
      refine RW.cutq (σ:=Bool) (fun y18=>[(0,A5 x0),(5,.ptr 0 0),(6,.ptr 1 0),(9,.ptr 2 0),(11,.j s16),(107,.bool y18)]) (fun y18=>[some ⟨A1 false v1,0⟩,some ⟨A7 false v1.Rec,0⟩,some ⟨A1 false v15.1,0⟩]) (fun y=>y18=y) gg ?_ ?_
      ·refine RW.drw ?_;refine A0.op rfl rfl (A0.op rfl rfl ?_);obtain ⟨v19,e19,h40⟩:=A2 ey18;refine A0.op rfl (B4 (enc:=A1) (o:=false) rfl rfl rfl e19) ?_;refine A0.op rfl rfl (A0.op rfl rfl ?_);refine A0.op rfl (G3 (off':=1) B3 rfl e19 rfl rfl rfl) ?_
       refine A0.gen rfl rfl fun b hb=>?_
       cases b
       ·have h41:=A4 h40 hb;refine A0.op rfl rfl (A0.off rfl (A0.off rfl (A0.off rfl (A0.off rfl (A0.off rfl (A0.off rfl (A0.off rfl (A0.off rfl (A0.off rfl (A0.op rfl rfl (A0.done ?_)))))))))));cases h41
        exact ⟨_,rfl,(Gh.y0 [0,1,2])⟩
       ·have h42:=A3 h40 hb;refine A0.op rfl rfl (A0.op rfl rfl (A0.op rfl rfl ?_));obtain ⟨v20,e20,h43⟩:=A2 h42;refine A0.op rfl (B4 (enc:=A1) (o:=false) rfl rfl rfl e20) ?_;refine A0.op rfl rfl (A0.op rfl rfl ?_);refine A0.op rfl (G3 (off':=2) B3 rfl e20 rfl rfl rfl) ?_;refine A0.op rfl rfl (A0.op rfl rfl ?_)
        refine A0.gen rfl rfl fun b hb=>?_
        cases b
        ·have h44:=A4 h43 hb;refine A0.op rfl rfl (A0.done ?_);cases h44
         exact ⟨_,rfl,(Gh.y0 [0,1,2])⟩
        ·have h45:=A3 h43 hb;refine A0.op rfl rfl (A0.done ?_);cases h45
         exact ⟨_,rfl,(Gh.y0 [0,1,2])⟩
      ·intro y hC
       subst hC
       cases hb:y18
       ·have h46:=A4 h39 hb;refine RW.cond_f rfl (RW.skip (RW.reg (rl.f 3 rfl ?_)));cases h46
        exact hB35 _ rfl _ _ (Gh.y0 [0,1,2])
       ·have h47:=A3 h39 hb;refine RW.cond_t rfl (RW.sf 6 rfl ?_);refine RW.ka [4] [(4,.bool (v15.1.Seq==v1.Seq))] rfl ?_;refine RW.ret ?_;cases h47;have h48:=elimL h36 (hE35 _ rfl);cases h48
        exact RRet.y
    ·intro y17 hC
     have h36:=elimR h36 hC;refine RW.sf 1 rfl (RW.ret ?_);cases h36
     exact RRet.y
  ·have h49:=A3 h3 hb;refine rl.f 1 rfl (RW.cond_t rfl (RW.seq (RW.sf 1 rfl ?_)));obtain ⟨y29,ey29,h51⟩:=A2 h49
   refine RW.cutq (σ:=Unit) (fun y23=>[(0,A5 x0),(6,.ptr 0 0)]) (fun y23=>[some ⟨A7 false v1.Rec,0⟩]) (fun y=>y29=.inr y) gg ?_ ?_
   ·refine RW.blk ?_
    refine RW.iter (σ:=Int) ey29 (fun s22=>[(0,A5 x0),(5,.ptr 0 0),(6,.ptr 1 0),(8,.j s22)]) (fun s22=>[some ⟨A1 false v1,0⟩,some ⟨A7 false v1.Rec,0⟩]) (Gh.y0 [0,1]) (fun s22 B o hS50 hB50 hE50=>?_)
    unfold Q4 at hS50;refine RW.seq (RW.sr 3 rfl ?_)
    refine rl.gen rfl rfl fun b hb=>?_
    cases b
    ·have h52:=A4 hS50 hb;refine rl.done (RW.cond_f rfl (RW.exit (B7 ?_)));cases h52
     exact ⟨_,(hE50 _ rfl).symm,(Gh.y0 [1])⟩
    ·have h53:=A3 hS50 hb;refine rl.done (RW.cond_t rfl (RW.skip (RW.seq (RW.blk (RW.seq ?_)))));obtain ⟨y24,ey24,h54⟩:=A2 h53
     refine RW.cutq (σ:=Bool) (fun y24=>[(0,A5 x0),(5,.ptr 0 0),(6,.ptr 1 0),(8,.j s22),(70,.bool y24)]) (fun y24=>[some ⟨A1 false v1,0⟩,some ⟨A7 false v1.Rec,0⟩]) (fun y=>y24=y) gg ?_ ?_
     ·refine RW.drw ?_;refine A0.op rfl rfl (A0.op rfl rfl ?_);obtain ⟨v25,e25,h55⟩:=A2 ey24;refine A0.op rfl (B4 (enc:=A1) (o:=false) rfl rfl rfl e25) ?_;refine A0.op rfl rfl (A0.op rfl rfl ?_);refine A0.op rfl (G3 (off':=1) B3 rfl e25 rfl rfl rfl) ?_
      refine A0.gen rfl rfl fun b hb=>?_
      cases b
      ·have h56:=A4 h55 hb;refine A0.op rfl rfl (A0.off rfl (A0.off rfl (A0.off rfl (A0.off rfl (A0.off rfl (A0.off rfl (A0.off rfl (A0.off rfl (A0.off rfl (A0.op rfl rfl (A0.op rfl rfl ?_)))))))))));refine A0.off rfl (A0.off rfl (A0.off rfl (A0.off rfl (A0.off rfl (A0.off rfl (A0.op rfl rfl (A0.done ?_)))))));cases h56
       exact ⟨_,rfl,(Gh.y0 [0,1])⟩
      ·have h57:=A3 h55 hb;refine A0.op rfl rfl (A0.op rfl rfl (A0.op rfl rfl ?_));obtain ⟨v26,e26,h58⟩:=A2 h57;refine A0.op rfl (B4 (enc:=A1) (o:=false) rfl rfl rfl e26) ?_;refine A0.op rfl rfl (A0.op rfl rfl ?_);refine A0.op rfl (G3 (off':=2) B3 rfl e26 rfl rfl rfl) ?_;refine A0.op rfl rfl (A0.op rfl rfl ?_)
       refine A0.gen rfl rfl fun b hb=>?_
       cases b
       ·have h59:=A4 h58 hb;refine A0.op rfl rfl (A0.op rfl rfl (A0.off rfl (A0.off rfl (A0.off rfl (A0.off rfl (A0.off rfl (A0.off rfl (A0.op rfl rfl (A0.done ?_)))))))));cases h59
        exact ⟨_,rfl,(Gh.y0 [0,1])⟩
       ·have h60:=A3 h58 hb;refine A0.op rfl rfl (A0.op rfl rfl (A0.op rfl rfl (A0.op rfl rfl ?_)));obtain ⟨v27,e27,h61⟩:=A2 h60;refine A0.op rfl (B4 (enc:=A1) (o:=false) rfl rfl rfl e27) ?_;refine A0.op rfl (C5 (off':=0) (vs:=(A1 false v27)) B3 rfl e27 rfl rfl rfl) ?_;refine A0.op rfl rfl ?_;obtain ⟨v28,e28,h62⟩:=A2 h61;refine A0.call rfl rfl rfl (A6.y (r':=.bool v28) (Fn e28) ⟨rfl,?_⟩)
        cases hb:v28
        ·have h63:=A4 h62 hb;refine A0.op rfl rfl (A0.done ?_);cases h63
         exact ⟨_,rfl,(Gh.y0 [0,1])⟩
        ·have h64:=A3 h62 hb;refine A0.op rfl rfl (A0.done ?_);cases h64
         exact ⟨_,rfl,(Gh.y0 [0,1])⟩
     ·intro y hC
      subst hC
      cases hb:y24
      ·have h65:=A4 h54 hb;refine RW.cond_f rfl (RW.skip (RW.reg (rl.f 3 rfl ?_)));cases h65
       exact hB50 _ rfl _ _ (Gh.y0 [0,1])
      ·have h66:=A3 h54 hb;refine RW.cond_t rfl (RW.sf 1 rfl (RW.ret ?_));cases h66;have h67:=elimL h51 (hE50 _ rfl);cases h67
       exact RRet.y
   ·intro y23 hC
    have h51:=elimR h51 hC;refine RW.sr 3 rfl ?_;obtain ⟨v30,e30,h68⟩:=A2 h51;refine rl.call rfl rfl rfl (A6.y (r':=.bool v30) (Aj e30) ?_);refine rl.f 1 rfl (RW.ret ?_);cases h68
    exact RRet.y
theorem Fi {x0:List TItem} {r:List Bool} (hF:R5 x0=some r):A8 Try.prog 40 [A5 x0] (.lst true 1 (fl (encO true) r) r.length):=by
 refine A8.q Ht ?_;unfold R5 at hF;refine RW.sf 1 rfl (RW.sr 1 rfl ?_);obtain ⟨v1,e1,h1⟩:=A2 hF;refine rl.call rfl rfl rfl (A6.y (r':=.bool v1) (Am e1) ?_)
 cases hb:v1
 ·have h2:=A4 h1 hb;refine rl.f 1 rfl (RW.sf 2 rfl (RW.seq (RW.sf 1 rfl ?_)));refine RW.gh (Gh.nil_t 4 1 rfl) ?_;obtain ⟨y5,ey5,h4⟩:=A2 h2
  refine RW.cutq (σ:=(List Bool)) (fun y3=>[(4,.sl 0 0 y3.length)]) (fun y3=>[some ⟨fl (encO true) y3,1⟩]) (fun y=>y5=y) gg ?_ ?_
  ·refine RW.blk ?_
   refine RW.iter (σ:=Int×(List Bool)) ey5 (fun s2=>[(0,A5 x0),(3,.bool false),(4,.sl 0 0 s2.2.length),(5,.j s2.1)]) (fun s2=>[some ⟨fl (encO true) s2.2,1⟩]) (Gh.y0 [0]) (fun s2 B o hS3 hB3 hE3=>?_)
   unfold T7 at hS3;refine RW.seq (RW.sr 3 rfl ?_)
   refine rl.gen rfl rfl fun b hb=>?_
   cases b
   ·have h5:=A4 hS3 hb;refine rl.done (RW.cond_f rfl (RW.exit (B7 ?_)));cases h5
    exact ⟨_,(hE3 _ rfl).symm,(Gh.y0 [0])⟩
   ·have h6:=A3 hS3 hb;refine rl.done (RW.cond_t rfl (RW.skip (RW.seq (RW.blk (RW.reg (rl.run 8 rfl ?_))))));obtain ⟨v4,e4,h7⟩:=A2 h6;refine rl.op (R8 rfl rfl (G0 (l:=s2.2) (m:=[false]) (o:=true) ekO rfl rfl (D2 (m:=[false]) (o:=true) fkO rfl rfl) rfl (fkO.fst _ _) e4)) ?_;refine rl.f 1 rfl (RW.reg (rl.f 3 rfl ?_));cases h7
    exact hB3 _ rfl _ _ (Gh.y0 [2])
  ·intro y3 hC
   subst hC;refine RW.sf 2 rfl (RW.ret ?_);cases h4
   exact RRet.y
 ·have h8:=A3 h1 hb;refine rl.f 1 rfl (RW.sf 2 rfl (RW.seq (RW.sf 1 rfl ?_)));refine RW.gh (Gh.nil_t 4 1 rfl) ?_;obtain ⟨y10,ey10,h10⟩:=A2 h8
  refine RW.cutq (σ:=(List Bool)) (fun y7=>[(4,.sl 0 0 y7.length)]) (fun y7=>[some ⟨fl (encO true) y7,1⟩]) (fun y=>y10=y) gg ?_ ?_
  ·refine RW.blk ?_
   refine RW.iter (σ:=Int×(List Bool)) ey10 (fun s6=>[(0,A5 x0),(3,.bool true),(4,.sl 0 0 s6.2.length),(5,.j s6.1)]) (fun s6=>[some ⟨fl (encO true) s6.2,1⟩]) (Gh.y0 [0]) (fun s6 B o hS9 hB9 hE9=>?_)
   unfold T9 at hS9;refine RW.seq (RW.sr 3 rfl ?_)
   refine rl.gen rfl rfl fun b hb=>?_
   cases b
   ·have h11:=A4 hS9 hb;refine rl.done (RW.cond_f rfl (RW.exit (B7 ?_)));cases h11
    exact ⟨_,(hE9 _ rfl).symm,(Gh.y0 [0])⟩
   ·have h12:=A3 hS9 hb;refine rl.done (RW.cond_t rfl (RW.skip (RW.seq (RW.blk (RW.reg (rl.run 5 rfl ?_))))));obtain ⟨v8,e8,h13⟩:=A2 h12;refine rl.call rfl rfl rfl (A6.y (r':=.bool v8) (Ck e8) ?_);refine rl.run 2 rfl ?_;obtain ⟨v9,e9,h14⟩:=A2 h13;refine rl.op (R8 rfl rfl (G0 (l:=s6.2) (m:=[v8]) (o:=true) ekO rfl rfl (D2 (m:=[v8]) (o:=true) fkO rfl rfl) rfl (fkO.fst _ _) e9)) ?_;refine rl.f 1 rfl (RW.reg (rl.f 3 rfl ?_));cases h14
    exact hB9 _ rfl _ _ (Gh.y0 [2])
  ·intro y7 hC
   subst hC;refine RW.sf 2 rfl (RW.ret ?_);cases h10
   exact RRet.y
theorem Kj {x0:List TItem} {x1:Int} {r:Bool} (hF:Y3 x0 x1=some r):A8 Try.prog 41 [A5 x0,.j x1] (.bool r):=by
 refine A8.q Pj ?_;unfold Y3 at hF;refine RW.sf 1 rfl (RW.seq ?_);obtain ⟨y1,ey1,h1⟩:=A2 hF
 refine RW.cutq (σ:=Bool) (fun y1=>[(4,.bool y1)]) (fun y1=>[]) (fun y=>y1=y) gg ?_ ?_
 ·refine RW.reg ?_;refine rl.run 1 rfl ?_;obtain ⟨v2,e2,h2⟩:=A2 ey1;refine rl.call rfl rfl rfl (A6.y (r':=.bool v2) (Am e2) ?_)
  cases hb:v2
  ·have h3:=A4 h2 hb;refine rl.f 13 rfl ?_;cases h3
   exact ⟨_,rfl,(Gh.y0 [])⟩
  ·have h4:=A3 h2 hb;refine rl.run 5 rfl ?_;obtain ⟨v3,e3,h5⟩:=A2 h4;refine rl.call rfl rfl rfl (A6.y (r':=.bool v3) (F4 e3) ?_)
   cases hb:v3
   ·have h6:=A4 h5 hb;refine rl.f 7 rfl ?_;cases h6
    exact ⟨_,rfl,(Gh.y0 [])⟩
   ·have h7:=A3 h5 hb;refine rl.run 4 rfl ?_;obtain ⟨v4,e4,h8⟩:=A2 h7;refine rl.call rfl rfl rfl (A6.y (r':=.bool v4) (Ck e4) ?_);refine rl.f 2 rfl ?_;cases h8
    exact ⟨_,rfl,(Gh.y0 [])⟩
 ·intro y hC
  subst hC;refine RW.ret ?_;cases h1
  exact RRet.y
theorem Fy {x0:List TRec} {x1:List TRec} {r:Bool} (hF:U0 x0 x1=some r):A8 Try.prog 42 [Cb x0,Cb x1] (.bool r):=by
 refine A8.q Kc ?_;unfold U0 at hF;refine RW.sf 1 rfl (RW.seq (RW.sr 4 rfl ?_))
 refine rl.gen rfl rfl fun b hb=>?_
 cases b
 ·have h1:=A4 hF hb;refine rl.done (RW.cond_f rfl (RW.skip (RW.seq (RW.sf 1 rfl ?_))));obtain ⟨y5,ey5,h3⟩:=A2 h1
  refine RW.cutq (σ:=Unit) (fun y2=>[]) (fun y2=>[]) (fun y=>y5=.inr y) gg ?_ ?_
  ·refine RW.blk ?_
   refine RW.iter (σ:=Int) ey5 (fun s1=>[(0,Cb x0),(1,Cb x1),(5,.j s1)]) (fun s1=>[]) (Gh.y0 []) (fun s1 B o hS2 hB2 hE2=>?_)
   unfold V3 at hS2;refine RW.seq (RW.sr 3 rfl ?_)
   refine rl.gen rfl rfl fun b hb=>?_
   cases b
   ·have h4:=A4 hS2 hb;refine rl.done (RW.cond_f rfl (RW.exit (B7 ?_)));cases h4
    exact ⟨_,(hE2 _ rfl).symm,(Gh.y0 [])⟩
   ·have h5:=A3 hS2 hb;refine rl.done (RW.cond_t rfl (RW.skip (RW.seq (RW.blk (RW.sdrw (A0.op rfl rfl (A0.op rfl rfl ?_)))))));obtain ⟨v3,e3,h6⟩:=A2 h5;refine A0.op rfl (B4 (enc:=A7) (o:=false) rfl rfl rfl e3) ?_;refine A0.op rfl (C5 (off':=0) (vs:=(A7 false v3)) Gp rfl e3 rfl rfl rfl) ?_;refine A0.op rfl rfl (A0.op rfl rfl ?_);obtain ⟨v4,e4,h7⟩:=A2 h6;refine A0.op rfl (B4 (enc:=A7) (o:=false) rfl rfl rfl e4) ?_;refine A0.op rfl (C5 (off':=0) (vs:=(A7 false v4)) Gp rfl e4 rfl rfl rfl) ?_
    refine A0.gen rfl rfl fun b hb=>?_
    cases b
    ·have h8:=A4 h7 hb;refine A0.done ?_;refine RW.ka [0,1,5,25] [(0,Cb x0),(1,Cb x1),(5,.j s1),(25,.bool false)] rfl ?_;refine RW.cond_f rfl (RW.skip (RW.reg (rl.f 3 rfl ?_)));cases h8
     exact hB2 _ rfl _ _ (Gh.y0 [])
    ·have h9:=A3 h7 hb;refine A0.done ?_;refine RW.ka [0,1,5,25] [(0,Cb x0),(1,Cb x1),(5,.j s1),(25,.bool true)] rfl ?_;refine RW.cond_t rfl (RW.sf 1 rfl (RW.ret ?_));cases h9;have h10:=elimL h3 (hE2 _ rfl);cases h10
     exact RRet.y
  ·intro y2 hC
   have h3:=elimR h3 hC;refine RW.sf 1 rfl (RW.ret ?_);cases h3
   exact RRet.y
 ·have h11:=A3 hF hb;refine rl.done (RW.cond_t rfl (RW.sf 1 rfl (RW.ret ?_)));cases h11
  exact RRet.y
theorem Fd {x0:TRec} {r:Int×Bool} (hF:X2 x0=some r):A8 Try.prog 132 [.agg (A7 false x0)] (.tup [.j r.1,.bool r.2]):=by
 refine A8.q Ji ?_;unfold X2 at hF;refine RW.sf 3 rfl (RW.sdrw (A0.op rfl rfl (A0.op rfl rfl (A0.op rfl rfl (A0.op rfl rfl (A0.op rfl rfl (A0.op rfl rfl (A0.op rfl rfl (A0.done ?_)))))))));refine RW.ret ?_;cases hF
 exact RRet.y
end Go.Proofs.Ytldndhdohlfpgaa.V
