/- What a call comes to. -/
import Derived.Test.YtldndhdohlfpgaaGreatXT
import Derived.Test.YtldndhdohlfpgaaGreatXU
namespace Go.Proofs.YtldndhdohlfpgaaGreat.V
open Go Go.Proofs Go.RowKit
set_option maxRecDepth 100000
abbrev C3 (n0 n1:Nat) (x:TDisk):List AV:=[.sl n0 0 x.Sectors.length,.sl n1 0 x.Cache.length]
abbrev B6 (n0 n1 n3:Nat) (x:TLog):List AV:=[.sl n0 0 x.Disk.Sectors.length,.sl n1 0 x.Disk.Cache.length,.j x.Segs,.sl n3 0 x.Used.length,.j x.NextGen,.j x.NextSeq,.j x.Stamp,.j x.NextValid]
abbrev H4 (n3:Nat) (x:TSeg):List AV:=[.j x.No,.j x.Gen,.j x.End,.sl n3 0 x.Items.length]
theorem SubL.i {ns:List Nat} {a:Asg} {x:Nat} {r:Asg} {k:IntKind} {n:Int} (h:get a x=some (.int k n)) (t:SubL ns a r):SubL ns a ((x,.int k n)::r):=.cons h (.dat .int) t
theorem SubL.p {ns:List Nat} {a:Asg} {x:Nat} {r:Asg} {b c o:Nat} (h:get a x=some (.ptr b o)) (g:ns[c]?=some b) (t:SubL ns a r):SubL ns a ((x,.ptr c o)::r):=.cons h (.ptr g) t
theorem OutL.i {H:AH} {k:IntKind} {n:Int} {vs rs:List AV} {d:List Nat} (t:OutL H vs rs d):OutL H (.int k n::vs) (.int k n::rs) d:=.cons .int rfl t
theorem rl.f {P:Program} {nw:Nat} {l:List RO} {a a':Asg} {H H':AH} {K:Asg→AH→Prop} (n:Nat) (h:rrun nw n l a H=some ([],a',H')) (k:K a' H'):rl P nw l K a H:=rl.run n h (rl.done k)
theorem RW.sf {P:Program} {N nw:Nat} {H0:AH} {l:List RO} {a a':Asg} {H H':AH} {y:RC} {Q:Go.Exit→Asg→AH→Prop} (n:Nat) (h:rrun nw n l a H=some ([],a',H')) (k:RW P N nw H0 y Q a' H'):RW P N nw H0 (.seq (.reg l) y) Q a H:=RW.sreg (rl.run n h (rl.done k))
theorem RRet.m {rr:List RR} {r v:AV} {ids:List Nat} {a:Asg} {H:AH} (hv:rares a H rr=some v) (ho:OutR H v r ids) (hn:ids.Nodup:=by first | decide | simp):RRet rr r .ret a H:=RRet.mk hv ho hn
theorem gg {P:Program} {N nw:Nat} {H0:AH} {rc:RC} {Q:Go.Exit→Asg→AH→Prop} (a:Asg) (H:AH) (a':Asg) (H':AH) (g:Gh nw N H0 a H a' H') (h:RW P N nw H0 rc Q a' H'):RW P N nw H0 rc Q a H:=RW.gh g h
theorem RW.sr {P:Program} {N nw:Nat} {H0:AH} {l l':List RO} {a a':Asg} {H H':AH} {y:RC} {Q:Go.Exit→Asg→AH→Prop} (n:Nat) (h:rrun nw n l a H=some (l',a',H')) (k:rl P nw l' (fun a H=>RW P N nw H0 y Q a H) a' H'):RW P N nw H0 (.seq (.reg l) y) Q a H:=RW.sreg (rl.run n h k)
theorem RnBs.c {ns:List Nat} {H:AH} {b:Nat} {bs:List Nat} {k k':ABlk} {H':AH} (hb:H[b]?=some (some k)) (he:k'.es=k.es) (h:RnC ns k.cells k'.cells) (t:RnBs ns H bs H'):RnBs ns H (b::bs) (some k'::H'):=.cells hb he h t
theorem RnC.i {ns:List Nat} {k:IntKind} {n:Int} {vs us:List AV} (t:RnC ns vs us):RnC ns (.int k n::vs) (.int k n::us):=.keep .int t
set_option maxHeartbeats 4000000
theorem Lg {x0:TSeg} {x1:Int} {r:Bool} (hF:T7 x0 x1=some r):C5 Tryz.prog 1 51 [.agg (A3 false x0),.ptr 0 0] [some ⟨[.j x1],0⟩] (.bool r) [some ⟨[.j x1],0⟩]:=by
 refine C5.q Rg ?_;unfold T7 at hF;refine RW.sf 2 rfl (RW.sf 5 rfl (RW.ret ?_));cases hF
 exact RRetS.m (Gh.rN [0])
theorem Eb {x0:List TSeg} {x1:Int} {r:Int} (hF:G3 x0 x1=some r):C5 Tryz.prog 1 117 [Gm x0,.fn 51 [.ptr 0 0]] [some ⟨[.j x1],0⟩] (.j r) [some ⟨[.j x1],0⟩]:=by
 refine C5.q Fi ?_;unfold G3 at hF;refine RW.sf 1 rfl (RW.seq (RW.sf 3 rfl ?_));obtain ⟨y5,ey5,h2⟩:=A2 hF
 refine RW.cutq (σ:=Unit) (fun y2=>[]) (fun y2=>[some ⟨[.j x1],0⟩]) (fun y=>y5=.inr y) gg ?_ ?_
 ·refine RW.blk ?_
  refine RW.iter (σ:=Int) ey5 (fun s1=>[(0,Gm x0),(1,.fn 51 [.ptr 0 0]),(7,.j (x0.length:Int)),(8,.j s1)]) (fun s1=>[some ⟨[.j x1],0⟩]) (Gh.rN [0]) (fun s1 B o hS1 hB1 hE1=>?_)
  unfold J5 at hS1;refine RW.sreg ?_
  refine rl.gen rfl rfl fun b hb=>?_
  cases b
  ·have h3:=A5 hS1 hb;refine rl.done (RW.seq (RW.cond_f rfl (RW.exit (C9 ?_))));cases h3
   exact ⟨_,(hE1 _ rfl).symm,(Gh.rN [0])⟩
  ·have h4:=A4 hS1 hb;refine rl.done (RW.seq (RW.cond_t rfl (RW.skip (RW.seq (RW.blk (RW.sf 2 rfl (RW.sr 3 rfl ?_)))))));obtain ⟨v3,e3,h5⟩:=A2 h4;refine rl.op (C1 (enc:=A3) (o:=false) rfl rfl rfl e3) ?_;refine rl.op (H6 (off':=0) (vs:=(A3 false v3)) B3 rfl e3 rfl rfl rfl) ?_;obtain ⟨v4,e4,h6⟩:=A2 h5;refine rl.call rfl rfl rfl (A7.eR [0] (Lg e4) ?_)
   cases hb:v4
   ·have h7:=A5 h6 hb;refine rl.done (RW.cond_f rfl (RW.skip (RW.reg (rl.f 2 rfl ?_))));cases h7
    exact hB1 _ rfl _ _ (Gh.rN [0])
   ·have h8:=A4 h6 hb;refine rl.done (RW.cond_t rfl (RW.sf 2 rfl ?_));refine RW.kp [4] [(4,.j s1)] [some ⟨[.j x1],0⟩] rfl rfl ?_;refine RW.ret ?_;cases h8;have h9:=elimL h2 (hE1 _ rfl);cases h9
    exact RRetS.m (Gh.rN [0])
 ·intro y2 hC
  have h2:=elimR h2 hC;refine RW.sf 1 rfl (RW.ret ?_);cases h2
  exact RRetS.m (Gh.rN [0])
theorem Cj {x0:List TSeg} {x1:Int} {r:Bool} (hF:F3 x0 x1=some r):C5 Tryz.prog 1 50 [Gm x0,.fn 51 [.ptr 0 0]] [some ⟨[.j x1],0⟩] (.bool r) [some ⟨[.j x1],0⟩]:=by
 refine C5.q Dl ?_;unfold F3 at hF;refine RW.sf 1 rfl (RW.sr 2 rfl ?_);obtain ⟨v1,e1,h1⟩:=A2 hF;refine rl.call rfl rfl rfl (A7.eR [0] (Eb e1) ?_);refine rl.f 2 rfl (RW.ret ?_);cases h1
 exact RRetS.m (Gh.rN [0])
theorem Jc {x0:TLog} {r:List Int} (hF:X2 x0=some r):B2 Tryz.prog 11 [.agg (A9 false x0)] (.lst true 1 (fl (encI true) r) r.length):=by
 refine B2.q Wx ?_;unfold X2 at hF;refine RW.sf 2 rfl (RW.sf 2 rfl (RW.seq (RW.sf 4 rfl ?_)));refine RW.gh (Gh.nil_t 3 1 rfl) ?_;obtain ⟨y5,ey5,h2⟩:=A2 hF
 refine RW.cutq (σ:=(List Int)) (fun y2=>[(3,.sl 0 0 y2.length)]) (fun y2=>[some ⟨fl (encI true) y2,1⟩]) (fun y=>y5=y) gg ?_ ?_
 ·refine RW.blk ?_
  refine RW.iter (σ:=Int×(List Int)) ey5 (fun s1=>[(1,.ptr 0 0),(3,.sl 1 0 s1.2.length),(8,.j (if 11<x0.Segs then 11 else x0.Segs)),(9,.j s1.1)]) (fun s1=>[some ⟨A9 false x0,0⟩,some ⟨fl (encI true) s1.2,1⟩]) (Gh.y0 [0,1]) (fun s1 B o hS1 hB1 hE1=>?_)
  unfold Ca at hS1;refine RW.sreg ?_
  refine rl.gen rfl rfl fun b hb=>?_
  cases b
  ·have h3:=A5 hS1 hb;refine rl.done (RW.seq (RW.cond_f rfl (RW.exit (C9 ?_))));cases h3
   exact ⟨_,(hE1 _ rfl).symm,(Gh.y0 [1])⟩
  ·have h4:=A4 hS1 hb;refine rl.done (RW.seq (RW.cond_t rfl (RW.skip (RW.seq (RW.blk (RW.sf 3 rfl (RW.sr 3 rfl ?_)))))));obtain ⟨v3,e3,h5⟩:=A2 h4;refine rl.call rfl rfl rfl (A7.eR [2] (Cj e3) ?_)
   cases hb:v3
   ·have h6:=A5 h5 hb;refine rl.f 1 rfl (RW.cond_t rfl (RW.reg (rl.run 3 rfl ?_)));obtain ⟨v4,e4,h7⟩:=A2 h6;refine rl.op (U2 rfl rfl (R6 (l:=s1.2) (m:=[s1.1]) (o:=true) ekI rfl rfl (M0 (m:=[s1.1]) (o:=true) fkI rfl rfl) rfl (fkI.fst _ _) e4)) ?_;refine rl.f 1 rfl (RW.reg (rl.f 2 rfl ?_));cases h7
    exact hB1 _ rfl _ _ (Gh.y0 [0,4])
   ·have h8:=A4 h5 hb;refine rl.f 1 rfl (RW.cond_f rfl (RW.skip (RW.reg (rl.f 2 rfl ?_))));cases h8
    exact hB1 _ rfl _ _ (Gh.y0 [0,1])
 ·intro y2 hC
  subst hC;refine RW.sf 2 rfl (RW.ret ?_);cases h2
  exact RRet.y
theorem Fm {x0:TLog} {r:List TItem} (hF:V2 x0=some r):B2 Tryz.prog 16 [.agg (A9 false x0)] (.lst true 9 (fl (A8 true) r) r.length):=by
 refine B2.q A0k ?_;unfold V2 at hF;refine RW.sf 2 rfl (RW.sf 2 rfl (RW.seq (RW.sf 4 rfl ?_)));refine RW.gh (Gh.nil_t 3 9 rfl) ?_;obtain ⟨y5,ey5,h2⟩:=A2 hF
 refine RW.cutq (σ:=(List TItem)) (fun y2=>[(3,.sl 0 0 y2.length)]) (fun y2=>[some ⟨fl (A8 true) y2,9⟩]) (fun y=>y5=y) gg ?_ ?_
 ·refine RW.blk ?_
  refine RW.iter (σ:=Int×(List TItem)) ey5 (fun s1=>[(3,.sl 0 0 s1.2.length),(8,Gm x0.Used),(9,.j (x0.Used.length:Int)),(10,.j s1.1)]) (fun s1=>[some ⟨fl (A8 true) s1.2,9⟩]) (Gh.y0 [1]) (fun s1 B o hS1 hB1 hE1=>?_)
  unfold Dh at hS1;refine RW.sreg ?_
  refine rl.gen rfl rfl fun b hb=>?_
  cases b
  ·have h3:=A5 hS1 hb;refine rl.done (RW.seq (RW.cond_f rfl (RW.exit (C9 ?_))));cases h3
   exact ⟨_,(hE1 _ rfl).symm,(Gh.y0 [0])⟩
  ·have h4:=A4 hS1 hb;refine rl.done (RW.seq (RW.cond_t rfl (RW.skip (RW.seq (RW.blk (RW.sreg ?_))))));obtain ⟨v3,e3,h5⟩:=A2 h4;refine rl.op (C1 (enc:=A3) (o:=false) rfl rfl rfl e3) ?_;refine rl.op (H6 (off':=0) (vs:=(A3 false v3)) B3 rfl e3 rfl rfl rfl) ?_;refine rl.f 2 rfl (RW.reg (rl.run 3 rfl ?_));obtain ⟨v4,e4,h6⟩:=A2 h5;refine rl.op (U2 rfl rfl (R6 (l:=s1.2) (m:=v3.Items) (o:=true) C2 rfl rfl Bq rfl (M9.fst _ _) e4)) ?_;refine rl.f 1 rfl (RW.reg (rl.f 2 rfl ?_));cases h6
   exact hB1 _ rfl _ _ (Gh.y0 [2])
 ·intro y2 hC
  subst hC;refine RW.sf 2 rfl (RW.ret ?_);cases h2
  exact RRet.y
theorem Qp {x0:TSeg} {x1:TSeg} {r:Bool} (hF:Ay x0 x1=some r):C5 Tryz.prog 1 59 [.agg (A3 false x0),.ptr 0 0] [some ⟨A3 false x1,0⟩] (.bool r) [some ⟨A3 false x1,0⟩]:=by
 refine C5.q A0c ?_;unfold Ay at hF;refine RW.sf 2 rfl (RW.sf 6 rfl (RW.ret ?_));cases hF
 exact RRetS.m (Gh.rN [0])
theorem Fb {x0:List TSeg} {x1:TSeg} {r:Int} (hF:H9 x0 x1=some r):C5 Tryz.prog 1 117 [Gm x0,.fn 59 [.ptr 0 0]] [some ⟨A3 false x1,0⟩] (.j r) [some ⟨A3 false x1,0⟩]:=by
 refine C5.q Fi ?_;unfold H9 at hF;refine RW.sf 1 rfl (RW.seq (RW.sf 3 rfl ?_));obtain ⟨y5,ey5,h2⟩:=A2 hF
 refine RW.cutq (σ:=Unit) (fun y2=>[]) (fun y2=>[some ⟨A3 false x1,0⟩]) (fun y=>y5=.inr y) gg ?_ ?_
 ·refine RW.blk ?_
  refine RW.iter (σ:=Int) ey5 (fun s1=>[(0,Gm x0),(1,.fn 59 [.ptr 0 0]),(7,.j (x0.length:Int)),(8,.j s1)]) (fun s1=>[some ⟨A3 false x1,0⟩]) (Gh.rN [0]) (fun s1 B o hS1 hB1 hE1=>?_)
  unfold K3 at hS1;refine RW.sreg ?_
  refine rl.gen rfl rfl fun b hb=>?_
  cases b
  ·have h3:=A5 hS1 hb;refine rl.done (RW.seq (RW.cond_f rfl (RW.exit (C9 ?_))));cases h3
   exact ⟨_,(hE1 _ rfl).symm,(Gh.rN [0])⟩
  ·have h4:=A4 hS1 hb;refine rl.done (RW.seq (RW.cond_t rfl (RW.skip (RW.seq (RW.blk (RW.sf 2 rfl (RW.sr 3 rfl ?_)))))));obtain ⟨v3,e3,h5⟩:=A2 h4;refine rl.op (C1 (enc:=A3) (o:=false) rfl rfl rfl e3) ?_;refine rl.op (H6 (off':=0) (vs:=(A3 false v3)) B3 rfl e3 rfl rfl rfl) ?_;obtain ⟨v4,e4,h6⟩:=A2 h5;refine rl.call rfl rfl rfl (A7.eR [0] (Qp e4) ?_)
   cases hb:v4
   ·have h7:=A5 h6 hb;refine rl.done (RW.cond_f rfl (RW.skip (RW.reg (rl.f 2 rfl ?_))));cases h7
    exact hB1 _ rfl _ _ (Gh.rN [0])
   ·have h8:=A4 h6 hb;refine rl.done (RW.cond_t rfl (RW.sf 2 rfl ?_));refine RW.kp [4] [(4,.j s1)] [some ⟨A3 false x1,0⟩] rfl rfl ?_;refine RW.ret ?_;cases h8;have h9:=elimL h2 (hE1 _ rfl);cases h9
    exact RRetS.m (Gh.rN [0])
 ·intro y2 hC
  have h2:=elimR h2 hC;refine RW.sf 1 rfl (RW.ret ?_);cases h2
  exact RRetS.m (Gh.rN [0])
theorem Dz {x0:List TSeg} {x1:TSeg} {r:Bool} (hF:D4 x0 x1=some r):C5 Tryz.prog 1 50 [Gm x0,.fn 59 [.ptr 0 0]] [some ⟨A3 false x1,0⟩] (.bool r) [some ⟨A3 false x1,0⟩]:=by
 refine C5.q Dl ?_;unfold D4 at hF;refine RW.sf 1 rfl (RW.sr 2 rfl ?_);obtain ⟨v1,e1,h1⟩:=A2 hF;refine rl.call rfl rfl rfl (A7.eR [0] (Fb e1) ?_);refine rl.f 2 rfl (RW.ret ?_);cases h1
 exact RRetS.m (Gh.rN [0])
theorem Tb {x0:List UInt8} {r:Bool} (hF:W7 x0=some r):B2 Tryz.prog 120 [.str x0] (.bool r):=by
 refine B2.q Xk ?_;unfold W7 at hF;refine RW.sf 1 rfl (RW.sf 4 rfl (RW.ret ?_));cases hF
 exact RRet.y
theorem Dm {x0:List (List UInt8)} {r:Int} (hF:F7 x0=some r):B2 Tryz.prog 164 [L_S x0,.fn 120 []] (.j r):=by
 refine B2.q Hx ?_;unfold F7 at hF;refine RW.sf 1 rfl (RW.seq (RW.sf 3 rfl ?_));obtain ⟨y5,ey5,h2⟩:=A2 hF
 refine RW.cutq (σ:=Unit) (fun y2=>[]) (fun y2=>[]) (fun y=>y5=.inr y) gg ?_ ?_
 ·refine RW.blk ?_
  refine RW.iter (σ:=Int) ey5 (fun s1=>[(0,L_S x0),(1,.fn 120 []),(7,.j (x0.length:Int)),(8,.j s1)]) (fun s1=>[]) (Gh.y0 []) (fun s1 B o hS1 hB1 hE1=>?_)
  unfold H8 at hS1;refine RW.sreg ?_
  refine rl.gen rfl rfl fun b hb=>?_
  cases b
  ·have h3:=A5 hS1 hb;refine rl.done (RW.seq (RW.cond_f rfl (RW.exit (C9 ?_))));cases h3
   exact ⟨_,(hE1 _ rfl).symm,(Gh.y0 [])⟩
  ·have h4:=A4 hS1 hb;refine rl.done (RW.seq (RW.cond_t rfl (RW.skip (RW.seq (RW.blk (RW.sf 2 rfl (RW.sr 3 rfl ?_)))))));obtain ⟨v3,e3,h5⟩:=A2 h4;refine rl.op (C1 (enc:=encS) (o:=false) rfl rfl rfl e3) ?_;refine rl.op (E7 (off':=0) ekS rfl e3 rfl rfl rfl) ?_;obtain ⟨v4,e4,h6⟩:=A2 h5;refine rl.call rfl rfl rfl (A7.y (r':=.bool v4) (Tb e4) ?_)
   cases hb:v4
   ·have h7:=A5 h6 hb;refine rl.done (RW.cond_f rfl (RW.skip (RW.reg (rl.f 2 rfl ?_))));cases h7
    exact hB1 _ rfl _ _ (Gh.y0 [])
   ·have h8:=A4 h6 hb;refine rl.done (RW.cond_t rfl (RW.sf 2 rfl ?_));refine RW.kp [4] [(4,.j s1)] [] rfl rfl ?_;refine RW.ret ?_;cases h8;have h9:=elimL h2 (hE1 _ rfl);cases h9
    exact RRet.y
 ·intro y2 hC
  have h2:=elimR h2 hC;refine RW.sf 1 rfl (RW.ret ?_);cases h2
  exact RRet.y
theorem Cd {x0:List (List UInt8)} {r:Bool} (hF:E9 x0=some r):B2 Tryz.prog 119 [L_S x0,.fn 120 []] (.bool r):=by
 refine B2.q Gq ?_;unfold E9 at hF;refine RW.sf 1 rfl (RW.sr 2 rfl ?_);obtain ⟨v1,e1,h1⟩:=A2 hF;refine rl.call rfl rfl rfl (A7.y (r':=.j v1) (Dm e1) ?_);refine rl.f 2 rfl (RW.ret ?_);cases h1
 exact RRet.y
theorem D3 {x0:Int} {x1:Int} {x2:Int} {r:Bool} (hF:E3 x0 x1 x2=some r):B2 Tryz.prog 57 [.j x0,.j x1,.j x2] (.bool r):=by
 refine B2.q A70 ?_;unfold E3 at hF;refine RW.sf 1 rfl (RW.sr 2 rfl ?_)
 refine rl.gen rfl rfl fun b hb=>?_
 cases b
 ·have h1:=A5 hF hb;refine rl.f 6 rfl ?_;refine RW.kp [6] [(6,.bool false)] [] rfl rfl ?_;refine RW.ret ?_;cases h1
  exact RRet.y
 ·have h2:=A4 hF hb;refine rl.f 6 rfl ?_;refine RW.kp [6] [(6,.bool (decide (x0≤x2)))] [] rfl rfl ?_;refine RW.ret ?_;cases h2
  exact RRet.y
theorem Pc {x0:TWrite} {x1:TDisk} {r:Bool} (hF:R8 x0 x1=some r):C5 Tryz.prog 1 122 [.agg (A1 false x0),.ptr 0 0] [some ⟨A6 false x1,0⟩] (.bool r) [some ⟨A6 false x1,0⟩]:=by
 refine C5.q Wr ?_;unfold R8 at hF;refine RW.sf 2 rfl (RW.sr 6 rfl ?_);obtain ⟨v1,e1,h1⟩:=A2 hF;refine rl.call rfl rfl rfl (A7.y (r':=.bool v1) (D3 e1) ?_)
 cases hb:v1
 ·have h2:=A5 h1 hb;refine rl.f 8 rfl ?_;refine RW.kp [3] [(3,.bool true)] [some ⟨A6 false x1,0⟩,some ⟨A1 false x0,0⟩] rfl rfl ?_;refine RW.ret ?_;cases h2
  exact RRetS.m (Gh.rN [0])
 ·have h3:=A4 h1 hb;refine rl.f 8 rfl ?_;refine RW.kp [3] [(3,.bool ((x0.Text.length:Int) != 32))] [some ⟨A6 false x1,0⟩,some ⟨A1 false x0,0⟩] rfl rfl ?_;refine RW.ret ?_;cases h3
  exact RRetS.m (Gh.rN [0])
theorem Dy {x0:List TWrite} {x1:TDisk} {r:Int} (hF:G4 x0 x1=some r):C5 Tryz.prog 1 165 [Jr x0,.fn 122 [.ptr 0 0]] [some ⟨A6 false x1,0⟩] (.j r) [some ⟨A6 false x1,0⟩]:=by
 refine C5.q Jj ?_;unfold G4 at hF;refine RW.sf 1 rfl (RW.seq (RW.sf 3 rfl ?_));obtain ⟨y5,ey5,h2⟩:=A2 hF
 refine RW.cutq (σ:=Unit) (fun y2=>[]) (fun y2=>[some ⟨A6 false x1,0⟩]) (fun y=>y5=.inr y) gg ?_ ?_
 ·refine RW.blk ?_
  refine RW.iter (σ:=Int) ey5 (fun s1=>[(0,Jr x0),(1,.fn 122 [.ptr 0 0]),(7,.j (x0.length:Int)),(8,.j s1)]) (fun s1=>[some ⟨A6 false x1,0⟩]) (Gh.rN [0]) (fun s1 B o hS1 hB1 hE1=>?_)
  unfold J4 at hS1;refine RW.sreg ?_
  refine rl.gen rfl rfl fun b hb=>?_
  cases b
  ·have h3:=A5 hS1 hb;refine rl.done (RW.seq (RW.cond_f rfl (RW.exit (C9 ?_))));cases h3
   exact ⟨_,(hE1 _ rfl).symm,(Gh.rN [0])⟩
  ·have h4:=A4 hS1 hb;refine rl.done (RW.seq (RW.cond_t rfl (RW.skip (RW.seq (RW.blk (RW.sf 2 rfl (RW.sr 3 rfl ?_)))))));obtain ⟨v3,e3,h5⟩:=A2 h4;refine rl.op (C1 (enc:=A1) (o:=false) rfl rfl rfl e3) ?_;refine rl.op (H6 (off':=0) (vs:=(A1 false v3)) B4 rfl e3 rfl rfl rfl) ?_;obtain ⟨v4,e4,h6⟩:=A2 h5;refine rl.call rfl rfl rfl (A7.eR [0] (Pc e4) ?_)
   cases hb:v4
   ·have h7:=A5 h6 hb;refine rl.done (RW.cond_f rfl (RW.skip (RW.reg (rl.f 2 rfl ?_))));cases h7
    exact hB1 _ rfl _ _ (Gh.rN [0])
   ·have h8:=A4 h6 hb;refine rl.done (RW.cond_t rfl (RW.sf 2 rfl ?_));refine RW.kp [4] [(4,.j s1)] [some ⟨A6 false x1,0⟩] rfl rfl ?_;refine RW.ret ?_;cases h8;have h9:=elimL h2 (hE1 _ rfl);cases h9
    exact RRetS.m (Gh.rN [0])
 ·intro y2 hC
  have h2:=elimR h2 hC;refine RW.sf 1 rfl (RW.ret ?_);cases h2
  exact RRetS.m (Gh.rN [0])
theorem Cg {x0:List TWrite} {x1:TDisk} {r:Bool} (hF:F1 x0 x1=some r):C5 Tryz.prog 1 121 [Jr x0,.fn 122 [.ptr 0 0]] [some ⟨A6 false x1,0⟩] (.bool r) [some ⟨A6 false x1,0⟩]:=by
 refine C5.q Gv ?_;unfold F1 at hF;refine RW.sf 1 rfl (RW.sr 2 rfl ?_);obtain ⟨v1,e1,h1⟩:=A2 hF;refine rl.call rfl rfl rfl (A7.eR [0] (Dy e1) ?_);refine rl.f 2 rfl (RW.ret ?_);cases h1
 exact RRetS.m (Gh.rN [0])
theorem Ef {x0:TDisk} {r:Bool} (hF:U1 x0=some r):B2 Tryz.prog 55 [.agg (A6 false x0)] (.bool r):=by
 refine B2.q A1f ?_;unfold U1 at hF;refine RW.sf 2 rfl (RW.seq (RW.seq ?_));obtain ⟨y1,ey1,h1⟩:=A2 hF
 refine RW.cutq (σ:=Bool) (fun y1=>[(1,.ptr 0 0),(13,.bool y1)]) (fun y1=>[some ⟨A6 false x0,0⟩]) (fun y=>y1=y) gg ?_ ?_
 ·refine RW.reg ?_;refine rl.run 3 rfl ?_;obtain ⟨v2,e2,h2⟩:=A2 ey1;refine rl.call rfl rfl rfl (A7.y (r':=.bool v2) (D3 e2) ?_)
  cases hb:v2
  ·have h3:=A5 h2 hb;refine rl.f 7 rfl ?_;cases h3
   exact ⟨_,rfl,(Gh.y0 [0])⟩
  ·have h4:=A4 h2 hb;refine rl.run 5 rfl ?_
   refine rl.gen rfl rfl fun b hb=>?_
   cases b
   ·have h5:=A5 h4 hb;refine rl.f 1 rfl ?_;cases h5
    exact ⟨_,rfl,(Gh.y0 [0])⟩
   ·have h6:=A4 h4 hb;refine rl.f 1 rfl ?_;cases h6
    exact ⟨_,rfl,(Gh.y0 [0])⟩
 ·intro y hC
  subst hC
  cases hb:y1
  ·have h7:=A5 h1 hb;refine RW.cond_f rfl (RW.skip (RW.seq (RW.sr 2 rfl ?_)));obtain ⟨v3,e3,h8⟩:=A2 h7;refine rl.call rfl rfl rfl (A7.y (r':=.bool v3) (Cd e3) ?_)
   cases hb:v3
   ·have h9:=A5 h8 hb;refine rl.done (RW.cond_f rfl (RW.skip (RW.sr 3 rfl ?_)));obtain ⟨v4,e4,h10⟩:=A2 h9;refine rl.call rfl rfl rfl (A7.eR [0] (Cg e4) ?_);refine rl.f 2 rfl (RW.ret ?_);cases h10
    exact RRet.y
   ·have h11:=A4 h8 hb;refine rl.done (RW.cond_t rfl (RW.sf 1 rfl (RW.ret ?_)));cases h11
    exact RRet.y
  ·have h12:=A4 h1 hb;refine RW.cond_t rfl (RW.sf 1 rfl (RW.ret ?_));cases h12
   exact RRet.y
theorem Xf {x0:TDisk} {r:Int} (hF:Ea x0=some r):B2 Tryz.prog 56 [.agg (A6 false x0)] (.j r):=by
 refine B2.q A1d ?_;unfold Ea at hF;refine RW.sf 2 rfl (RW.sf 6 rfl (RW.seq (RW.sr 1 rfl ?_)));obtain ⟨v1,e1,h1⟩:=A2 hF;refine rl.call rfl rfl rfl (A7.y (r':=.bool v1) (D3 e1) ?_)
 cases hb:v1
 ·have h2:=A5 h1 hb;refine rl.f 1 rfl (RW.cond_t rfl (RW.sf 1 rfl ?_));refine RW.kp [2] [(2,.j 0)] [some ⟨A6 false x0,0⟩] rfl rfl ?_;refine RW.ret ?_;cases h2
  exact RRet.y
 ·have h3:=A4 h1 hb;refine rl.f 1 rfl (RW.cond_f rfl (RW.skip (RW.sf 2 rfl ?_)));refine RW.kp [2] [(2,.j (w64 (Int.tdiv (w64 ((x0.Sectors.length:Int) - 8)) 8)))] [some ⟨A6 false x0,0⟩] rfl rfl ?_;refine RW.ret ?_;cases h3
  exact RRet.y
theorem P6 {x0:List UInt8} {x1:Int} {r:Int×Int×Bool} (hF:J9 x0 x1=some r):B2 Tryz.prog 103 [.str x0,.j x1] (.tup [.j r.1,.j r.2.1,.bool r.2.2]):=by
 refine B2.q Zc ?_;unfold J9 at hF;refine RW.sf 3 rfl (RW.seq (RW.sr 3 rfl ?_));obtain ⟨v1,e1,h1⟩:=A2 hF;refine rl.call rfl rfl rfl (A7.y (r':=.bool v1) (D3 e1) ?_)
 cases hb:v1
 ·have h2:=A5 h1 hb;refine rl.f 1 rfl (RW.cond_t rfl (RW.sf 3 rfl (RW.ret ?_)));cases h2
  exact RRet.y
 ·have h3:=A4 h1 hb;refine rl.f 1 rfl (RW.cond_f rfl (RW.skip (RW.sf 1 rfl (RW.seq (RW.sf 1 rfl ?_)))));obtain ⟨y8,ey8,h5⟩:=A2 h3
  refine RW.cutq (σ:=Unit) (fun y3=>[]) (fun y3=>[]) (fun y=>y8=.inr y) gg ?_ ?_
  ·refine RW.blk ?_
   refine RW.iter (σ:=Int×Int) ey8 (fun s2=>[(0,.str x0),(1,.j x1),(7,.j s2.1),(8,.j s2.2)]) (fun s2=>[]) (Gh.y0 []) (fun s2 B o hS4 hB4 hE4=>?_)
   unfold P7 at hS4;refine RW.seq (RW.seq ?_);obtain ⟨y4,ey4,h6⟩:=A2 hS4
   refine RW.cutq (σ:=Bool) (fun y4=>[(0,.str x0),(1,.j x1),(7,.j s2.1),(8,.j s2.2),(24,.bool y4)]) (fun y4=>[]) (fun y=>y4=y) gg ?_ ?_
   ·refine RW.reg ?_;refine rl.run 1 rfl ?_
    refine rl.gen rfl rfl fun b hb=>?_
    cases b
    ·have h7:=A5 ey4 hb;refine rl.f 8 rfl ?_;cases h7
     exact ⟨_,rfl,(Gh.y0 [])⟩
    ·have h8:=A4 ey4 hb;refine rl.run 6 rfl ?_
     refine rl.gen rfl rfl fun b hb=>?_
     cases b
     ·have h9:=A5 h8 hb;refine rl.f 1 rfl ?_;cases h9
      exact ⟨_,rfl,(Gh.y0 [])⟩
     ·have h10:=A4 h8 hb;refine rl.f 1 rfl ?_;cases h10
      exact ⟨_,rfl,(Gh.y0 [])⟩
   ·intro y hC
    subst hC
    cases hb:y4
    ·have h11:=A5 h6 hb;refine RW.cond_f rfl (RW.exit (C9 ?_));cases h11
     exact ⟨_,(hE4 _ rfl).symm,(Gh.y0 [])⟩
    ·have h12:=A4 h6 hb;refine RW.cond_t rfl (RW.skip (RW.seq (RW.blk (RW.sr 4 rfl ?_))));obtain ⟨v5,e5,h13⟩:=A2 h12;refine rl.op (La rfl rfl e5) ?_;refine rl.f 2 rfl (RW.sr 5 rfl ?_);obtain ⟨v6,e6,h14⟩:=A2 h13;refine rl.op (Aav rfl rfl e6) ?_;refine rl.f 2 rfl ?_;refine RW.kp [0,1,7,8,9] [(0,.str x0),(1,.j x1),(7,.j (orv .i64 s2.1 v6)),(8,.j s2.2),(9,.j (w64 (v5.toNat:Int)))] [] rfl rfl ?_;refine RW.seq (RW.sr 1 rfl ?_)
     refine rl.gen rfl rfl fun b hb=>?_
     cases b
     ·have h15:=A5 h14 hb;refine rl.done (RW.cond_f rfl (RW.skip (RW.seq (RW.seq ?_))));obtain ⟨y7,ey7,h16⟩:=A2 h15
      refine RW.cutq (σ:=Bool) (fun y7=>[(1,.j x1),(7,.j (orv .i64 s2.1 v6)),(8,.j s2.2),(51,.bool y7)]) (fun y7=>[]) (fun y=>y7=y) gg ?_ ?_
      ·refine RW.reg ?_;refine rl.run 1 rfl ?_
       refine rl.gen rfl rfl fun b hb=>?_
       cases b
       ·have h17:=A5 ey7 hb;refine rl.run 6 rfl ?_
        refine rl.gen rfl rfl fun b hb=>?_
        cases b
        ·have h18:=A5 h17 hb;refine rl.f 1 rfl ?_;cases h18
         exact ⟨_,rfl,(Gh.y0 [])⟩
        ·have h19:=A4 h17 hb;refine rl.f 1 rfl ?_;cases h19
         exact ⟨_,rfl,(Gh.y0 [])⟩
       ·have h20:=A4 ey7 hb;refine rl.run 2 rfl ?_
        refine rl.gen rfl rfl fun b hb=>?_
        cases b
        ·have h21:=A5 h20 hb;refine rl.run 3 rfl ?_
         refine rl.gen rfl rfl fun b hb=>?_
         cases b
         ·have h22:=A5 h21 hb;refine rl.f 1 rfl ?_;cases h22
          exact ⟨_,rfl,(Gh.y0 [])⟩
         ·have h23:=A4 h21 hb;refine rl.f 1 rfl ?_;cases h23
          exact ⟨_,rfl,(Gh.y0 [])⟩
        ·have h24:=A4 h20 hb;refine rl.f 5 rfl ?_;cases h24
         exact ⟨_,rfl,(Gh.y0 [])⟩
      ·intro y hC
       subst hC
       cases hb:y7
       ·have h25:=A5 h16 hb;refine RW.cond_f rfl (RW.skip (RW.sf 8 rfl (RW.ret ?_)));cases h25;have h26:=elimL h5 (hE4 _ rfl);cases h26
        exact RRet.y
       ·have h27:=A4 h16 hb;refine RW.cond_t rfl (RW.sf 3 rfl (RW.ret ?_));cases h27;have h28:=elimL h5 (hE4 _ rfl);cases h28
        exact RRet.y
     ·have h29:=A4 h14 hb;refine rl.done (RW.cond_t rfl (RW.exit (C9 (RW.reg (rl.f 3 rfl ?_)))));cases h29
      exact hB4 _ rfl _ _ (Gh.y0 [])
  ·intro y3 hC
   have h5:=elimR h5 hC;refine RW.sf 3 rfl (RW.ret ?_);cases h5
   exact RRet.y
theorem Bb {x0:List UInt8} {x1:Int} {r:(List UInt8)×Int×Bool} (hF:L2 x0 x1=some r):B2 Tryz.prog 101 [.str x0,.j x1] (.tup [.str r.1,.j r.2.1,.bool r.2.2]):=by
 refine B2.q Vs ?_;unfold L2 at hF;refine RW.sf 3 rfl (RW.sr 2 rfl ?_);obtain ⟨v1,e1,h1⟩:=A2 hF;refine rl.call rfl rfl rfl (A7.y (r':=.tup [.j v1.1,.j v1.2.1,.bool v1.2.2]) (P6 e1) ?_);refine rl.f 7 rfl ?_;refine RW.kp [0,7,8,9] [(0,.str x0),(7,.j v1.1),(8,.j v1.2.1),(9,.bool v1.2.2)] [] rfl rfl ?_;refine RW.seq (RW.seq ?_);obtain ⟨y2,ey2,h2⟩:=A2 h1
 refine RW.cutq (σ:=Bool) (fun y2=>[(0,.str x0),(7,.j v1.1),(8,.j v1.2.1),(30,.bool y2)]) (fun y2=>[]) (fun y=>y2=y) gg ?_ ?_
 ·refine RW.reg ?_;refine rl.run 3 rfl ?_
  cases hb:(!v1.2.2)
  ·have h3:=A5 ey2 hb;refine rl.run 1 rfl ?_
   refine rl.gen rfl rfl fun b hb=>?_
   cases b
   ·have h4:=A5 h3 hb;refine rl.run 7 rfl ?_
    refine rl.gen rfl rfl fun b hb=>?_
    cases b
    ·have h5:=A5 h4 hb;refine rl.f 1 rfl ?_;cases h5
     exact ⟨_,rfl,(Gh.y0 [])⟩
    ·have h6:=A4 h4 hb;refine rl.f 1 rfl ?_;cases h6
     exact ⟨_,rfl,(Gh.y0 [])⟩
   ·have h7:=A4 h3 hb;refine rl.f 9 rfl ?_;cases h7
    exact ⟨_,rfl,(Gh.y0 [])⟩
  ·have h8:=A4 ey2 hb;refine rl.f 11 rfl ?_;cases h8
   exact ⟨_,rfl,(Gh.y0 [])⟩
 ·intro y hC
  subst hC
  cases hb:y2
  ·have h9:=A5 h2 hb;refine RW.cond_f rfl (RW.skip (RW.sr 5 rfl ?_));obtain ⟨v3,e3,h10⟩:=A2 h9;refine rl.op (Hk rfl rfl rfl Fw e3) ?_;refine rl.f 6 rfl ?_;refine RW.kp [4,5,6] [(4,.str v3),(5,.j (w64 (v1.2.1+v1.1))),(6,.bool true)] [] rfl rfl ?_;refine RW.ret ?_;cases h10
   exact RRet.y
  ·have h11:=A4 h2 hb;refine RW.cond_t rfl (RW.sf 3 rfl (RW.ret ?_));cases h11
   exact RRet.y
theorem Da {x0:TFrame} {r:Bool} (hF:Q2 x0=some r):B2 Tryz.prog 136 [.agg (B5 false x0)] (.bool r):=by
 refine B2.q A0n ?_;unfold Q2 at hF;refine RW.sf 2 rfl (RW.seq ?_);obtain ⟨y1,ey1,h1⟩:=A2 hF
 refine RW.cutq (σ:=Bool) (fun y1=>[(2,.bool y1)]) (fun y1=>[]) (fun y=>y1=y) gg ?_ ?_
 ·refine RW.reg ?_;refine rl.run 2 rfl ?_;obtain ⟨v2,e2,h2⟩:=A2 ey1;refine rl.call rfl rfl rfl (A7.y (r':=.bool v2) (D3 e2) ?_)
  cases hb:v2
  ·have h3:=A5 h2 hb;refine rl.f 12 rfl ?_;cases h3
   exact ⟨_,rfl,(Gh.y0 [])⟩
  ·have h4:=A4 h2 hb;refine rl.run 3 rfl ?_;obtain ⟨v3,e3,h5⟩:=A2 h4;refine rl.call rfl rfl rfl (A7.y (r':=.bool v3) (D3 e3) ?_)
   cases hb:v3
   ·have h6:=A5 h5 hb;refine rl.f 8 rfl ?_;cases h6
    exact ⟨_,rfl,(Gh.y0 [])⟩
   ·have h7:=A4 h5 hb;refine rl.run 5 rfl ?_;obtain ⟨v4,e4,h8⟩:=A2 h7;refine rl.call rfl rfl rfl (A7.y (r':=.bool v4) (D3 e4) ?_);refine rl.f 2 rfl ?_;cases h8
    exact ⟨_,rfl,(Gh.y0 [])⟩
 ·intro y hC
  subst hC;refine RW.ret ?_;cases h1
  exact RRet.y
theorem Vf {x0:Int} {x1:List UInt8} {r:Int} (hF:Cr x0 x1=some r):B2 Tryz.prog 177 [.int .u32 x0,.str x1] (.int .u32 r):=by
 refine B2.q Zu ?_;unfold Cr at hF;refine RW.sf 1 rfl (RW.seq (RW.sf 3 rfl ?_));obtain ⟨y7,ey7,h2⟩:=A2 hF
 refine RW.cutq (σ:=Int) (fun y2=>[(0,.int .u32 y2)]) (fun y2=>[]) (fun y=>y7=y) gg ?_ ?_
 ·refine RW.blk ?_
  refine RW.iter (σ:=Int×Int) ey7 (fun s1=>[(0,.int .u32 s1.1),(1,.str x1),(8,.j (x1.length:Int)),(9,.j s1.2)]) (fun s1=>[]) (Gh.y0 []) (fun s1 B o hS1 hB1 hE1=>?_)
  unfold Aw at hS1;refine RW.sreg ?_
  refine rl.gen rfl rfl fun b hb=>?_
  cases b
  ·have h3:=A5 hS1 hb;refine rl.done (RW.seq (RW.cond_f rfl (RW.exit (C9 ?_))));cases h3
   exact ⟨_,(hE1 _ rfl).symm,(Gh.y0 [])⟩
  ·have h4:=A4 hS1 hb;refine rl.done (RW.seq (RW.cond_t rfl (RW.skip (RW.seq (RW.blk (RW.sf 2 rfl (RW.sr 3 rfl ?_)))))));obtain ⟨v3,e3,h5⟩:=A2 h4;refine rl.op (La rfl rfl e3) ?_;refine rl.f 3 rfl (RW.sf 1 rfl ?_);obtain ⟨y6,ey6,h7⟩:=A2 h5
   refine RW.cutq (σ:=Int) (fun y5=>[(0,.int .u32 y5),(1,.str x1),(8,.j (x1.length:Int)),(9,.j s1.2)]) (fun y5=>[]) (fun y=>y6=y) gg ?_ ?_
   ·refine RW.blk ?_
    refine RW.iter (σ:=Int×Int) ey6 (fun s4=>[(0,.int .u32 s4.1),(1,.str x1),(8,.j (x1.length:Int)),(9,.j s1.2),(18,.j s4.2)]) (fun s4=>[]) (Gh.y0 []) (fun s4 B o hS6 hB6 hE6=>?_)
    unfold Z5 at hS6;refine RW.sreg ?_
    refine rl.gen rfl rfl fun b hb=>?_
    cases b
    ·have h8:=A5 hS6 hb;refine rl.done (RW.seq (RW.cond_f rfl (RW.exit (C9 ?_))));cases h8
     exact ⟨_,(hE6 _ rfl).symm,(Gh.y0 [])⟩
    ·have h9:=A4 hS6 hb;refine rl.done (RW.seq (RW.cond_t rfl (RW.skip (RW.seq (RW.blk (RW.sr 2 rfl ?_))))))
     refine rl.gen rfl rfl fun b hb=>?_
     cases b
     ·have h10:=A5 h9 hb;refine rl.f 1 rfl (RW.sf 3 rfl (RW.sf 1 rfl (RW.cond_f rfl (RW.skip (RW.reg (rl.run 2 rfl ?_))))));refine rl.done ?_;cases h10
      exact hB6 _ rfl _ _ (Gh.y0 [])
     ·have h11:=A4 h9 hb;refine rl.f 1 rfl (RW.sf 3 rfl (RW.sf 1 rfl (RW.cond_t rfl (RW.reg (rl.f 3 rfl ?_)))));refine RW.reg (rl.f 2 rfl ?_);cases h11
      exact hB6 _ rfl _ _ (Gh.y0 [])
   ·intro y5 hC
    subst hC;refine RW.reg (rl.f 2 rfl ?_);cases h7
    exact hB1 _ rfl _ _ (Gh.y0 [])
 ·intro y2 hC
  subst hC;refine RW.sf 2 rfl (RW.ret ?_);cases h2
  exact RRet.y
theorem Yt {x0:List UInt8} {r:Int} (hF:Ez x0=some r):B2 Tryz.prog 152 [.str x0] (.int .u32 r):=by
 refine B2.q A3l ?_;unfold Ez at hF;refine RW.sf 1 rfl (RW.sr 1 rfl ?_);obtain ⟨v1,e1,h1⟩:=A2 hF;refine rl.call rfl rfl rfl (A7.y (r':=.int .u32 v1) (Vf e1) ?_);refine rl.f 1 rfl (RW.ret ?_);cases h1
 exact RRet.y
theorem A0y {x0:List UInt8} {r:List UInt8} (hF:Gk x0=some r):B2 Tryz.prog 96 [.str x0] (.str r):=by
 refine B2.q A4y ?_;unfold Gk at hF;refine RW.sf 1 rfl (RW.sr 1 rfl ?_);obtain ⟨v1,e1,h1⟩:=A2 hF;refine rl.call rfl rfl rfl (A7.y (r':=.int .u32 v1) (Yt e1) ?_);refine rl.f 1 rfl (RW.sr 12 rfl ?_);refine rl.op (Hn (o:=true) (l:=[IntKind.u8.wrap (shrv .u32 v1 24),IntKind.u8.wrap (shrv .u32 v1 16),IntKind.u8.wrap (shrv .u32 v1 8),IntKind.u8.wrap v1]) rfl rfl) ?_;refine rl.f 1 rfl ?_;refine RW.kp [2] [(2,.str ([IntKind.u8.wrap (shrv .u32 v1 24),IntKind.u8.wrap (shrv .u32 v1 16),IntKind.u8.wrap (shrv .u32 v1 8),IntKind.u8.wrap v1].map ofI))] [some ⟨fl (encB true) [IntKind.u8.wrap (shrv .u32 v1 24),IntKind.u8.wrap (shrv .u32 v1 16),IntKind.u8.wrap (shrv .u32 v1 8),IntKind.u8.wrap v1],1⟩] rfl rfl ?_;refine RW.ret ?_;cases h1
 exact RRet.y
theorem Xg {x0:List UInt8} {r:(List UInt8)×Bool} (hF:Dw x0=some r):B2 Tryz.prog 143 [.str x0] (.tup [.str r.1,.bool r.2]):=by
 refine B2.q A12 ?_;unfold Dw at hF;refine RW.sf 2 rfl (RW.seq (RW.sr 2 rfl ?_))
 refine rl.gen rfl rfl fun b hb=>?_
 cases b
 ·have h1:=A5 hF hb;refine rl.done (RW.cond_f rfl (RW.skip (RW.sr 2 rfl ?_)));obtain ⟨v1,e1,h2⟩:=A2 h1;refine rl.call rfl rfl rfl (A7.y (r':=.str v1) (A0y e1) ?_);obtain ⟨v2,e2,h3⟩:=A2 h2;refine rl.op (T4 rfl rfl e2) ?_;refine rl.f 2 rfl (RW.ret ?_);cases h3
  exact RRet.y
 ·have h4:=A4 hF hb;refine rl.done (RW.cond_t rfl (RW.sf 2 rfl (RW.ret ?_)));cases h4
  exact RRet.y
theorem Z3 {x0:Int} {r:List UInt8} (hF:M5 x0=some r):B2 Tryz.prog 95 [.j x0] (.str r):=by
 refine B2.q A0p ?_;unfold M5 at hF;refine RW.sf 1 rfl (RW.sf 2 rfl (RW.seq ?_));refine RW.gh (Gh.nil_t 3 1 rfl) ?_;obtain ⟨y4,ey4,h2⟩:=A2 hF
 refine RW.cutq (σ:=Int×(List Int)) (fun y2=>[(0,.j y2.1),(3,.sl 0 0 y2.2.length)]) (fun y2=>[some ⟨fl (encB true) y2.2,1⟩]) (fun y=>y4=y) gg ?_ ?_
 ·refine RW.blk ?_
  refine RW.iter (σ:=Int×(List Int)) ey4 (fun s1=>[(0,.j s1.1),(3,.sl 0 0 s1.2.length)]) (fun s1=>[some ⟨fl (encB true) s1.2,1⟩]) (Gh.y0 [0]) (fun s1 B o hS1 hB1 hE1=>?_)
  unfold U8 at hS1;refine RW.seq (RW.sr 1 rfl ?_)
  refine rl.gen rfl rfl fun b hb=>?_
  cases b
  ·have h3:=A5 hS1 hb;refine rl.done (RW.cond_f rfl (RW.exit (C9 ?_)));cases h3
   exact ⟨_,(hE1 _ rfl).symm,(Gh.y0 [0])⟩
  ·have h4:=A4 hS1 hb;refine rl.done (RW.cond_t rfl (RW.skip (RW.blk (RW.sr 6 rfl ?_))));obtain ⟨v3,e3,h5⟩:=A2 h4;refine rl.op (U2 rfl rfl (R6 (l:=s1.2) (m:=[IntKind.u8.wrap (orv .i64 (andv .i64 s1.1 127) 128)]) (o:=true) ekB rfl rfl (M0 (m:=[IntKind.u8.wrap (orv .i64 (andv .i64 s1.1 127) 128)]) (o:=true) fkB rfl rfl) rfl (fkB.fst _ _) e3)) ?_;refine rl.f 1 rfl (RW.reg (rl.f 3 rfl ?_));cases h5
   exact hB1 _ rfl _ _ (Gh.y0 [2])
 ·intro y2 hC
  subst hC;refine RW.sr 4 rfl ?_;obtain ⟨v5,e5,h6⟩:=A2 h2;refine rl.op (U2 rfl rfl (R6 (l:=y4.2) (m:=[IntKind.u8.wrap y4.1]) (o:=true) ekB rfl rfl (M0 (m:=[IntKind.u8.wrap y4.1]) (o:=true) fkB rfl rfl) rfl (fkB.fst _ _) e5)) ?_;refine rl.op (Hn (o:=true) (l:=v5) rfl rfl) ?_;refine rl.f 1 rfl (RW.ret ?_);cases h6
  exact RRet.y
theorem W3 {x0:TFrame} {r:(List UInt8)×Bool} (hF:G5 x0=some r):B2 Tryz.prog 83 [.agg (B5 false x0)] (.tup [.str r.1,.bool r.2]):=by
 refine B2.q Uv ?_;unfold G5 at hF;refine RW.sf 3 rfl (RW.seq (RW.sr 1 rfl ?_));obtain ⟨v1,e1,h1⟩:=A2 hF;refine rl.call rfl rfl rfl (A7.y (r':=.bool v1) (Da e1) ?_)
 cases hb:v1
 ·have h2:=A5 h1 hb;refine rl.f 1 rfl (RW.cond_t rfl (RW.sf 2 rfl (RW.ret ?_)));cases h2
  exact RRet.y
 ·have h3:=A4 h1 hb;refine rl.f 1 rfl (RW.cond_f rfl (RW.skip (RW.sdrw (A0.op rfl rfl (A0.op rfl rfl ?_)))));obtain ⟨v2,e2,h4⟩:=A2 h3;refine A0.call rfl rfl rfl (A7.y (r':=.str v2) (Z3 e2) ⟨rfl,?_⟩);refine A0.op rfl rfl (A0.op rfl rfl ?_);obtain ⟨v3,e3,h5⟩:=A2 h4;refine A0.call rfl rfl rfl (A7.y (r':=.str v3) (Z3 e3) ⟨rfl,?_⟩);obtain ⟨v4,e4,h6⟩:=A2 h5;refine A0.op rfl (T4 rfl rfl e4) ?_;refine A0.op rfl rfl (A0.op rfl rfl (A0.op rfl rfl ?_));obtain ⟨v5,e5,h7⟩:=A2 h6;refine A0.call rfl rfl rfl (A7.y (r':=.str v5) (Z3 e5) ⟨rfl,?_⟩);obtain ⟨v6,e6,h8⟩:=A2 h7;refine A0.op rfl (T4 rfl rfl e6) ?_;refine A0.op rfl rfl (A0.op rfl rfl ?_);obtain ⟨v7,e7,h9⟩:=A2 h8;refine A0.op rfl (T4 rfl rfl e7) ?_;obtain ⟨v8,e8,h10⟩:=A2 h9;refine A0.call rfl rfl rfl (A7.y (r':=.tup [.str v8.1,.bool v8.2]) (Xg e8) ⟨rfl,?_⟩);refine A0.op rfl rfl (A0.op rfl rfl (A0.op rfl rfl (A0.op rfl rfl (A0.done ?_))));refine RW.kp [2,3] [(2,.str v8.1),(3,.bool v8.2)] [some ⟨B5 false x0,0⟩] rfl rfl ?_;refine RW.ret ?_;cases h10
  exact RRet.y
theorem Hj {x0:List UInt8} {x1:Int} {r:TFrame×Int×Bool} (hF:U5 x0 x1=some r):B2 Tryz.prog 129 [.str x0,.j x1] (.tup [.agg (B5 true r.1),.j r.2.1,.bool r.2.2]):=by
 refine B2.q Uf ?_;unfold U5 at hF;refine RW.sf 3 rfl (RW.sr 2 rfl ?_);obtain ⟨v1,e1,h1⟩:=A2 hF;refine rl.call rfl rfl rfl (A7.y (r':=.tup [.j v1.1,.j v1.2.1,.bool v1.2.2]) (P6 e1) ?_);refine rl.f 7 rfl (RW.sr 2 rfl ?_);obtain ⟨v2,e2,h2⟩:=A2 h1;refine rl.call rfl rfl rfl (A7.y (r':=.tup [.j v2.1,.j v2.2.1,.bool v2.2.2]) (P6 e2) ?_);refine rl.f 7 rfl ?_;refine RW.kp [0,1,4,7,8,9,10,11] [(0,.str x0),(1,.j x1),(4,.ptr 0 0),(7,.j v1.1),(8,.j v2.2.1),(9,.bool v1.2.2),(10,.j v2.1),(11,.bool v2.2.2)] [some ⟨[.j 0,.j 0,.str []],0⟩] rfl rfl ?_;refine RW.sr 2 rfl ?_;obtain ⟨v3,e3,h3⟩:=A2 h2;refine rl.call rfl rfl rfl (A7.y (r':=.tup [.str v3.1,.j v3.2.1,.bool v3.2.2]) (Bb e3) ?_);refine rl.f 7 rfl (RW.sf 6 rfl ?_);refine RW.kp [0,1,4,8,9,11,13,14] [(0,.str x0),(1,.j x1),(4,.ptr 0 0),(8,.j v3.2.1),(9,.bool v1.2.2),(11,.bool v2.2.2),(13,.bool v3.2.2),(14,.ptr 1 0)] [some ⟨[.j 0,.j 0,.str []],0⟩,some ⟨[.j v1.1,.j v2.1,.str v3.1],0⟩] rfl rfl ?_;refine RW.seq (RW.seq ?_);obtain ⟨y4,ey4,h4⟩:=A2 h3
 refine RW.cutq (σ:=Bool) (fun y4=>[(0,.str x0),(1,.j x1),(4,.ptr 0 0),(8,.j v3.2.1),(14,.ptr 1 0),(63,.bool y4)]) (fun y4=>[some ⟨[.j 0,.j 0,.str []],0⟩,some ⟨[.j v1.1,.j v2.1,.str v3.1],0⟩]) (fun y=>y4=y) gg ?_ ?_
 ·refine RW.reg ?_;refine rl.run 3 rfl ?_
  cases hb:(!v1.2.2)
  ·have h5:=A5 ey4 hb;refine rl.run 4 rfl ?_
   cases hb:(!v2.2.2)
   ·have h6:=A5 h5 hb;refine rl.run 4 rfl ?_
    cases hb:(!v3.2.2)
    ·have h7:=A5 h6 hb;refine rl.run 1 rfl ?_;obtain ⟨v5,e5,h8⟩:=A2 h7;refine rl.call rfl rfl rfl (A7.y (r':=.bool v5) (Da e5) ?_)
     cases hb:v5
     ·have h9:=A5 h8 hb;refine rl.f 9 rfl ?_;cases h9
      exact ⟨_,rfl,(Gh.y0 [0,1])⟩
     ·have h10:=A4 h8 hb;refine rl.run 7 rfl ?_
      refine rl.gen rfl rfl fun b hb=>?_
      cases b
      ·have h11:=A5 h10 hb;refine rl.f 1 rfl ?_;cases h11
       exact ⟨_,rfl,(Gh.y0 [0,1])⟩
      ·have h12:=A4 h10 hb;refine rl.f 1 rfl ?_;cases h12
       exact ⟨_,rfl,(Gh.y0 [0,1])⟩
    ·have h13:=A4 h6 hb;refine rl.f 11 rfl ?_;cases h13
     exact ⟨_,rfl,(Gh.y0 [0,1])⟩
   ·have h14:=A4 h5 hb;refine rl.f 15 rfl ?_;cases h14
    exact ⟨_,rfl,(Gh.y0 [0,1])⟩
  ·have h15:=A4 ey4 hb;refine rl.f 19 rfl ?_;cases h15
   exact ⟨_,rfl,(Gh.y0 [0,1])⟩
 ·intro y hC
  subst hC
  cases hb:y4
  ·have h16:=A5 h4 hb;refine RW.cond_f rfl (RW.skip (RW.seq (RW.sr 1 rfl ?_)));obtain ⟨v6,e6,h17⟩:=A2 h16;refine rl.call rfl rfl rfl (A7.y (r':=.tup [.str v6.1,.bool v6.2]) (W3 e6) ?_);refine rl.f 5 rfl (RW.sr 4 rfl ?_);obtain ⟨v7,e7,h18⟩:=A2 h17;refine rl.op (Hk rfl rfl rfl Fw e7) ?_;refine rl.run 1 rfl ?_
   refine rl.gen rfl rfl fun b hb=>?_
   cases b
   ·have h19:=A5 h18 hb;refine rl.done ?_;refine RW.kp [4,8,14,76] [(4,.ptr 0 0),(8,.j v3.2.1),(14,.ptr 1 0),(76,.bool false)] [some ⟨[.j 0,.j 0,.str []],0⟩,some ⟨[.j v1.1,.j v2.1,.str v3.1],0⟩] rfl rfl ?_;refine RW.cond_f rfl (RW.skip (RW.sf 6 rfl (RW.ret ?_)));cases h19
    exact RRet.y
   ·have h20:=A4 h18 hb;refine rl.done ?_;refine RW.kp [4,8,14,76] [(4,.ptr 0 0),(8,.j v3.2.1),(14,.ptr 1 0),(76,.bool true)] [some ⟨[.j 0,.j 0,.str []],0⟩,some ⟨[.j v1.1,.j v2.1,.str v3.1],0⟩] rfl rfl ?_;refine RW.cond_t rfl (RW.sf 4 rfl (RW.ret ?_));cases h20
    exact RRet.y
  ·have h21:=A4 h4 hb;refine RW.cond_t rfl (RW.sf 4 rfl (RW.ret ?_));cases h21
   exact RRet.y
theorem Gs {x0:TDisk} {x1:Int} {r:(List UInt8)×Bool} (hF:R9 x0 x1=some r):B2 Tryz.prog 132 [.agg (A6 false x0),.j x1] (.tup [.str r.1,.bool r.2]):=by
 refine B2.q Rp ?_;unfold R9 at hF;refine RW.sf 3 rfl (RW.seq (RW.sr 5 rfl ?_));obtain ⟨v1,e1,h1⟩:=A2 hF;refine rl.call rfl rfl rfl (A7.y (r':=.bool v1) (D3 e1) ?_)
 cases hb:v1
 ·have h2:=A5 h1 hb;refine rl.f 1 rfl (RW.cond_t rfl (RW.sf 2 rfl (RW.ret ?_)));cases h2
  exact RRet.y
 ·have h3:=A4 h1 hb;refine rl.f 1 rfl (RW.cond_f rfl (RW.skip (RW.sr 3 rfl ?_)));obtain ⟨v2,e2,h4⟩:=A2 h3;refine rl.op (C1 (enc:=encS) (o:=false) rfl rfl rfl e2) ?_;refine rl.op (E7 (off':=0) ekS rfl e2 rfl rfl rfl) ?_;refine rl.f 1 rfl ?_;refine RW.kp [1,2,6] [(1,.j x1),(2,.ptr 0 0),(6,.str v2)] [some ⟨A6 false x0,0⟩] rfl rfl ?_;refine RW.seq (RW.sf 4 rfl ?_);obtain ⟨y6,ey6,h6⟩:=A2 h4
  refine RW.cutq (σ:=(List UInt8)) (fun y4=>[(6,.str y4)]) (fun y4=>[]) (fun y=>y6=y) gg ?_ ?_
  ·refine RW.blk ?_
   refine RW.iter (σ:=(List UInt8)×Int) ey6 (fun s3=>[(1,.j x1),(6,.str s3.1),(22,Jr x0.Cache),(23,.j (x0.Cache.length:Int)),(24,.j s3.2)]) (fun s3=>[]) (Gh.y0 []) (fun s3 B o hS5 hB5 hE5=>?_)
   unfold T6 at hS5;refine RW.sreg ?_
   refine rl.gen rfl rfl fun b hb=>?_
   cases b
   ·have h7:=A5 hS5 hb;refine rl.done (RW.seq (RW.cond_f rfl (RW.exit (C9 ?_))));cases h7
    exact ⟨_,(hE5 _ rfl).symm,(Gh.y0 [])⟩
   ·have h8:=A4 hS5 hb;refine rl.done (RW.seq (RW.cond_t rfl (RW.skip (RW.seq (RW.blk (RW.sreg ?_))))));obtain ⟨v5,e5,h9⟩:=A2 h8;refine rl.op (C1 (enc:=A1) (o:=false) rfl rfl rfl e5) ?_;refine rl.op (H6 (off':=0) (vs:=(A1 false v5)) B4 rfl e5 rfl rfl rfl) ?_;refine rl.f 2 rfl (RW.sr 3 rfl ?_)
    refine rl.gen rfl rfl fun b hb=>?_
    cases b
    ·have h10:=A5 h9 hb;refine rl.done (RW.cond_f rfl (RW.skip (RW.reg (rl.f 2 rfl ?_))));cases h10
     exact hB5 _ rfl _ _ (Gh.y0 [])
    ·have h11:=A4 h9 hb;refine rl.done (RW.cond_t rfl (RW.reg (rl.f 3 rfl (RW.reg (rl.f 2 rfl ?_)))));cases h11
     exact hB5 _ rfl _ _ (Gh.y0 [])
  ·intro y4 hC
   subst hC;refine RW.sf 3 rfl (RW.ret ?_);cases h6
   exact RRet.y
theorem Pm {x0:TDisk} {x1:Int} {x2:Int} {r:(List UInt8)×Bool} (hF:Y3 x0 x1 x2=some r):B2 Tryz.prog 126 [.agg (A6 false x0),.j x1,.j x2] (.tup [.str r.1,.bool r.2]):=by
 refine B2.q Rw ?_;unfold Y3 at hF;refine RW.sf 3 rfl (RW.seq (RW.sr 1 rfl ?_));obtain ⟨v1,e1,h1⟩:=A2 hF;refine rl.call rfl rfl rfl (A7.y (r':=.bool v1) (D3 e1) ?_)
 cases hb:v1
 ·have h2:=A5 h1 hb;refine rl.f 1 rfl (RW.cond_t rfl (RW.sf 2 rfl (RW.ret ?_)));cases h2
  exact RRet.y
 ·have h3:=A4 h1 hb;refine rl.f 1 rfl (RW.cond_f rfl (RW.skip (RW.sf 1 rfl (RW.seq (RW.sf 2 rfl ?_)))));obtain ⟨y6,ey6,h5⟩:=A2 h3
  refine RW.cutq (σ:=(List UInt8)) (fun y3=>[(8,.str y3)]) (fun y3=>[]) (fun y=>y6=.inr y) gg ?_ ?_
  ·refine RW.blk ?_
   refine RW.iter (σ:=(List UInt8)×Int) ey6 (fun s2=>[(1,.j x1),(3,.ptr 0 0),(8,.str s2.1),(15,.j x2),(16,.j s2.2)]) (fun s2=>[some ⟨A6 false x0,0⟩]) (Gh.y0 [0]) (fun s2 B o hS4 hB4 hE4=>?_)
   unfold T8 at hS4;refine RW.sreg ?_
   refine rl.gen rfl rfl fun b hb=>?_
   cases b
   ·have h6:=A5 hS4 hb;refine rl.done (RW.seq (RW.cond_f rfl (RW.exit (C9 ?_))));cases h6
    exact ⟨_,(hE4 _ rfl).symm,(Gh.y0 [])⟩
   ·have h7:=A4 hS4 hb;refine rl.done (RW.seq (RW.cond_t rfl (RW.skip (RW.seq (RW.blk (RW.sf 2 rfl (RW.sr 4 rfl ?_)))))));obtain ⟨v4,e4,h8⟩:=A2 h7;refine rl.call rfl rfl rfl (A7.y (r':=.tup [.str v4.1,.bool v4.2]) (Gs e4) ?_);refine rl.f 5 rfl ?_;refine RW.kp [1,3,8,10,11,15,16] [(1,.j x1),(3,.ptr 0 0),(8,.str s2.1),(10,.str v4.1),(11,.bool v4.2),(15,.j x2),(16,.j s2.2)] [some ⟨A6 false x0,0⟩] rfl rfl ?_;refine RW.seq (RW.sf 2 rfl ?_)
    cases hb:(!v4.2)
    ·have h9:=A5 h8 hb;refine RW.cond_f rfl (RW.skip (RW.reg (rl.run 2 rfl ?_)));obtain ⟨v5,e5,h10⟩:=A2 h9;refine rl.op (T4 rfl rfl e5) ?_;refine rl.f 1 rfl (RW.reg (rl.f 2 rfl ?_));cases h10
     exact hB4 _ rfl _ _ (Gh.y0 [0])
    ·have h11:=A4 h8 hb;refine RW.cond_t rfl (RW.sf 2 rfl (RW.ret ?_));cases h11;have h12:=elimL h5 (hE4 _ rfl);cases h12
     exact RRet.y
  ·intro y3 hC
   have h5:=elimR h5 hC;refine RW.sf 3 rfl (RW.ret ?_);cases h5
   exact RRet.y
theorem Je {x0:Int} {r:Int} (hF:W6 x0=some r):B2 Tryz.prog 144 [.j x0] (.j r):=by
 refine B2.q Xe ?_;unfold W6 at hF;refine RW.sf 1 rfl (RW.seq (RW.sr 1 rfl ?_));obtain ⟨v1,e1,h1⟩:=A2 hF;refine rl.call rfl rfl rfl (A7.y (r':=.bool v1) (D3 e1) ?_)
 cases hb:v1
 ·have h2:=A5 h1 hb;refine rl.f 1 rfl (RW.cond_t rfl (RW.sf 1 rfl (RW.ret ?_)));cases h2
  exact RRet.y
 ·have h3:=A4 h1 hb;refine rl.f 1 rfl (RW.cond_f rfl (RW.skip (RW.sf 4 rfl (RW.ret ?_))));cases h3
  exact RRet.y
theorem Jx {x0:TDisk} {x1:Int} {r:List UInt8} (hF:Aj x0 x1=some r):B2 Tryz.prog 130 [.agg (A6 false x0),.j x1] (.str r):=by
 refine B2.q Zt ?_;unfold Aj at hF;refine RW.sf 2 rfl (RW.seq (RW.sr 1 rfl ?_));obtain ⟨v1,e1,h1⟩:=A2 hF;refine rl.call rfl rfl rfl (A7.y (r':=.bool v1) (D3 e1) ?_)
 cases hb:v1
 ·have h2:=A5 h1 hb;refine rl.f 1 rfl (RW.cond_t rfl (RW.sf 1 rfl (RW.ret ?_)));cases h2
  exact RRet.y
 ·have h3:=A4 h1 hb;refine rl.f 1 rfl (RW.cond_f rfl (RW.skip (RW.sdrw (A0.op rfl rfl (A0.op rfl rfl ?_)))));obtain ⟨v2,e2,h4⟩:=A2 h3;refine A0.call rfl rfl rfl (A7.y (r':=.j v2) (Je e2) ⟨rfl,?_⟩);obtain ⟨v3,e3,h5⟩:=A2 h4;refine A0.call rfl rfl rfl (A7.y (r':=.tup [.str v3.1,.bool v3.2]) (Pm e3) ⟨rfl,?_⟩);refine A0.op rfl rfl (A0.op rfl rfl (A0.op rfl rfl (A0.op rfl rfl (A0.op rfl rfl (A0.done ?_)))));refine RW.kp [5] [(5,.str v3.1)] [some ⟨A6 false x0,0⟩] rfl rfl ?_;refine RW.sf 2 rfl (RW.ret ?_);cases h5
  exact RRet.y
theorem Lb {x0:TDisk} {x1:Int} {r:Int} (hF:Bs x0 x1=some r):B2 Tryz.prog 65 [.agg (A6 false x0),.j x1] (.j r):=by
 refine B2.q A1h ?_;unfold Bs at hF;refine RW.sf 2 rfl (RW.sr 2 rfl ?_);obtain ⟨v1,e1,h1⟩:=A2 hF;refine rl.call rfl rfl rfl (A7.y (r':=.str v1) (Jx e1) ?_);obtain ⟨v2,e2,h2⟩:=A2 h1;refine rl.call rfl rfl rfl (A7.y (r':=.tup [.agg (B5 false v2.1),.j v2.2.1,.bool v2.2.2]) (Hj e2) ?_);refine rl.f 8 rfl ?_;refine RW.kp [5] [(5,.ptr 1 0)] [some ⟨A6 false x0,0⟩,some ⟨B5 false v2.1,0⟩] rfl rfl ?_;refine RW.seq (RW.sr 2 rfl ?_)
 refine rl.gen rfl rfl fun b hb=>?_
 cases b
 ·have h3:=A5 h2 hb;refine rl.done (RW.cond_f rfl (RW.skip (RW.sf 3 rfl (RW.ret ?_))));cases h3
  exact RRet.y
 ·have h4:=A4 h2 hb;refine rl.done (RW.cond_t rfl (RW.sf 1 rfl (RW.ret ?_)));cases h4
  exact RRet.y
theorem Pi {x0:List UInt8} {x1:Int} {r:(List TFrame)×Int} (hF:X8 x0 x1=some r):B2 Tryz.prog 134 [.str x0,.j x1] (.tup [.lst true 3 (fl (B5 true) r.1) r.1.length,.j r.2]):=by
 refine B2.q Qv ?_;unfold X8 at hF;refine RW.sf 2 rfl (RW.sf 2 rfl (RW.sf 1 rfl ?_));refine RW.gh (Gh.nil_t 6 3 rfl) ?_;obtain ⟨y6,ey6,h2⟩:=A2 hF
 refine RW.cutE (fun y2=>[]) (fun y2=>[]) (fun y=>y6=.inr y) ?_ ?_
 ·refine RW.blk ?_
  refine RW.iter (σ:=Int×(List TFrame)) ey6 (fun s1=>[(0,.str x0),(1,.j x1),(6,.sl 0 0 s1.2.length),(7,.j s1.1)]) (fun s1=>[some ⟨fl (B5 true) s1.2,3⟩]) (Gh.y0 [0]) (fun s1 B o hS1 hB1 hE1=>?_)
  unfold Y7 at hS1;refine RW.blk (RW.sr 2 rfl ?_);obtain ⟨v3,e3,h3⟩:=A2 hS1;refine rl.call rfl rfl rfl (A7.y (r':=.tup [.agg (B5 false v3.1),.j v3.2.1,.bool v3.2.2]) (Hj e3) ?_);refine rl.f 8 rfl (RW.seq (RW.seq ?_));obtain ⟨y4,ey4,h4⟩:=A2 h3
  refine RW.cutq (σ:=Bool) (fun y4=>[(0,.str x0),(1,.j x1),(6,.sl 0 0 s1.2.length),(7,.j s1.1),(8,.ptr 1 0),(9,.j v3.2.1),(26,.bool y4)]) (fun y4=>[some ⟨fl (B5 true) s1.2,3⟩,some ⟨B5 false v3.1,0⟩]) (fun y=>y4=y) gg ?_ ?_
  ·refine RW.reg ?_;refine rl.run 3 rfl ?_
   cases hb:(!v3.2.2)
   ·have h5:=A5 ey4 hb;refine rl.run 3 rfl ?_
    refine rl.gen rfl rfl fun b hb=>?_
    cases b
    ·have h6:=A5 h5 hb;refine rl.f 1 rfl ?_;cases h6
     exact ⟨_,rfl,(Gh.y0 [0,1])⟩
    ·have h7:=A4 h5 hb;refine rl.f 1 rfl ?_;cases h7
     exact ⟨_,rfl,(Gh.y0 [0,1])⟩
   ·have h8:=A4 ey4 hb;refine rl.f 5 rfl ?_;cases h8
    exact ⟨_,rfl,(Gh.y0 [0,1])⟩
  ·intro y hC
   subst hC
   cases hb:y4
   ·have h9:=A5 h4 hb;refine RW.cond_f rfl (RW.skip (RW.sr 3 rfl ?_));obtain ⟨v5,e5,h10⟩:=A2 h9;refine rl.op (U2 rfl rfl (R6 (l:=s1.2) (m:=[v3.1]) (o:=true) Fo rfl rfl (M0 (m:=[v3.1]) (o:=true) Fq rfl rfl) rfl (Fq.fst _ _) e5)) ?_;refine rl.f 1 rfl (RW.reg (rl.f 2 rfl ?_));cases h10
    exact hB1 _ rfl _ _ (Gh.y0 [3])
   ·have h11:=A4 h4 hb;refine RW.cond_t rfl (RW.sf 4 rfl (RW.ret ?_));cases h11;have h12:=elimL h2 (hE1 _ rfl);cases h12
    exact RRet.y
 ·exact fun y=>y.elim
theorem Qi {x0:TDisk} {x1:Int} {r:(List TFrame)×Int} (hF:Af x0 x1=some r):B2 Tryz.prog 71 [.agg (A6 false x0),.j x1] (.tup [Ch r.1,.j r.2]):=by
 refine B2.q Ur ?_;unfold Af at hF;refine RW.sf 3 rfl (RW.sr 2 rfl ?_);obtain ⟨v1,e1,h1⟩:=A2 hF;refine rl.call rfl rfl rfl (A7.y (r':=.j v1) (Lb e1) ?_);refine rl.f 1 rfl (RW.seq (RW.sr 1 rfl ?_))
 refine rl.gen rfl rfl fun b hb=>?_
 cases b
 ·have h2:=A5 h1 hb;refine rl.done (RW.cond_f rfl (RW.skip (RW.sr 2 rfl ?_)));obtain ⟨v2,e2,h3⟩:=A2 h2;refine rl.call rfl rfl rfl (A7.y (r':=.str v2) (Jx e2) ?_);refine rl.run 1 rfl ?_;obtain ⟨v3,e3,h4⟩:=A2 h3;refine rl.call rfl rfl rfl (A7.z (r':=.tup [.sl 1 0 v3.1.length,.j v3.2]) (H':=[some ⟨A6 false x0,0⟩,some ⟨fl (B5 true) v3.1,3⟩]) (Pi e3) ?_);refine rl.f 5 rfl ?_;refine RW.kp [7,8] [(7,.sl 1 0 v3.1.length),(8,.j v3.2)] [some ⟨A6 false x0,0⟩,some ⟨fl (B5 true) v3.1,3⟩] rfl rfl ?_;refine RW.sr 1 rfl ?_;obtain ⟨v4,e4,h5⟩:=A2 h4;refine rl.op (A4s (i:=1) rfl rfl rfl rfl rfl Kn e4) ?_;refine rl.f 3 rfl (RW.ret ?_);cases h5
  exact RRet.m rfl (OutT.tup (.cons (OutR.viewq Fq rfl e4) (.cons .int .nil)))
 ·have h6:=A4 h1 hb;refine rl.done (RW.cond_t rfl (RW.sf 2 rfl (RW.ret ?_)));cases h6
  exact RRet.m rfl (OutT.tup (.cons .nilsv (.cons .int .nil)))
theorem Kz {x0:List UInt8} {r:Bool} (hF:Bo x0=some r):B2 Tryz.prog 166 [.str x0] (.bool r):=by
 refine B2.q A1c ?_;unfold Bo at hF;refine RW.sf 1 rfl (RW.seq (RW.sr 2 rfl ?_));obtain ⟨v1,e1,h1⟩:=A2 hF;refine rl.call rfl rfl rfl (A7.y (r':=.bool v1) (D3 e1) ?_)
 cases hb:v1
 ·have h2:=A5 h1 hb;refine rl.f 1 rfl (RW.cond_t rfl (RW.sf 1 rfl (RW.ret ?_)));cases h2
  exact RRet.y
 ·have h3:=A4 h1 hb;refine rl.f 1 rfl (RW.cond_f rfl (RW.skip (RW.seq (RW.sf 3 rfl ?_))));obtain ⟨y7,ey7,h5⟩:=A2 h3
  refine RW.cutq (σ:=Unit) (fun y3=>[]) (fun y3=>[]) (fun y=>y7=.inr y) gg ?_ ?_
  ·refine RW.blk ?_
   refine RW.iter (σ:=Int) ey7 (fun s2=>[(0,.str x0),(9,.j (x0.length:Int)),(10,.j s2)]) (fun s2=>[]) (Gh.y0 []) (fun s2 B o hS4 hB4 hE4=>?_)
   unfold W8 at hS4;refine RW.sreg ?_
   refine rl.gen rfl rfl fun b hb=>?_
   cases b
   ·have h6:=A5 hS4 hb;refine rl.done (RW.seq (RW.cond_f rfl (RW.exit (C9 ?_))));cases h6
    exact ⟨_,(hE4 _ rfl).symm,(Gh.y0 [])⟩
   ·have h7:=A4 hS4 hb;refine rl.done (RW.seq (RW.cond_t rfl (RW.skip (RW.seq (RW.blk (RW.sf 2 rfl (RW.seq ?_)))))));obtain ⟨y4,ey4,h8⟩:=A2 h7
    refine RW.cutq (σ:=Bool) (fun y4=>[(0,.str x0),(9,.j (x0.length:Int)),(10,.j s2),(22,.bool y4)]) (fun y4=>[]) (fun y=>y4=y) gg ?_ ?_
    ·refine RW.reg ?_;refine rl.run 2 rfl ?_;obtain ⟨v5,e5,h9⟩:=A2 ey4;refine rl.op (La rfl rfl e5) ?_
     refine rl.gen rfl rfl fun b hb=>?_
     cases b
     ·have h10:=A5 h9 hb;refine rl.run 3 rfl ?_;obtain ⟨v6,e6,h11⟩:=A2 h10;refine rl.gop rfl (La rfl rfl e6) ?_
      refine rl.gen rfl rfl fun b hb=>?_
      cases b
      ·have h12:=A5 h11 hb;refine rl.f 1 rfl ?_;cases h12
       exact ⟨_,rfl,(Gh.y0 [])⟩
      ·have h13:=A4 h11 hb;refine rl.f 1 rfl ?_;cases h13
       exact ⟨_,rfl,(Gh.y0 [])⟩
     ·have h14:=A4 h9 hb;refine rl.f 6 rfl ?_;cases h14
      exact ⟨_,rfl,(Gh.y0 [])⟩
    ·intro y hC
     subst hC
     cases hb:y4
     ·have h15:=A5 h8 hb;refine RW.cond_f rfl (RW.skip (RW.reg (rl.f 2 rfl ?_)));cases h15
      exact hB4 _ rfl _ _ (Gh.y0 [])
     ·have h16:=A4 h8 hb;refine RW.cond_t rfl (RW.sf 1 rfl (RW.ret ?_));cases h16;have h17:=elimL h5 (hE4 _ rfl);cases h17
      exact RRet.y
  ·intro y3 hC
   have h5:=elimR h5 hC;refine RW.sf 1 rfl (RW.ret ?_);cases h5
   exact RRet.y
theorem Hr {x0:TRec} {r:Bool} (hF:Bh x0=some r):B2 Tryz.prog 124 [.agg (D0 false x0)] (.bool r):=by
 refine B2.q A3j ?_;unfold Bh at hF;refine RW.sf 2 rfl (RW.seq (RW.sr 2 rfl ?_));obtain ⟨v1,e1,h1⟩:=A2 hF;refine rl.call rfl rfl rfl (A7.y (r':=.bool v1) (D3 e1) ?_)
 cases hb:v1
 ·have h2:=A5 h1 hb;refine rl.f 1 rfl (RW.cond_t rfl (RW.sf 1 rfl (RW.ret ?_)));cases h2
  exact RRet.y
 ·have h3:=A4 h1 hb;refine rl.f 1 rfl (RW.cond_f rfl (RW.skip (RW.sf 3 rfl (RW.sf 4 rfl (RW.sr 1 rfl ?_)))));refine rl.done (RW.seq (RW.seq ?_));obtain ⟨y2,ey2,h4⟩:=A2 h3
  refine RW.cutq (σ:=Bool) (fun y2=>[(1,.ptr 0 0),(3,.ptr 1 0),(4,.bool true),(24,.bool y2)]) (fun y2=>[some ⟨D0 false x0,0⟩,some ⟨[.j 0,.j 0,.j x0.Uid,.j x0.Next,.j x0.Flags,.str x0.User,.str x0.Name,.str x0.Text],0⟩]) (fun y=>y2=y) gg ?_ ?_
  ·refine RW.reg ?_;refine rl.run 2 rfl ?_
   refine rl.gen rfl rfl fun b hb=>?_
   cases b
   ·have h5:=A5 ey2 hb;refine rl.run 3 rfl ?_
    refine rl.gen rfl rfl fun b hb=>?_
    cases b
    ·have h6:=A5 h5 hb;refine rl.run 4 rfl ?_
     refine rl.gen rfl rfl fun b hb=>?_
     cases b
     ·have h7:=A5 h6 hb;refine rl.f 1 rfl ?_;cases h7
      exact ⟨_,rfl,(Gh.y0 [0,1])⟩
     ·have h8:=A4 h6 hb;refine rl.f 1 rfl ?_;cases h8
      exact ⟨_,rfl,(Gh.y0 [0,1])⟩
    ·have h9:=A4 h5 hb;refine rl.f 6 rfl ?_;cases h9
     exact ⟨_,rfl,(Gh.y0 [0,1])⟩
   ·have h10:=A4 ey2 hb;refine rl.f 10 rfl ?_;cases h10
    exact ⟨_,rfl,(Gh.y0 [0,1])⟩
  ·intro y hC
   subst hC;obtain ⟨y3,ey3,h11⟩:=A2 h4
   refine RW.cutq (σ:=Bool×Int) (fun y3=>[(1,.ptr 0 0),(3,.ptr 1 0),(4,.bool y3.1)]) (fun y3=>[some ⟨D0 false x0,0⟩,some ⟨[.j 0,.j 0,.j y3.2,.j x0.Next,.j x0.Flags,.str x0.User,.str x0.Name,.str x0.Text],0⟩]) (fun y=>y3=y) gg ?_ ?_
   ·cases hb:y2
    ·have h12:=A5 ey3 hb;refine RW.cond_f rfl (RW.skip ?_);cases h12
     exact ⟨_,rfl,(Gh.y0 [0,1])⟩
    ·have h13:=A4 ey3 hb;refine RW.cond_t rfl (RW.sr 2 rfl ?_);obtain ⟨v4,e4,h14⟩:=A2 h13;refine rl.call rfl rfl rfl (A7.y (r':=.bool v4) (D3 e4) ?_)
     cases hb:v4
     ·have h15:=A5 h14 hb;refine rl.f 1 rfl (RW.reg (rl.f 2 rfl ?_));cases h15
      exact ⟨_,rfl,(Gh.y0 [0,1])⟩
     ·have h16:=A4 h14 hb;refine rl.f 1 rfl (RW.reg (rl.f 2 rfl ?_));cases h16
      exact ⟨_,rfl,(Gh.y0 [0,1])⟩
   ·intro y hC
    subst hC;refine RW.seq (RW.seq ?_);obtain ⟨y5,ey5,h17⟩:=A2 h11
    refine RW.cutq (σ:=Bool) (fun y5=>[(1,.ptr 0 0),(3,.ptr 1 0),(4,.bool y3.1),(36,.bool y5)]) (fun y5=>[some ⟨D0 false x0,0⟩,some ⟨[.j 0,.j 0,.j y3.2,.j x0.Next,.j x0.Flags,.str x0.User,.str x0.Name,.str x0.Text],0⟩]) (fun y=>y5=y) gg ?_ ?_
    ·refine RW.reg ?_;refine rl.run 2 rfl ?_
     refine rl.gen rfl rfl fun b hb=>?_
     cases b
     ·have h18:=A5 ey5 hb;refine rl.run 3 rfl ?_
      refine rl.gen rfl rfl fun b hb=>?_
      cases b
      ·have h19:=A5 h18 hb;refine rl.f 1 rfl ?_;cases h19
       exact ⟨_,rfl,(Gh.y0 [0,1])⟩
      ·have h20:=A4 h18 hb;refine rl.f 1 rfl ?_;cases h20
       exact ⟨_,rfl,(Gh.y0 [0,1])⟩
     ·have h21:=A4 ey5 hb;refine rl.f 5 rfl ?_;cases h21
      exact ⟨_,rfl,(Gh.y0 [0,1])⟩
    ·intro y hC
     subst hC;obtain ⟨y6,ey6,h22⟩:=A2 h17
     refine RW.cutq (σ:=Bool×Int) (fun y6=>[(1,.ptr 0 0),(3,.ptr 1 0),(4,.bool y6.1)]) (fun y6=>[some ⟨D0 false x0,0⟩,some ⟨[.j 0,.j 0,.j y3.2,.j x0.Next,.j y6.2,.str x0.User,.str x0.Name,.str x0.Text],0⟩]) (fun y=>y6=y) gg ?_ ?_
     ·cases hb:y5
      ·have h23:=A5 ey6 hb;refine RW.cond_f rfl (RW.skip ?_);cases h23
       exact ⟨_,rfl,(Gh.y0 [0,1])⟩
      ·have h24:=A4 ey6 hb;refine RW.cond_t rfl (RW.seq ?_);obtain ⟨y7,ey7,h25⟩:=A2 h24
       refine RW.cutq (σ:=Bool) (fun y7=>[(1,.ptr 0 0),(3,.ptr 1 0),(4,.bool y7)]) (fun y7=>[some ⟨D0 false x0,0⟩,some ⟨[.j 0,.j 0,.j y3.2,.j x0.Next,.j x0.Flags,.str x0.User,.str x0.Name,.str x0.Text],0⟩]) (fun y=>y7=y) gg ?_ ?_
       ·refine RW.reg ?_;refine rl.run 2 rfl ?_
        cases hb:y3.1
        ·have h26:=A5 ey7 hb;refine rl.f 5 rfl ?_;cases h26
         exact ⟨_,rfl,(Gh.y0 [0,1])⟩
        ·have h27:=A4 ey7 hb;refine rl.run 2 rfl ?_;obtain ⟨v8,e8,h28⟩:=A2 h27;refine rl.call rfl rfl rfl (A7.y (r':=.bool v8) (D3 e8) ?_)
         cases hb:v8
         ·have h29:=A5 h28 hb;refine rl.f 2 rfl ?_;cases h29
          exact ⟨_,rfl,(Gh.y0 [0,1])⟩
         ·have h30:=A4 h28 hb;refine rl.f 2 rfl ?_;cases h30
          exact ⟨_,rfl,(Gh.y0 [0,1])⟩
       ·intro y hC
        subst hC;refine RW.reg (rl.f 2 rfl ?_);cases h25
        exact ⟨_,rfl,(Gh.y0 [0,1])⟩
     ·intro y hC
      subst hC;refine RW.seq (RW.sf 2 rfl ?_);obtain ⟨y9,ey9,h31⟩:=A2 h22
      refine RW.cutq (σ:=Bool×Int×(List UInt8)×(List UInt8)×(List UInt8)) (fun y9=>[(3,.ptr 0 0),(4,.bool y9.1)]) (fun y9=>[some ⟨[.j 0,.j 0,.j y3.2,.j y9.2.1,.j y6.2,.str y9.2.2.1,.str y9.2.2.2.1,.str y9.2.2.2.2],0⟩]) (fun y=>y9=.inr y) gg ?_ ?_
      ·refine RW.blk ?_;refine RW.sreg ?_
       refine rl.gen rfl rfl fun b hb=>?_
       cases b
       ·have h32:=A5 ey9 hb;refine rl.f 1 rfl (RW.cond_f rfl (RW.sreg ?_))
        refine rl.gen rfl rfl fun b hb=>?_
        cases b
        ·have h33:=A5 h32 hb;refine rl.f 1 rfl (RW.cond_f rfl (RW.seq (RW.sreg ?_)))
         refine rl.gen rfl rfl fun b hb=>?_
         cases b
         ·have h34:=A5 h33 hb;refine rl.f 1 rfl (RW.cond_f rfl (RW.sreg ?_))
          refine rl.gen rfl rfl fun b hb=>?_
          cases b
          ·have h35:=A5 h34 hb;refine rl.f 1 rfl (RW.cond_f rfl (RW.reg ?_))
           refine rl.gen rfl rfl fun b hb=>?_
           cases b
           ·have h36:=A5 h35 hb;refine rl.f 1 rfl (RW.cond_f rfl (RW.sf 1 rfl ?_));refine RW.kp [2] [(2,.bool false)] [some ⟨D0 false x0,0⟩,some ⟨[.j 0,.j 0,.j y3.2,.j x0.Next,.j y6.2,.str x0.User,.str x0.Name,.str x0.Text],0⟩] rfl rfl ?_;refine RW.ret ?_;cases h36;have h37:=elimL h31 rfl;cases h37
            exact RRet.y
           ·have h38:=A4 h35 hb;refine rl.f 1 rfl (RW.cond_t rfl (RW.skip ?_));cases h38
            exact ⟨_,rfl,(Gh.y0 [1])⟩
          ·have h39:=A4 h34 hb;refine rl.f 1 rfl (RW.cond_t rfl (RW.skip (RW.cond_t rfl (RW.skip ?_))));cases h39
           exact ⟨_,rfl,(Gh.y0 [1])⟩
         ·have h40:=A4 h33 hb;refine rl.f 1 rfl (RW.cond_t rfl (RW.skip (RW.cond_t rfl (RW.skip ?_))));cases h40
          exact ⟨_,rfl,(Gh.y0 [1])⟩
        ·have h41:=A4 h32 hb;refine rl.f 1 rfl (RW.cond_t rfl (RW.seq ?_));obtain ⟨y10,ey10,h42⟩:=A2 h41
         refine RW.cutq (σ:=Bool) (fun y10=>[(3,.ptr 0 0),(4,.bool y10)]) (fun y10=>[some ⟨[.j 0,.j 0,.j y3.2,.j x0.Next,.j y6.2,.str x0.User,.str x0.Name,.str x0.Text],0⟩]) (fun y=>y10=y) gg ?_ ?_
         ·refine RW.reg ?_;refine rl.run 2 rfl ?_
          cases hb:y6.1
          ·have h43:=A5 ey10 hb;refine rl.f 6 rfl ?_;cases h43
           exact ⟨_,rfl,(Gh.y0 [1])⟩
          ·have h44:=A4 ey10 hb;refine rl.run 3 rfl ?_
           refine rl.gen rfl rfl fun b hb=>?_
           cases b
           ·have h45:=A5 h44 hb;refine rl.f 2 rfl ?_;cases h45
            exact ⟨_,rfl,(Gh.y0 [1])⟩
           ·have h46:=A4 h44 hb;refine rl.f 2 rfl ?_;cases h46
            exact ⟨_,rfl,(Gh.y0 [1])⟩
         ·intro y hC
          subst hC;refine RW.reg (rl.f 2 rfl ?_);cases h42
          exact ⟨_,rfl,(Gh.y0 [0])⟩
       ·have h47:=A4 ey9 hb;refine rl.f 1 rfl (RW.cond_t rfl (RW.seq ?_));obtain ⟨y11,ey11,h48⟩:=A2 h47
        refine RW.cutq (σ:=Bool) (fun y11=>[(3,.ptr 0 0),(4,.bool y11)]) (fun y11=>[some ⟨[.j 0,.j 0,.j y3.2,.j x0.Next,.j y6.2,.str x0.User,.str x0.Name,.str x0.Text],0⟩]) (fun y=>y11=y) gg ?_ ?_
        ·refine RW.reg ?_;refine rl.run 2 rfl ?_;obtain ⟨v12,e12,h49⟩:=A2 ey11;refine rl.call rfl rfl rfl (A7.y (r':=.bool v12) (Kz e12) ?_)
         cases hb:v12
         ·have h50:=A5 h49 hb;refine rl.f 11 rfl ?_;cases h50
          exact ⟨_,rfl,(Gh.y0 [1])⟩
         ·have h51:=A4 h49 hb;refine rl.run 3 rfl ?_;obtain ⟨v13,e13,h52⟩:=A2 h51;refine rl.call rfl rfl rfl (A7.y (r':=.bool v13) (Kz e13) ?_)
          cases hb:v13
          ·have h53:=A5 h52 hb;refine rl.f 7 rfl ?_;cases h53
           exact ⟨_,rfl,(Gh.y0 [1])⟩
          ·have h54:=A4 h52 hb;refine rl.run 4 rfl ?_;obtain ⟨v14,e14,h55⟩:=A2 h54;refine rl.call rfl rfl rfl (A7.y (r':=.bool v14) (D3 e14) ?_)
           cases hb:v14
           ·have h56:=A5 h55 hb;refine rl.f 2 rfl ?_;cases h56
            exact ⟨_,rfl,(Gh.y0 [1])⟩
           ·have h57:=A4 h55 hb;refine rl.f 2 rfl ?_;cases h57
            exact ⟨_,rfl,(Gh.y0 [1])⟩
        ·intro y hC
         subst hC;refine RW.reg (rl.f 6 rfl ?_);cases h48
         exact ⟨_,rfl,(Gh.y0 [0])⟩
      ·intro y9_ hC
       have h31:=elimR h31 hC;refine RW.sr 2 rfl ?_
       cases hb:y9_.1
       ·have h58:=A5 h31 hb;refine rl.f 5 rfl (RW.ret ?_);cases h58
        exact RRet.y
       ·have h59:=A4 h31 hb;refine rl.f 5 rfl (RW.ret ?_);cases h59
        exact RRet.y
theorem Vj {x0:List UInt8} {r:TRec×Bool} (hF:Q6 x0=some r):B2 Tryz.prog 135 [.str x0] (.tup [.agg (D0 true r.1),.bool r.2]):=by
 refine B2.q Zs ?_;unfold Q6 at hF;refine RW.sf 2 rfl (RW.seq (RW.sr 1 rfl ?_))
 refine rl.gen rfl rfl fun b hb=>?_
 cases b
 ·have h1:=A5 hF hb;refine rl.done (RW.cond_f rfl (RW.skip (RW.sr 1 rfl ?_)));obtain ⟨v1,e1,h2⟩:=A2 h1;refine rl.op (La rfl rfl e1) ?_;refine rl.f 4 rfl (RW.sf 1 rfl (RW.seq (RW.sf 7 rfl (RW.blk ?_))));refine RW.loopIn ?_;refine RWIn.round ?_;refine RW.sf 1 rfl ?_;refine RW.kp [0,2,4,5,27,28,29,30] [(0,.str x0),(2,.ptr 0 0),(4,.ptr 1 0),(5,.j 1),(27,.sl 2 0 4),(28,.j 4),(29,.j 0),(30,.bool true)] [some ⟨[.j 0,.j 0,.j 0,.j 0,.j 0,.str [],.str [],.str []],0⟩,some ⟨[.j (w64 (v1.toNat:Int)),.j 0,.j 0,.j 0,.j 0,.str [],.str [],.str []],0⟩,some ⟨[.ptr 1 1,.ptr 1 2,.ptr 1 3,.ptr 1 4],1⟩] rfl rfl ?_;refine RW.seq (RW.cond_t rfl (RW.skip (RW.seq (RW.blk (RW.sf 3 rfl (RW.sr 2 rfl ?_))))));obtain ⟨v2,e2,h3⟩:=A2 h2;refine rl.call rfl rfl rfl (A7.y (r':=.tup [.j v2.1,.j v2.2.1,.bool v2.2.2]) (P6 e2) ?_);refine rl.f 7 rfl ?_;refine RW.kp [0,2,4,7,8,9,10,27,28,29] [(0,.str x0),(2,.ptr 0 0),(4,.ptr 1 0),(7,.ptr 1 1),(8,.j v2.1),(9,.j v2.2.1),(10,.bool v2.2.2),(27,.sl 2 0 4),(28,.j 4),(29,.j 0)] [some ⟨[.j 0,.j 0,.j 0,.j 0,.j 0,.str [],.str [],.str []],0⟩,some ⟨[.j (w64 (v1.toNat:Int)),.j 0,.j 0,.j 0,.j 0,.str [],.str [],.str []],0⟩,some ⟨[.ptr 1 1,.ptr 1 2,.ptr 1 3,.ptr 1 4],1⟩] rfl rfl ?_;refine RW.seq (RW.sf 2 rfl ?_)
  cases hb:(!v2.2.2)
  ·have h4:=A5 h3 hb;refine RW.cond_f rfl (RW.skip (RW.sf 4 rfl ?_));refine RW.kp [0,2,4,9,27,28,29] [(0,.str x0),(2,.ptr 0 0),(4,.ptr 1 0),(9,.j v2.2.1),(27,.sl 2 0 4),(28,.j 4),(29,.j 0)] [some ⟨[.j 0,.j 0,.j 0,.j 0,.j 0,.str [],.str [],.str []],0⟩,some ⟨[.j (w64 (v1.toNat:Int)),.j v2.1,.j 0,.j 0,.j 0,.str [],.str [],.str []],0⟩,some ⟨[.ptr 1 1,.ptr 1 2,.ptr 1 3,.ptr 1 4],1⟩] rfl rfl ?_;refine RW.reg (rl.f 2 rfl (RW.reg (rl.f 2 rfl ?_)));refine RWIn.round ?_;refine RW.sf 1 rfl (RW.seq (RW.cond_t rfl (RW.skip (RW.seq (RW.blk (RW.sf 3 rfl ?_))))));refine RW.kp [0,2,4,5,7,27,28,29] [(0,.str x0),(2,.ptr 0 0),(4,.ptr 1 0),(5,.j v2.2.1),(7,.ptr 1 2),(27,.sl 2 0 4),(28,.j 4),(29,.j 1)] [some ⟨[.j 0,.j 0,.j 0,.j 0,.j 0,.str [],.str [],.str []],0⟩,some ⟨[.j (w64 (v1.toNat:Int)),.j v2.1,.j 0,.j 0,.j 0,.str [],.str [],.str []],0⟩,some ⟨[.ptr 1 1,.ptr 1 2,.ptr 1 3,.ptr 1 4],1⟩] rfl rfl ?_;refine RW.sr 2 rfl ?_;obtain ⟨v3,e3,h5⟩:=A2 h4;refine rl.call rfl rfl rfl (A7.y (r':=.tup [.j v3.1,.j v3.2.1,.bool v3.2.2]) (P6 e3) ?_);refine rl.f 7 rfl ?_;refine RW.kp [0,2,4,7,8,9,10,27,28,29] [(0,.str x0),(2,.ptr 0 0),(4,.ptr 1 0),(7,.ptr 1 2),(8,.j v3.1),(9,.j v3.2.1),(10,.bool v3.2.2),(27,.sl 2 0 4),(28,.j 4),(29,.j 1)] [some ⟨[.j 0,.j 0,.j 0,.j 0,.j 0,.str [],.str [],.str []],0⟩,some ⟨[.j (w64 (v1.toNat:Int)),.j v2.1,.j 0,.j 0,.j 0,.str [],.str [],.str []],0⟩,some ⟨[.ptr 1 1,.ptr 1 2,.ptr 1 3,.ptr 1 4],1⟩] rfl rfl ?_;refine RW.seq (RW.sf 2 rfl ?_)
   cases hb:(!v3.2.2)
   ·have h6:=A5 h5 hb;refine RW.cond_f rfl (RW.skip (RW.sf 4 rfl ?_));refine RW.kp [0,2,4,9,27,28,29] [(0,.str x0),(2,.ptr 0 0),(4,.ptr 1 0),(9,.j v3.2.1),(27,.sl 2 0 4),(28,.j 4),(29,.j 1)] [some ⟨[.j 0,.j 0,.j 0,.j 0,.j 0,.str [],.str [],.str []],0⟩,some ⟨[.j (w64 (v1.toNat:Int)),.j v2.1,.j v3.1,.j 0,.j 0,.str [],.str [],.str []],0⟩,some ⟨[.ptr 1 1,.ptr 1 2,.ptr 1 3,.ptr 1 4],1⟩] rfl rfl ?_;refine RW.reg (rl.f 2 rfl (RW.reg (rl.f 2 rfl ?_)));refine RWIn.round ?_;refine RW.sf 1 rfl (RW.seq (RW.cond_t rfl (RW.skip (RW.seq (RW.blk (RW.sf 3 rfl ?_))))));refine RW.kp [0,2,4,5,7,27,28,29] [(0,.str x0),(2,.ptr 0 0),(4,.ptr 1 0),(5,.j v3.2.1),(7,.ptr 1 3),(27,.sl 2 0 4),(28,.j 4),(29,.j 2)] [some ⟨[.j 0,.j 0,.j 0,.j 0,.j 0,.str [],.str [],.str []],0⟩,some ⟨[.j (w64 (v1.toNat:Int)),.j v2.1,.j v3.1,.j 0,.j 0,.str [],.str [],.str []],0⟩,some ⟨[.ptr 1 1,.ptr 1 2,.ptr 1 3,.ptr 1 4],1⟩] rfl rfl ?_;refine RW.sr 2 rfl ?_;obtain ⟨v4,e4,h7⟩:=A2 h6;refine rl.call rfl rfl rfl (A7.y (r':=.tup [.j v4.1,.j v4.2.1,.bool v4.2.2]) (P6 e4) ?_);refine rl.f 7 rfl ?_;refine RW.kp [0,2,4,7,8,9,10,27,28,29] [(0,.str x0),(2,.ptr 0 0),(4,.ptr 1 0),(7,.ptr 1 3),(8,.j v4.1),(9,.j v4.2.1),(10,.bool v4.2.2),(27,.sl 2 0 4),(28,.j 4),(29,.j 2)] [some ⟨[.j 0,.j 0,.j 0,.j 0,.j 0,.str [],.str [],.str []],0⟩,some ⟨[.j (w64 (v1.toNat:Int)),.j v2.1,.j v3.1,.j 0,.j 0,.str [],.str [],.str []],0⟩,some ⟨[.ptr 1 1,.ptr 1 2,.ptr 1 3,.ptr 1 4],1⟩] rfl rfl ?_;refine RW.seq (RW.sf 2 rfl ?_)
    cases hb:(!v4.2.2)
    ·have h8:=A5 h7 hb;refine RW.cond_f rfl (RW.skip (RW.sf 4 rfl ?_));refine RW.kp [0,2,4,9,27,28,29] [(0,.str x0),(2,.ptr 0 0),(4,.ptr 1 0),(9,.j v4.2.1),(27,.sl 2 0 4),(28,.j 4),(29,.j 2)] [some ⟨[.j 0,.j 0,.j 0,.j 0,.j 0,.str [],.str [],.str []],0⟩,some ⟨[.j (w64 (v1.toNat:Int)),.j v2.1,.j v3.1,.j v4.1,.j 0,.str [],.str [],.str []],0⟩,some ⟨[.ptr 1 1,.ptr 1 2,.ptr 1 3,.ptr 1 4],1⟩] rfl rfl ?_;refine RW.reg (rl.f 2 rfl (RW.reg (rl.f 2 rfl ?_)));refine RWIn.round ?_;refine RW.sf 1 rfl (RW.seq (RW.cond_t rfl (RW.skip (RW.seq (RW.blk (RW.sf 3 rfl ?_))))));refine RW.kp [0,2,4,5,7,27,28,29] [(0,.str x0),(2,.ptr 0 0),(4,.ptr 1 0),(5,.j v4.2.1),(7,.ptr 1 4),(27,.sl 2 0 4),(28,.j 4),(29,.j 3)] [some ⟨[.j 0,.j 0,.j 0,.j 0,.j 0,.str [],.str [],.str []],0⟩,some ⟨[.j (w64 (v1.toNat:Int)),.j v2.1,.j v3.1,.j v4.1,.j 0,.str [],.str [],.str []],0⟩,some ⟨[.ptr 1 1,.ptr 1 2,.ptr 1 3,.ptr 1 4],1⟩] rfl rfl ?_;refine RW.sr 2 rfl ?_;obtain ⟨v5,e5,h9⟩:=A2 h8;refine rl.call rfl rfl rfl (A7.y (r':=.tup [.j v5.1,.j v5.2.1,.bool v5.2.2]) (P6 e5) ?_);refine rl.f 7 rfl ?_;refine RW.kp [0,2,4,7,8,9,10,27,28,29] [(0,.str x0),(2,.ptr 0 0),(4,.ptr 1 0),(7,.ptr 1 4),(8,.j v5.1),(9,.j v5.2.1),(10,.bool v5.2.2),(27,.sl 2 0 4),(28,.j 4),(29,.j 3)] [some ⟨[.j 0,.j 0,.j 0,.j 0,.j 0,.str [],.str [],.str []],0⟩,some ⟨[.j (w64 (v1.toNat:Int)),.j v2.1,.j v3.1,.j v4.1,.j 0,.str [],.str [],.str []],0⟩,some ⟨[.ptr 1 1,.ptr 1 2,.ptr 1 3,.ptr 1 4],1⟩] rfl rfl ?_;refine RW.seq (RW.sf 2 rfl ?_)
     cases hb:(!v5.2.2)
     ·have h10:=A5 h9 hb;refine RW.cond_f rfl (RW.skip (RW.sf 4 rfl ?_));refine RW.kp [0,2,4,9,27,28,29] [(0,.str x0),(2,.ptr 0 0),(4,.ptr 1 0),(9,.j v5.2.1),(27,.sl 2 0 4),(28,.j 4),(29,.j 3)] [some ⟨[.j 0,.j 0,.j 0,.j 0,.j 0,.str [],.str [],.str []],0⟩,some ⟨[.j (w64 (v1.toNat:Int)),.j v2.1,.j v3.1,.j v4.1,.j v5.1,.str [],.str [],.str []],0⟩,some ⟨[.ptr 1 1,.ptr 1 2,.ptr 1 3,.ptr 1 4],1⟩] rfl rfl ?_;refine RW.reg (rl.f 2 rfl (RW.reg (rl.f 2 rfl ?_)));refine RWIn.round ?_;refine RW.sf 1 rfl (RW.seq (RW.cond_f rfl (RW.exit (C9 (RW.seq (RW.sf 6 rfl ?_))))));refine RW.kp [0,2,4,5,51,52,53] [(0,.str x0),(2,.ptr 0 0),(4,.ptr 1 0),(5,.j v5.2.1),(51,.sl 3 0 3),(52,.j 3),(53,.j 0)] [some ⟨[.j 0,.j 0,.j 0,.j 0,.j 0,.str [],.str [],.str []],0⟩,some ⟨[.j (w64 (v1.toNat:Int)),.j v2.1,.j v3.1,.j v4.1,.j v5.1,.str [],.str [],.str []],0⟩,some ⟨[.ptr 1 1,.ptr 1 2,.ptr 1 3,.ptr 1 4],1⟩,some ⟨[.ptr 1 5,.ptr 1 6,.ptr 1 7],1⟩] rfl rfl ?_;refine RW.blk ?_;refine RW.loopIn ?_;refine RWIn.round ?_;refine RW.sf 1 rfl (RW.seq (RW.cond_t rfl (RW.skip (RW.seq (RW.blk (RW.sf 3 rfl (RW.sreg ?_)))))));refine rl.run 2 rfl ?_;obtain ⟨v6,e6,h11⟩:=A2 h10;refine rl.call rfl rfl rfl (A7.y (r':=.tup [.str v6.1,.j v6.2.1,.bool v6.2.2]) (Bb e6) ?_);refine rl.f 7 rfl ?_;refine RW.kp [0,2,4,12,13,14,15,51,52,53] [(0,.str x0),(2,.ptr 0 0),(4,.ptr 1 0),(12,.ptr 1 5),(13,.str v6.1),(14,.j v6.2.1),(15,.bool v6.2.2),(51,.sl 3 0 3),(52,.j 3),(53,.j 0)] [some ⟨[.j 0,.j 0,.j 0,.j 0,.j 0,.str [],.str [],.str []],0⟩,some ⟨[.j (w64 (v1.toNat:Int)),.j v2.1,.j v3.1,.j v4.1,.j v5.1,.str [],.str [],.str []],0⟩,some ⟨[.ptr 1 1,.ptr 1 2,.ptr 1 3,.ptr 1 4],1⟩,some ⟨[.ptr 1 5,.ptr 1 6,.ptr 1 7],1⟩] rfl rfl ?_;refine RW.seq (RW.sf 2 rfl ?_)
      cases hb:(!v6.2.2)
      ·have h12:=A5 h11 hb;refine RW.cond_f rfl (RW.skip (RW.sf 4 rfl ?_));refine RW.kp [0,2,4,14,51,52,53] [(0,.str x0),(2,.ptr 0 0),(4,.ptr 1 0),(14,.j v6.2.1),(51,.sl 3 0 3),(52,.j 3),(53,.j 0)] [some ⟨[.j 0,.j 0,.j 0,.j 0,.j 0,.str [],.str [],.str []],0⟩,some ⟨[.j (w64 (v1.toNat:Int)),.j v2.1,.j v3.1,.j v4.1,.j v5.1,.str v6.1,.str [],.str []],0⟩,some ⟨[.ptr 1 1,.ptr 1 2,.ptr 1 3,.ptr 1 4],1⟩,some ⟨[.ptr 1 5,.ptr 1 6,.ptr 1 7],1⟩] rfl rfl ?_;refine RW.reg (rl.f 2 rfl (RW.reg (rl.f 2 rfl ?_)));refine RWIn.round ?_;refine RW.sf 1 rfl (RW.seq (RW.cond_t rfl (RW.skip (RW.seq (RW.blk (RW.sf 3 rfl ?_))))));refine RW.kp [0,2,4,5,12,51,52,53] [(0,.str x0),(2,.ptr 0 0),(4,.ptr 1 0),(5,.j v6.2.1),(12,.ptr 1 6),(51,.sl 3 0 3),(52,.j 3),(53,.j 1)] [some ⟨[.j 0,.j 0,.j 0,.j 0,.j 0,.str [],.str [],.str []],0⟩,some ⟨[.j (w64 (v1.toNat:Int)),.j v2.1,.j v3.1,.j v4.1,.j v5.1,.str v6.1,.str [],.str []],0⟩,some ⟨[.ptr 1 1,.ptr 1 2,.ptr 1 3,.ptr 1 4],1⟩,some ⟨[.ptr 1 5,.ptr 1 6,.ptr 1 7],1⟩] rfl rfl ?_;refine RW.sr 2 rfl ?_;obtain ⟨v7,e7,h13⟩:=A2 h12;refine rl.call rfl rfl rfl (A7.y (r':=.tup [.str v7.1,.j v7.2.1,.bool v7.2.2]) (Bb e7) ?_);refine rl.f 7 rfl ?_;refine RW.kp [0,2,4,12,13,14,15,51,52,53] [(0,.str x0),(2,.ptr 0 0),(4,.ptr 1 0),(12,.ptr 1 6),(13,.str v7.1),(14,.j v7.2.1),(15,.bool v7.2.2),(51,.sl 3 0 3),(52,.j 3),(53,.j 1)] [some ⟨[.j 0,.j 0,.j 0,.j 0,.j 0,.str [],.str [],.str []],0⟩,some ⟨[.j (w64 (v1.toNat:Int)),.j v2.1,.j v3.1,.j v4.1,.j v5.1,.str v6.1,.str [],.str []],0⟩,some ⟨[.ptr 1 1,.ptr 1 2,.ptr 1 3,.ptr 1 4],1⟩,some ⟨[.ptr 1 5,.ptr 1 6,.ptr 1 7],1⟩] rfl rfl ?_;refine RW.seq (RW.sf 2 rfl ?_)
       cases hb:(!v7.2.2)
       ·have h14:=A5 h13 hb;refine RW.cond_f rfl (RW.skip (RW.sf 4 rfl ?_));refine RW.kp [0,2,4,14,51,52,53] [(0,.str x0),(2,.ptr 0 0),(4,.ptr 1 0),(14,.j v7.2.1),(51,.sl 3 0 3),(52,.j 3),(53,.j 1)] [some ⟨[.j 0,.j 0,.j 0,.j 0,.j 0,.str [],.str [],.str []],0⟩,some ⟨[.j (w64 (v1.toNat:Int)),.j v2.1,.j v3.1,.j v4.1,.j v5.1,.str v6.1,.str v7.1,.str []],0⟩,some ⟨[.ptr 1 1,.ptr 1 2,.ptr 1 3,.ptr 1 4],1⟩,some ⟨[.ptr 1 5,.ptr 1 6,.ptr 1 7],1⟩] rfl rfl ?_;refine RW.reg (rl.f 2 rfl (RW.reg (rl.f 2 rfl ?_)));refine RWIn.round ?_;refine RW.sf 1 rfl (RW.seq (RW.cond_t rfl (RW.skip (RW.seq (RW.blk (RW.sf 3 rfl ?_))))));refine RW.kp [0,2,4,5,12,51,52,53] [(0,.str x0),(2,.ptr 0 0),(4,.ptr 1 0),(5,.j v7.2.1),(12,.ptr 1 7),(51,.sl 3 0 3),(52,.j 3),(53,.j 2)] [some ⟨[.j 0,.j 0,.j 0,.j 0,.j 0,.str [],.str [],.str []],0⟩,some ⟨[.j (w64 (v1.toNat:Int)),.j v2.1,.j v3.1,.j v4.1,.j v5.1,.str v6.1,.str v7.1,.str []],0⟩,some ⟨[.ptr 1 1,.ptr 1 2,.ptr 1 3,.ptr 1 4],1⟩,some ⟨[.ptr 1 5,.ptr 1 6,.ptr 1 7],1⟩] rfl rfl ?_;refine RW.sr 2 rfl ?_;obtain ⟨v8,e8,h15⟩:=A2 h14;refine rl.call rfl rfl rfl (A7.y (r':=.tup [.str v8.1,.j v8.2.1,.bool v8.2.2]) (Bb e8) ?_);refine rl.f 7 rfl ?_;refine RW.kp [0,2,4,12,13,14,15,51,52,53] [(0,.str x0),(2,.ptr 0 0),(4,.ptr 1 0),(12,.ptr 1 7),(13,.str v8.1),(14,.j v8.2.1),(15,.bool v8.2.2),(51,.sl 3 0 3),(52,.j 3),(53,.j 2)] [some ⟨[.j 0,.j 0,.j 0,.j 0,.j 0,.str [],.str [],.str []],0⟩,some ⟨[.j (w64 (v1.toNat:Int)),.j v2.1,.j v3.1,.j v4.1,.j v5.1,.str v6.1,.str v7.1,.str []],0⟩,some ⟨[.ptr 1 1,.ptr 1 2,.ptr 1 3,.ptr 1 4],1⟩,some ⟨[.ptr 1 5,.ptr 1 6,.ptr 1 7],1⟩] rfl rfl ?_;refine RW.seq (RW.sf 2 rfl ?_)
        cases hb:(!v8.2.2)
        ·have h16:=A5 h15 hb;refine RW.cond_f rfl (RW.skip (RW.sf 4 rfl ?_));refine RW.kp [0,2,4,14,51,52,53] [(0,.str x0),(2,.ptr 0 0),(4,.ptr 1 0),(14,.j v8.2.1),(51,.sl 3 0 3),(52,.j 3),(53,.j 2)] [some ⟨[.j 0,.j 0,.j 0,.j 0,.j 0,.str [],.str [],.str []],0⟩,some ⟨[.j (w64 (v1.toNat:Int)),.j v2.1,.j v3.1,.j v4.1,.j v5.1,.str v6.1,.str v7.1,.str v8.1],0⟩,some ⟨[.ptr 1 1,.ptr 1 2,.ptr 1 3,.ptr 1 4],1⟩,some ⟨[.ptr 1 5,.ptr 1 6,.ptr 1 7],1⟩] rfl rfl ?_;refine RW.reg (rl.f 2 rfl (RW.reg (rl.f 2 rfl ?_)));refine RWIn.round ?_;refine RW.sf 1 rfl (RW.seq (RW.cond_f rfl (RW.exit (C9 (RW.seq (RW.seq ?_))))));obtain ⟨y9,ey9,h17⟩:=A2 h16
         refine RW.cutq (σ:=Bool) (fun y9=>[(2,.ptr 0 0),(4,.ptr 1 0),(80,.bool y9)]) (fun y9=>[some ⟨[.j 0,.j 0,.j 0,.j 0,.j 0,.str [],.str [],.str []],0⟩,some ⟨[.j (w64 (v1.toNat:Int)),.j v2.1,.j v3.1,.j v4.1,.j v5.1,.str v6.1,.str v7.1,.str v8.1],0⟩]) (fun y=>y9=y) gg ?_ ?_
         ·refine RW.reg ?_;refine rl.run 3 rfl ?_
          refine rl.gen rfl rfl fun b hb=>?_
          cases b
          ·have h18:=A5 ey9 hb;refine rl.run 2 rfl ?_;obtain ⟨v10,e10,h19⟩:=A2 h18;refine rl.call rfl rfl rfl (A7.y (r':=.bool v10) (Hr e10) ?_)
           cases hb:v10
           ·have h20:=A5 h19 hb;refine rl.f 2 rfl ?_;cases h20
            exact ⟨_,rfl,(Gh.y0 [0,1])⟩
           ·have h21:=A4 h19 hb;refine rl.f 2 rfl ?_;cases h21
            exact ⟨_,rfl,(Gh.y0 [0,1])⟩
          ·have h22:=A4 ey9 hb;refine rl.f 5 rfl ?_;cases h22
           exact ⟨_,rfl,(Gh.y0 [0,1])⟩
         ·intro y hC
          subst hC
          cases hb:y9
          ·have h23:=A5 h17 hb;refine RW.cond_f rfl (RW.skip (RW.sf 3 rfl (RW.ret ?_)));cases h23
           exact RRet.y
          ·have h24:=A4 h17 hb;refine RW.cond_t rfl (RW.sf 3 rfl (RW.ret ?_));cases h24
           exact RRet.y
        ·have h25:=A4 h15 hb;refine RW.cond_t rfl (RW.sf 3 rfl ?_);refine RW.kp [2,3] [(2,.ptr 0 0),(3,.bool false)] [some ⟨[.j 0,.j 0,.j 0,.j 0,.j 0,.str [],.str [],.str []],0⟩,some ⟨[.j (w64 (v1.toNat:Int)),.j v2.1,.j v3.1,.j v4.1,.j v5.1,.str v6.1,.str v7.1,.str []],0⟩,some ⟨[.ptr 1 1,.ptr 1 2,.ptr 1 3,.ptr 1 4],1⟩,some ⟨[.ptr 1 5,.ptr 1 6,.ptr 1 7],1⟩] rfl rfl ?_;refine RW.ret ?_;cases h25
         exact RRet.y
       ·have h26:=A4 h13 hb;refine RW.cond_t rfl (RW.sf 3 rfl ?_);refine RW.kp [2,3] [(2,.ptr 0 0),(3,.bool false)] [some ⟨[.j 0,.j 0,.j 0,.j 0,.j 0,.str [],.str [],.str []],0⟩,some ⟨[.j (w64 (v1.toNat:Int)),.j v2.1,.j v3.1,.j v4.1,.j v5.1,.str v6.1,.str [],.str []],0⟩,some ⟨[.ptr 1 1,.ptr 1 2,.ptr 1 3,.ptr 1 4],1⟩,some ⟨[.ptr 1 5,.ptr 1 6,.ptr 1 7],1⟩] rfl rfl ?_;refine RW.ret ?_;cases h26
        exact RRet.y
      ·have h27:=A4 h11 hb;refine RW.cond_t rfl (RW.sf 3 rfl ?_);refine RW.kp [2,3] [(2,.ptr 0 0),(3,.bool false)] [some ⟨[.j 0,.j 0,.j 0,.j 0,.j 0,.str [],.str [],.str []],0⟩,some ⟨[.j (w64 (v1.toNat:Int)),.j v2.1,.j v3.1,.j v4.1,.j v5.1,.str [],.str [],.str []],0⟩,some ⟨[.ptr 1 1,.ptr 1 2,.ptr 1 3,.ptr 1 4],1⟩,some ⟨[.ptr 1 5,.ptr 1 6,.ptr 1 7],1⟩] rfl rfl ?_;refine RW.ret ?_;cases h27
       exact RRet.y
     ·have h28:=A4 h9 hb;refine RW.cond_t rfl (RW.sf 3 rfl ?_);refine RW.kp [2,3] [(2,.ptr 0 0),(3,.bool false)] [some ⟨[.j 0,.j 0,.j 0,.j 0,.j 0,.str [],.str [],.str []],0⟩,some ⟨[.j (w64 (v1.toNat:Int)),.j v2.1,.j v3.1,.j v4.1,.j 0,.str [],.str [],.str []],0⟩,some ⟨[.ptr 1 1,.ptr 1 2,.ptr 1 3,.ptr 1 4],1⟩] rfl rfl ?_;refine RW.ret ?_;cases h28
      exact RRet.y
    ·have h29:=A4 h7 hb;refine RW.cond_t rfl (RW.sf 3 rfl ?_);refine RW.kp [2,3] [(2,.ptr 0 0),(3,.bool false)] [some ⟨[.j 0,.j 0,.j 0,.j 0,.j 0,.str [],.str [],.str []],0⟩,some ⟨[.j (w64 (v1.toNat:Int)),.j v2.1,.j v3.1,.j 0,.j 0,.str [],.str [],.str []],0⟩,some ⟨[.ptr 1 1,.ptr 1 2,.ptr 1 3,.ptr 1 4],1⟩] rfl rfl ?_;refine RW.ret ?_;cases h29
     exact RRet.y
   ·have h30:=A4 h5 hb;refine RW.cond_t rfl (RW.sf 3 rfl ?_);refine RW.kp [2,3] [(2,.ptr 0 0),(3,.bool false)] [some ⟨[.j 0,.j 0,.j 0,.j 0,.j 0,.str [],.str [],.str []],0⟩,some ⟨[.j (w64 (v1.toNat:Int)),.j v2.1,.j 0,.j 0,.j 0,.str [],.str [],.str []],0⟩,some ⟨[.ptr 1 1,.ptr 1 2,.ptr 1 3,.ptr 1 4],1⟩] rfl rfl ?_;refine RW.ret ?_;cases h30
    exact RRet.y
  ·have h31:=A4 h3 hb;refine RW.cond_t rfl (RW.sf 3 rfl ?_);refine RW.kp [2,3] [(2,.ptr 0 0),(3,.bool false)] [some ⟨[.j 0,.j 0,.j 0,.j 0,.j 0,.str [],.str [],.str []],0⟩,some ⟨[.j (w64 (v1.toNat:Int)),.j 0,.j 0,.j 0,.j 0,.str [],.str [],.str []],0⟩,some ⟨[.ptr 1 1,.ptr 1 2,.ptr 1 3,.ptr 1 4],1⟩] rfl rfl ?_;refine RW.ret ?_;cases h31
   exact RRet.y
 ·have h32:=A4 hF hb;refine rl.done (RW.cond_t rfl (RW.sf 3 rfl (RW.ret ?_)));cases h32
  exact RRet.y
theorem Qd {x0:TFrame} {r:TItem×Bool} (hF:Ae x0=some r):B2 Tryz.prog 72 [.agg (B5 false x0)] (.tup [.agg (A8 true r.1),.bool r.2]):=by
 refine B2.q Vb ?_;unfold Ae at hF;refine RW.sf 3 rfl (RW.sr 2 rfl ?_);obtain ⟨v1,e1,h1⟩:=A2 hF;refine rl.call rfl rfl rfl (A7.y (r':=.tup [.agg (D0 false v1.1),.bool v1.2]) (Vj e1) ?_);refine rl.f 6 rfl (RW.seq (RW.seq ?_));obtain ⟨y2,ey2,h2⟩:=A2 h1
 refine RW.cutq (σ:=Bool) (fun y2=>[(1,.ptr 0 0),(2,.ptr 1 0),(4,.ptr 2 0),(18,.bool y2)]) (fun y2=>[some ⟨B5 false x0,0⟩,some ⟨[.j 0,.j 0,.j 0,.j 0,.j 0,.j 0,.str [],.str [],.str []],0⟩,some ⟨D0 false v1.1,0⟩]) (fun y=>y2=y) gg ?_ ?_
 ·refine RW.reg ?_;refine rl.run 3 rfl ?_
  cases hb:(!v1.2)
  ·have h3:=A5 ey2 hb;refine rl.run 1 rfl ?_;obtain ⟨v3,e3,h4⟩:=A2 h3;refine rl.call rfl rfl rfl (A7.y (r':=.bool v3) (Da e3) ?_)
   cases hb:v3
   ·have h5:=A5 h4 hb;refine rl.f 2 rfl ?_;cases h5
    exact ⟨_,rfl,(Gh.y0 [0,1,2])⟩
   ·have h6:=A4 h4 hb;refine rl.f 2 rfl ?_;cases h6
    exact ⟨_,rfl,(Gh.y0 [0,1,2])⟩
  ·have h7:=A4 ey2 hb;refine rl.f 4 rfl ?_;cases h7
   exact ⟨_,rfl,(Gh.y0 [0,1,2])⟩
 ·intro y hC
  subst hC
  cases hb:y2
  ·have h8:=A5 h2 hb;refine RW.cond_f rfl (RW.skip (RW.sf 6 rfl (RW.ret ?_)));cases h8
   exact RRet.y
  ·have h9:=A4 h2 hb;refine RW.cond_t rfl (RW.sf 3 rfl (RW.ret ?_));cases h9
   exact RRet.y
theorem Ky {x0:TDisk} {x1:TSeg} {r:Bool} (hF:U4 x0 x1=some r):B2 Tryz.prog 58 [.agg (A6 false x0),.agg (A3 false x1)] (.bool r):=by
 refine B2.q A18 ?_;unfold U4 at hF;refine RW.sf 3 rfl (RW.sr 3 rfl ?_);obtain ⟨v1,e1,h1⟩:=A2 hF;refine rl.call rfl rfl rfl (A7.y (r':=.tup [Ch v1.1,.j v1.2]) (Qi e1) ?_);refine rl.f 5 rfl (RW.seq (RW.seq ?_));obtain ⟨y2,ey2,h2⟩:=A2 h1
 refine RW.cutq (σ:=Bool) (fun y2=>[(3,.ptr 0 0),(5,Ch v1.1),(43,.bool y2)]) (fun y2=>[some ⟨A3 false x1,0⟩]) (fun y=>y2=y) gg ?_ ?_
 ·refine RW.drw ?_;refine A0.op rfl rfl (A0.op rfl rfl (A0.op rfl rfl ?_));obtain ⟨v3,e3,h3⟩:=A2 ey2;refine A0.call rfl rfl rfl (A7.y (r':=.j v3) (Lb e3) ⟨rfl,?_⟩);refine A0.op rfl rfl (A0.op rfl rfl ?_)
  refine A0.gen rfl rfl fun b hb=>?_
  cases b
  ·have h4:=A5 h3 hb;refine A0.op rfl rfl (A0.op rfl rfl (A0.op rfl rfl ?_))
   refine A0.gen rfl rfl fun b hb=>?_
   cases b
   ·have h5:=A5 h4 hb;refine A0.op rfl rfl (A0.op rfl rfl (A0.op rfl rfl (A0.op rfl rfl (A0.op rfl rfl ?_))))
    refine A0.gen rfl rfl fun b hb=>?_
    cases b
    ·have h6:=A5 h5 hb;refine A0.op rfl rfl (A0.op rfl rfl (A0.op rfl rfl (A0.op rfl rfl (A0.op rfl rfl (A0.op rfl rfl (A0.op rfl rfl ?_))))))
     refine A0.gen rfl rfl fun b hb=>?_
     cases b
     ·have h7:=A5 h6 hb;refine A0.op rfl rfl (A0.done ?_);cases h7
      exact ⟨_,rfl,(Gh.y0 [1])⟩
     ·have h8:=A4 h6 hb;refine A0.op rfl rfl (A0.done ?_);cases h8
      exact ⟨_,rfl,(Gh.y0 [1])⟩
    ·have h9:=A4 h5 hb;refine A0.op rfl rfl (A0.op rfl rfl (A0.off rfl (A0.off rfl (A0.off rfl (A0.off rfl (A0.off rfl (A0.off rfl (A0.op rfl rfl (A0.done ?_)))))))));cases h9
     exact ⟨_,rfl,(Gh.y0 [1])⟩
   ·have h10:=A4 h4 hb;refine A0.op rfl rfl (A0.op rfl rfl (A0.off rfl (A0.off rfl (A0.off rfl (A0.off rfl (A0.op rfl rfl (A0.op rfl rfl (A0.off rfl (A0.off rfl (A0.off rfl (A0.off rfl ?_)))))))))));refine A0.off rfl (A0.off rfl (A0.op rfl rfl (A0.done ?_)));cases h10
    exact ⟨_,rfl,(Gh.y0 [1])⟩
  ·have h11:=A4 h3 hb;refine A0.op rfl rfl (A0.off rfl (A0.off rfl (A0.off rfl (A0.op rfl rfl (A0.op rfl rfl (A0.off rfl (A0.off rfl (A0.off rfl (A0.off rfl (A0.op rfl rfl (A0.op rfl rfl ?_)))))))))));refine A0.off rfl (A0.off rfl (A0.off rfl (A0.off rfl (A0.off rfl (A0.off rfl (A0.op rfl rfl (A0.done ?_)))))));cases h11
   exact ⟨_,rfl,(Gh.y0 [1])⟩
 ·intro y hC
  subst hC
  cases hb:y2
  ·have h12:=A5 h2 hb;refine RW.cond_f rfl (RW.skip (RW.seq (RW.sf 3 rfl ?_)));obtain ⟨y10,ey10,h14⟩:=A2 h12
   refine RW.cutq (σ:=Unit) (fun y5=>[]) (fun y5=>[]) (fun y=>y10=.inr y) gg ?_ ?_
   ·refine RW.blk ?_
    refine RW.iter (σ:=Int) ey10 (fun s4=>[(3,.ptr 0 0),(44,Ch v1.1),(45,.j (v1.1.length:Int)),(46,.j s4)]) (fun s4=>[some ⟨A3 false x1,0⟩]) (Gh.y0 [0]) (fun s4 B o hS13 hB13 hE13=>?_)
    unfold X0 at hS13;refine RW.sreg ?_
    refine rl.gen rfl rfl fun b hb=>?_
    cases b
    ·have h15:=A5 hS13 hb;refine rl.done (RW.seq (RW.cond_f rfl (RW.exit (C9 ?_))));cases h15
     exact ⟨_,(hE13 _ rfl).symm,(Gh.y0 [])⟩
    ·have h16:=A4 hS13 hb;refine rl.done (RW.seq (RW.cond_t rfl (RW.skip (RW.seq (RW.blk (RW.sr 1 rfl ?_))))));obtain ⟨v6,e6,h17⟩:=A2 h16;refine rl.op (C1 (enc:=B5) (o:=false) rfl rfl rfl e6) ?_;refine rl.op (H6 (off':=0) (vs:=(B5 false v6)) Fo rfl e6 rfl rfl rfl) ?_;refine rl.f 3 rfl (RW.sr 1 rfl ?_);obtain ⟨v7,e7,h18⟩:=A2 h17;refine rl.call rfl rfl rfl (A7.y (r':=.tup [.agg (A8 false v7.1),.bool v7.2]) (Qd e7) ?_);refine rl.f 6 rfl (RW.seq ?_);obtain ⟨y8,ey8,h19⟩:=A2 h18
     refine RW.cutq (σ:=Bool) (fun y8=>[(3,.ptr 0 0),(44,Ch v1.1),(45,.j (v1.1.length:Int)),(46,.j s4),(66,.bool y8)]) (fun y8=>[some ⟨A3 false x1,0⟩]) (fun y=>y8=y) gg ?_ ?_
     ·refine RW.drw ?_;refine A0.op rfl rfl (A0.op rfl rfl (A0.op rfl rfl ?_))
      cases hb:(!v7.2)
      ·have h20:=A5 ey8 hb;refine A0.op rfl rfl (A0.op rfl rfl (A0.op rfl rfl (A0.op rfl rfl ?_)));obtain ⟨v9,e9,h21⟩:=A2 h20;refine A0.op rfl (C1 (enc:=A8) (o:=false) rfl rfl rfl e9) ?_;refine A0.op rfl (H6 (off':=0) (vs:=(A8 false v9)) C2 rfl e9 rfl rfl rfl) ?_
       refine A0.gen rfl rfl fun b hb=>?_
       cases b
       ·have h22:=A5 h21 hb;refine A0.op rfl rfl (A0.done ?_);cases h22
        exact ⟨_,rfl,(Gh.y0 [0])⟩
       ·have h23:=A4 h21 hb;refine A0.op rfl rfl (A0.done ?_);cases h23
        exact ⟨_,rfl,(Gh.y0 [0])⟩
      ·have h24:=A4 ey8 hb;refine A0.off rfl (A0.off rfl (A0.off rfl (A0.off rfl (A0.off rfl (A0.off rfl (A0.off rfl (A0.op rfl rfl (A0.done ?_))))))));cases h24
       exact ⟨_,rfl,(Gh.y0 [0])⟩
     ·intro y hC
      subst hC
      cases hb:y8
      ·have h25:=A5 h19 hb;refine RW.cond_f rfl (RW.skip (RW.reg (rl.f 2 rfl ?_)));cases h25
       exact hB13 _ rfl _ _ (Gh.y0 [0])
      ·have h26:=A4 h19 hb;refine RW.cond_t rfl (RW.sf 1 rfl (RW.ret ?_));cases h26;have h27:=elimL h14 (hE13 _ rfl);cases h27
       exact RRet.y
   ·intro y5 hC
    have h14:=elimR h14 hC;refine RW.sf 1 rfl (RW.ret ?_);cases h14
    exact RRet.y
  ·have h28:=A4 h2 hb;refine RW.cond_t rfl (RW.sf 1 rfl (RW.ret ?_));cases h28
   exact RRet.y
theorem Px {x0:TItem} {x1:TLog} {r:Bool} (hF:P2 x0 x1=some r):C5 Tryz.prog 1 61 [.agg (A8 false x0),.ptr 0 0] [some ⟨A9 false x1,0⟩] (.bool r) [some ⟨A9 false x1,0⟩]:=by
 refine C5.q Zg ?_;unfold P2 at hF;refine RW.sf 2 rfl (RW.sr 4 rfl ?_)
 refine rl.gen rfl rfl fun b hb=>?_
 cases b
 ·have h1:=A5 hF hb;refine rl.f 9 rfl ?_;refine RW.kp [3] [(3,.bool (decide (x0.Rec.Valid≥x1.NextValid)))] [some ⟨A9 false x1,0⟩,some ⟨A8 false x0,0⟩] rfl rfl ?_;refine RW.ret ?_;cases h1
  exact RRetS.m (Gh.rN [0])
 ·have h2:=A4 hF hb;refine rl.f 9 rfl ?_;refine RW.kp [3] [(3,.bool true)] [some ⟨A9 false x1,0⟩,some ⟨A8 false x0,0⟩] rfl rfl ?_;refine RW.ret ?_;cases h2
  exact RRetS.m (Gh.rN [0])
theorem Er {x0:List TItem} {x1:TLog} {r:Int} (hF:H5 x0 x1=some r):C5 Tryz.prog 1 123 [E8 x0,.fn 61 [.ptr 0 0]] [some ⟨A9 false x1,0⟩] (.j r) [some ⟨A9 false x1,0⟩]:=by
 refine C5.q Ek ?_;unfold H5 at hF;refine RW.sf 1 rfl (RW.seq (RW.sf 3 rfl ?_));obtain ⟨y5,ey5,h2⟩:=A2 hF
 refine RW.cutq (σ:=Unit) (fun y2=>[]) (fun y2=>[some ⟨A9 false x1,0⟩]) (fun y=>y5=.inr y) gg ?_ ?_
 ·refine RW.blk ?_
  refine RW.iter (σ:=Int) ey5 (fun s1=>[(0,E8 x0),(1,.fn 61 [.ptr 0 0]),(7,.j (x0.length:Int)),(8,.j s1)]) (fun s1=>[some ⟨A9 false x1,0⟩]) (Gh.rN [0]) (fun s1 B o hS1 hB1 hE1=>?_)
  unfold K0 at hS1;refine RW.sreg ?_
  refine rl.gen rfl rfl fun b hb=>?_
  cases b
  ·have h3:=A5 hS1 hb;refine rl.done (RW.seq (RW.cond_f rfl (RW.exit (C9 ?_))));cases h3
   exact ⟨_,(hE1 _ rfl).symm,(Gh.rN [0])⟩
  ·have h4:=A4 hS1 hb;refine rl.done (RW.seq (RW.cond_t rfl (RW.skip (RW.seq (RW.blk (RW.sf 2 rfl (RW.sr 3 rfl ?_)))))));obtain ⟨v3,e3,h5⟩:=A2 h4;refine rl.op (C1 (enc:=A8) (o:=false) rfl rfl rfl e3) ?_;refine rl.op (H6 (off':=0) (vs:=(A8 false v3)) C2 rfl e3 rfl rfl rfl) ?_;obtain ⟨v4,e4,h6⟩:=A2 h5;refine rl.call rfl rfl rfl (A7.eR [0] (Px e4) ?_)
   cases hb:v4
   ·have h7:=A5 h6 hb;refine rl.done (RW.cond_f rfl (RW.skip (RW.reg (rl.f 2 rfl ?_))));cases h7
    exact hB1 _ rfl _ _ (Gh.rN [0])
   ·have h8:=A4 h6 hb;refine rl.done (RW.cond_t rfl (RW.sf 2 rfl ?_));refine RW.kp [4] [(4,.j s1)] [some ⟨A9 false x1,0⟩] rfl rfl ?_;refine RW.ret ?_;cases h8;have h9:=elimL h2 (hE1 _ rfl);cases h9
    exact RRetS.m (Gh.rN [0])
 ·intro y2 hC
  have h2:=elimR h2 hC;refine RW.sf 1 rfl (RW.ret ?_);cases h2
  exact RRetS.m (Gh.rN [0])
theorem Ds {x0:List TItem} {x1:TLog} {r:Bool} (hF:D2 x0 x1=some r):C5 Tryz.prog 1 60 [E8 x0,.fn 61 [.ptr 0 0]] [some ⟨A9 false x1,0⟩] (.bool r) [some ⟨A9 false x1,0⟩]:=by
 refine C5.q Ck ?_;unfold D2 at hF;refine RW.sf 1 rfl (RW.sr 2 rfl ?_);obtain ⟨v1,e1,h1⟩:=A2 hF;refine rl.call rfl rfl rfl (A7.eR [0] (Er e1) ?_);refine rl.f 2 rfl (RW.ret ?_);cases h1
 exact RRetS.m (Gh.rN [0])
theorem Lq {x0:TItem} {x1:TItem} {r:Bool} (hF:V9 x0 x1=some r):C5 Tryz.prog 1 125 [.agg (A8 false x0),.ptr 0 0] [some ⟨A8 false x1,0⟩] (.bool r) [some ⟨A8 false x1,0⟩]:=by
 refine C5.q Ud ?_;unfold V9 at hF;refine RW.sf 2 rfl (RW.sr 4 rfl ?_)
 refine rl.gen rfl rfl fun b hb=>?_
 cases b
 ·have h1:=A5 hF hb;refine rl.f 6 rfl ?_;refine RW.kp [3] [(3,.bool false)] [some ⟨A8 false x1,0⟩,some ⟨A8 false x0,0⟩] rfl rfl ?_;refine RW.ret ?_;cases h1
  exact RRetS.m (Gh.rN [0])
 ·have h2:=A4 hF hb;refine rl.f 6 rfl ?_;refine RW.kp [3] [(3,.bool (!(x0.Seq==x1.Seq&&(x0.Rec.Kind==x1.Rec.Kind&&(x0.Rec.Valid==x1.Rec.Valid&&(x0.Rec.Uid==x1.Rec.Uid&&(x0.Rec.Next==x1.Rec.Next&&(x0.Rec.Flags==x1.Rec.Flags&&(x0.Rec.User==x1.Rec.User&&(x0.Rec.Name==x1.Rec.Name&&(x0.Rec.Text==x1.Rec.Text&&true)))))))))))] [some ⟨A8 false x1,0⟩,some ⟨A8 false x0,0⟩] rfl rfl ?_;refine RW.ret ?_;cases h2
  exact RRetS.m (Gh.rN [0])
theorem Dx {x0:List TItem} {x1:TItem} {r:Int} (hF:G0 x0 x1=some r):C5 Tryz.prog 1 123 [E8 x0,.fn 125 [.ptr 0 0]] [some ⟨A8 false x1,0⟩] (.j r) [some ⟨A8 false x1,0⟩]:=by
 refine C5.q Ek ?_;unfold G0 at hF;refine RW.sf 1 rfl (RW.seq (RW.sf 3 rfl ?_));obtain ⟨y5,ey5,h2⟩:=A2 hF
 refine RW.cutq (σ:=Unit) (fun y2=>[]) (fun y2=>[some ⟨A8 false x1,0⟩]) (fun y=>y5=.inr y) gg ?_ ?_
 ·refine RW.blk ?_
  refine RW.iter (σ:=Int) ey5 (fun s1=>[(0,E8 x0),(1,.fn 125 [.ptr 0 0]),(7,.j (x0.length:Int)),(8,.j s1)]) (fun s1=>[some ⟨A8 false x1,0⟩]) (Gh.rN [0]) (fun s1 B o hS1 hB1 hE1=>?_)
  unfold J3 at hS1;refine RW.sreg ?_
  refine rl.gen rfl rfl fun b hb=>?_
  cases b
  ·have h3:=A5 hS1 hb;refine rl.done (RW.seq (RW.cond_f rfl (RW.exit (C9 ?_))));cases h3
   exact ⟨_,(hE1 _ rfl).symm,(Gh.rN [0])⟩
  ·have h4:=A4 hS1 hb;refine rl.done (RW.seq (RW.cond_t rfl (RW.skip (RW.seq (RW.blk (RW.sf 2 rfl (RW.sr 3 rfl ?_)))))));obtain ⟨v3,e3,h5⟩:=A2 h4;refine rl.op (C1 (enc:=A8) (o:=false) rfl rfl rfl e3) ?_;refine rl.op (H6 (off':=0) (vs:=(A8 false v3)) C2 rfl e3 rfl rfl rfl) ?_;obtain ⟨v4,e4,h6⟩:=A2 h5;refine rl.call rfl rfl rfl (A7.eR [0] (Lq e4) ?_)
   cases hb:v4
   ·have h7:=A5 h6 hb;refine rl.done (RW.cond_f rfl (RW.skip (RW.reg (rl.f 2 rfl ?_))));cases h7
    exact hB1 _ rfl _ _ (Gh.rN [0])
   ·have h8:=A4 h6 hb;refine rl.done (RW.cond_t rfl (RW.sf 2 rfl ?_));refine RW.kp [4] [(4,.j s1)] [some ⟨A8 false x1,0⟩] rfl rfl ?_;refine RW.ret ?_;cases h8;have h9:=elimL h2 (hE1 _ rfl);cases h9
    exact RRetS.m (Gh.rN [0])
 ·intro y2 hC
  have h2:=elimR h2 hC;refine RW.sf 1 rfl (RW.ret ?_);cases h2
  exact RRetS.m (Gh.rN [0])
theorem Ci {x0:List TItem} {x1:TItem} {r:Bool} (hF:F4 x0 x1=some r):C5 Tryz.prog 1 60 [E8 x0,.fn 125 [.ptr 0 0]] [some ⟨A8 false x1,0⟩] (.bool r) [some ⟨A8 false x1,0⟩]:=by
 refine C5.q Ck ?_;unfold F4 at hF;refine RW.sf 1 rfl (RW.sr 2 rfl ?_);obtain ⟨v1,e1,h1⟩:=A2 hF;refine rl.call rfl rfl rfl (A7.eR [0] (Dx e1) ?_);refine rl.f 2 rfl (RW.ret ?_);cases h1
 exact RRetS.m (Gh.rN [0])
theorem Jo {x0:List TItem} {r:Bool} (hF:Al x0=some r):B2 Tryz.prog 62 [E8 x0] (.bool r):=by
 refine B2.q A0b ?_;unfold Al at hF;refine RW.sf 1 rfl (RW.seq (RW.sr 2 rfl ?_))
 refine rl.gen rfl rfl fun b hb=>?_
 cases b
 ·have h1:=A5 hF hb;refine rl.done (RW.cond_f rfl (RW.skip (RW.seq (RW.sf 3 rfl ?_))));obtain ⟨y9,ey9,h3⟩:=A2 h1
  refine RW.cutq (σ:=Unit) (fun y2=>[]) (fun y2=>[]) (fun y=>y9=.inr y) gg ?_ ?_
  ·refine RW.blk ?_
   refine RW.iter (σ:=Int) ey9 (fun s1=>[(0,E8 x0),(8,E8 x0),(9,.j (x0.length:Int)),(10,.j s1)]) (fun s1=>[]) (Gh.y0 []) (fun s1 B o hS2 hB2 hE2=>?_)
   unfold Aa at hS2;refine RW.sreg ?_
   refine rl.gen rfl rfl fun b hb=>?_
   cases b
   ·have h4:=A5 hS2 hb;refine rl.done (RW.seq (RW.cond_f rfl (RW.exit (C9 ?_))));cases h4
    exact ⟨_,(hE2 _ rfl).symm,(Gh.y0 [])⟩
   ·have h5:=A4 hS2 hb;refine rl.done (RW.seq (RW.cond_t rfl (RW.skip (RW.seq (RW.blk (RW.sr 1 rfl ?_))))));obtain ⟨v3,e3,h6⟩:=A2 h5;refine rl.op (C1 (enc:=A8) (o:=false) rfl rfl rfl e3) ?_;refine rl.op (H6 (off':=0) (vs:=(A8 false v3)) C2 rfl e3 rfl rfl rfl) ?_;refine rl.f 3 rfl (RW.seq (RW.seq ?_));obtain ⟨y4,ey4,h7⟩:=A2 h6
    refine RW.cutq (σ:=Bool) (fun y4=>[(0,E8 x0),(3,.j s1),(4,.ptr 0 0),(8,E8 x0),(9,.j (x0.length:Int)),(10,.j s1),(24,.bool y4)]) (fun y4=>[some ⟨A8 false v3,0⟩]) (fun y=>y4=y) gg ?_ ?_
    ·refine RW.reg ?_;refine rl.run 2 rfl ?_;obtain ⟨v5,e5,h8⟩:=A2 ey4;refine rl.call rfl rfl rfl (A7.y (r':=.bool v5) (D3 e5) ?_)
     cases hb:v5
     ·have h9:=A5 h8 hb;refine rl.f 7 rfl ?_;cases h9
      exact ⟨_,rfl,(Gh.y0 [0])⟩
     ·have h10:=A4 h8 hb;refine rl.run 4 rfl ?_;obtain ⟨v6,e6,h11⟩:=A2 h10;refine rl.call rfl rfl rfl (A7.y (r':=.bool v6) (Hr e6) ?_)
      cases hb:v6
      ·have h12:=A5 h11 hb;refine rl.f 2 rfl ?_;cases h12
       exact ⟨_,rfl,(Gh.y0 [0])⟩
      ·have h13:=A4 h11 hb;refine rl.f 2 rfl ?_;cases h13
       exact ⟨_,rfl,(Gh.y0 [0])⟩
    ·intro y hC
     subst hC
     cases hb:y4
     ·have h14:=A5 h7 hb;refine RW.cond_f rfl (RW.skip (RW.sr 2 rfl ?_));obtain ⟨v7,e7,h15⟩:=A2 h14;refine rl.op (A9q C2 rfl rfl rfl Mq e7) ?_;refine rl.run 1 rfl ?_;obtain ⟨v8,e8,h16⟩:=A2 h15;refine rl.call rfl rfl rfl (A7.eR [0] (Ci e8) ?_)
      cases hb:v8
      ·have h17:=A5 h16 hb;refine rl.done (RW.cond_f rfl (RW.skip (RW.reg (rl.f 2 rfl ?_))));cases h17
       exact hB2 _ rfl _ _ (Gh.y0 [])
      ·have h18:=A4 h16 hb;refine rl.done (RW.cond_t rfl (RW.sf 1 rfl ?_));refine RW.kp [2] [(2,.bool false)] [some ⟨A8 false v3,0⟩] rfl rfl ?_;refine RW.ret ?_;cases h18;have h19:=elimL h3 (hE2 _ rfl);cases h19
       exact RRet.y
     ·have h20:=A4 h7 hb;refine RW.cond_t rfl (RW.sf 1 rfl (RW.ret ?_));cases h20;have h21:=elimL h3 (hE2 _ rfl);cases h21
      exact RRet.y
  ·intro y2 hC
   have h3:=elimR h3 hC;refine RW.sf 1 rfl (RW.ret ?_);cases h3
   exact RRet.y
 ·have h22:=A4 hF hb;refine rl.done (RW.cond_t rfl (RW.sf 1 rfl (RW.ret ?_)));cases h22
  exact RRet.y
theorem Ff {x0:TLog} {r:Bool} (hF:P8 x0=some r):B2 Tryz.prog 14 [.agg (A9 false x0)] (.bool r):=by
 refine B2.q A39 ?_;unfold P8 at hF;refine RW.sf 2 rfl (RW.seq (RW.seq ?_));obtain ⟨y1,ey1,h1⟩:=A2 hF
 refine RW.cutq (σ:=Bool) (fun y1=>[(1,.ptr 0 0),(37,.bool y1)]) (fun y1=>[some ⟨A9 false x0,0⟩]) (fun y=>y1=y) gg ?_ ?_
 ·refine RW.drw ?_;refine A0.op rfl rfl (A0.op rfl rfl ?_);obtain ⟨v2,e2,h2⟩:=A2 ey1;refine A0.call rfl rfl rfl (A7.y (r':=.bool v2) (Ef e2) ⟨rfl,?_⟩)
  cases hb:v2
  ·have h3:=A5 h2 hb;refine A0.op rfl rfl (A0.op rfl rfl (A0.off rfl (A0.off rfl (A0.off rfl (A0.off rfl (A0.off rfl (A0.op rfl rfl (A0.op rfl rfl (A0.off rfl (A0.off rfl (A0.off rfl ?_)))))))))));refine A0.op rfl rfl (A0.op rfl rfl (A0.off rfl (A0.off rfl (A0.off rfl (A0.off rfl (A0.off rfl (A0.off rfl (A0.op rfl rfl (A0.op rfl rfl (A0.off rfl (A0.off rfl ?_)))))))))));refine A0.off rfl (A0.off rfl (A0.off rfl (A0.off rfl (A0.off rfl (A0.op rfl rfl (A0.done ?_))))));cases h3
   exact ⟨_,rfl,(Gh.y0 [0])⟩
  ·have h4:=A4 h2 hb;refine A0.op rfl rfl (A0.op rfl rfl (A0.op rfl rfl (A0.op rfl rfl (A0.op rfl rfl (A0.op rfl rfl ?_)))))
   refine A0.gen rfl rfl fun b hb=>?_
   cases b
   ·have h5:=A5 h4 hb;refine A0.op rfl rfl (A0.op rfl rfl (A0.op rfl rfl (A0.op rfl rfl ?_)))
    refine A0.gen rfl rfl fun b hb=>?_
    cases b
    ·have h6:=A5 h5 hb;refine A0.op rfl rfl (A0.op rfl rfl (A0.op rfl rfl (A0.op rfl rfl (A0.op rfl rfl (A0.op rfl rfl ?_)))));obtain ⟨v3,e3,h7⟩:=A2 h6;refine A0.call rfl rfl rfl (A7.y (r':=.j v3) (Xf e3) ⟨rfl,?_⟩)
     refine A0.gen rfl rfl fun b hb=>?_
     cases b
     ·have h8:=A5 h7 hb;refine A0.op rfl rfl (A0.op rfl rfl (A0.op rfl rfl (A0.op rfl rfl (A0.op rfl rfl (A0.op rfl rfl (A0.op rfl rfl ?_))))));obtain ⟨v4,e4,h9⟩:=A2 h8;refine A0.call rfl rfl rfl (A7.y (r':=.bool v4) (D3 e4) ⟨rfl,?_⟩)
      cases hb:v4
      ·have h10:=A5 h9 hb;refine A0.op rfl rfl (A0.op rfl rfl (A0.done ?_));cases h10
       exact ⟨_,rfl,(Gh.y0 [0])⟩
      ·have h11:=A4 h9 hb;refine A0.op rfl rfl (A0.op rfl rfl (A0.done ?_));cases h11
       exact ⟨_,rfl,(Gh.y0 [0])⟩
     ·have h12:=A4 h7 hb;refine A0.op rfl rfl (A0.op rfl rfl (A0.off rfl (A0.off rfl (A0.off rfl (A0.off rfl (A0.off rfl (A0.off rfl (A0.off rfl (A0.op rfl rfl (A0.done ?_))))))))));cases h12
      exact ⟨_,rfl,(Gh.y0 [0])⟩
    ·have h13:=A4 h5 hb;refine A0.op rfl rfl (A0.op rfl rfl (A0.off rfl (A0.off rfl (A0.off rfl (A0.off rfl (A0.off rfl (A0.off rfl (A0.op rfl rfl (A0.op rfl rfl (A0.off rfl (A0.off rfl ?_)))))))))));refine A0.off rfl (A0.off rfl (A0.off rfl (A0.off rfl (A0.off rfl (A0.op rfl rfl (A0.done ?_))))));cases h13
     exact ⟨_,rfl,(Gh.y0 [0])⟩
   ·have h14:=A4 h4 hb;refine A0.op rfl rfl (A0.op rfl rfl (A0.off rfl (A0.off rfl (A0.off rfl (A0.op rfl rfl (A0.op rfl rfl (A0.off rfl (A0.off rfl (A0.off rfl (A0.off rfl (A0.off rfl ?_)))))))))));refine A0.off rfl (A0.op rfl rfl (A0.op rfl rfl (A0.off rfl (A0.off rfl (A0.off rfl (A0.off rfl (A0.off rfl (A0.off rfl (A0.off rfl (A0.op rfl rfl (A0.done ?_)))))))))));cases h14
    exact ⟨_,rfl,(Gh.y0 [0])⟩
 ·intro y hC
  subst hC
  cases hb:y1
  ·have h15:=A5 h1 hb;refine RW.cond_f rfl (RW.skip (RW.seq (RW.seq ?_)));obtain ⟨y5,ey5,h16⟩:=A2 h15
   refine RW.cutq (σ:=Bool) (fun y5=>[(1,.ptr 0 0),(59,.bool y5)]) (fun y5=>[some ⟨A9 false x0,0⟩]) (fun y=>y5=y) gg ?_ ?_
   ·refine RW.reg ?_;refine rl.run 2 rfl ?_;obtain ⟨v6,e6,h17⟩:=A2 ey5;refine rl.call rfl rfl rfl (A7.y (r':=.bool v6) (D3 e6) ?_)
    cases hb:v6
    ·have h18:=A5 h17 hb;refine rl.f 19 rfl ?_;cases h18
     exact ⟨_,rfl,(Gh.y0 [0])⟩
    ·have h19:=A4 h17 hb;refine rl.run 4 rfl ?_;obtain ⟨v7,e7,h20⟩:=A2 h19;refine rl.call rfl rfl rfl (A7.y (r':=.bool v7) (D3 e7) ?_)
     cases hb:v7
     ·have h21:=A5 h20 hb;refine rl.f 14 rfl ?_;cases h21
      exact ⟨_,rfl,(Gh.y0 [0])⟩
     ·have h22:=A4 h20 hb;refine rl.run 5 rfl ?_;obtain ⟨v8,e8,h23⟩:=A2 h22;refine rl.call rfl rfl rfl (A7.y (r':=.bool v8) (D3 e8) ?_)
      cases hb:v8
      ·have h24:=A5 h23 hb;refine rl.f 8 rfl ?_;cases h24
       exact ⟨_,rfl,(Gh.y0 [0])⟩
      ·have h25:=A4 h23 hb;refine rl.run 5 rfl ?_;obtain ⟨v9,e9,h26⟩:=A2 h25;refine rl.call rfl rfl rfl (A7.y (r':=.bool v9) (D3 e9) ?_)
       cases hb:v9
       ·have h27:=A5 h26 hb;refine rl.f 2 rfl ?_;cases h27
        exact ⟨_,rfl,(Gh.y0 [0])⟩
       ·have h28:=A4 h26 hb;refine rl.f 2 rfl ?_;cases h28
        exact ⟨_,rfl,(Gh.y0 [0])⟩
   ·intro y hC
    subst hC
    cases hb:y5
    ·have h29:=A5 h16 hb;refine RW.cond_f rfl (RW.skip (RW.seq (RW.sf 4 rfl ?_)));obtain ⟨y21,ey21,h31⟩:=A2 h29
     refine RW.cutq (σ:=Unit) (fun y11=>[(1,.ptr 0 0)]) (fun y11=>[some ⟨A9 false x0,0⟩]) (fun y=>y21=.inr y) gg ?_ ?_
     ·refine RW.blk ?_
      refine RW.iter (σ:=Int) ey21 (fun s10=>[(1,.ptr 0 0),(61,Gm x0.Used),(62,.j (x0.Used.length:Int)),(63,.j s10)]) (fun s10=>[some ⟨A9 false x0,0⟩]) (Gh.y0 [0]) (fun s10 B o hS30 hB30 hE30=>?_)
      unfold Z0 at hS30;refine RW.sreg ?_
      refine rl.gen rfl rfl fun b hb=>?_
      cases b
      ·have h32:=A5 hS30 hb;refine rl.done (RW.seq (RW.cond_f rfl (RW.exit (C9 ?_))));cases h32
       exact ⟨_,(hE30 _ rfl).symm,(Gh.y0 [0])⟩
      ·have h33:=A4 hS30 hb;refine rl.done (RW.seq (RW.cond_t rfl (RW.skip (RW.seq (RW.blk (RW.sr 1 rfl ?_))))));obtain ⟨v12,e12,h34⟩:=A2 h33;refine rl.op (C1 (enc:=A3) (o:=false) rfl rfl rfl e12) ?_;refine rl.op (H6 (off':=0) (vs:=(A3 false v12)) B3 rfl e12 rfl rfl rfl) ?_;refine rl.f 3 rfl (RW.seq (RW.seq ?_));obtain ⟨y13,ey13,h35⟩:=A2 h34
       refine RW.cutq (σ:=Bool) (fun y13=>[(1,.ptr 0 0),(3,.j s10),(4,.ptr 1 0),(61,Gm x0.Used),(62,.j (x0.Used.length:Int)),(63,.j s10),(104,.bool y13)]) (fun y13=>[some ⟨A9 false x0,0⟩,some ⟨A3 false v12,0⟩]) (fun y=>y13=y) gg ?_ ?_
       ·refine RW.drw ?_;refine A0.op rfl rfl (A0.op rfl rfl (A0.op rfl rfl (A0.op rfl rfl (A0.op rfl rfl ?_))));obtain ⟨v14,e14,h36⟩:=A2 ey13;refine A0.call rfl rfl rfl (A7.y (r':=.bool v14) (D3 e14) ⟨rfl,?_⟩)
        cases hb:v14
        ·have h37:=A5 h36 hb;refine A0.op rfl rfl (A0.op rfl rfl (A0.off rfl (A0.off rfl (A0.off rfl (A0.off rfl (A0.off rfl (A0.op rfl rfl (A0.op rfl rfl (A0.off rfl (A0.off rfl (A0.off rfl ?_)))))))))));refine A0.off rfl (A0.off rfl (A0.off rfl (A0.off rfl (A0.off rfl (A0.off rfl (A0.off rfl (A0.off rfl (A0.off rfl (A0.off rfl (A0.off rfl (A0.op rfl rfl ?_)))))))))));refine A0.op rfl rfl (A0.off rfl (A0.off rfl (A0.off rfl (A0.off rfl (A0.off rfl (A0.op rfl rfl (A0.done ?_)))))));cases h37
         exact ⟨_,rfl,(Gh.y0 [0,1])⟩
        ·have h38:=A4 h36 hb;refine A0.op rfl rfl (A0.op rfl rfl (A0.op rfl rfl (A0.op rfl rfl (A0.op rfl rfl (A0.op rfl rfl ?_)))))
         refine A0.gen rfl rfl fun b hb=>?_
         cases b
         ·have h39:=A5 h38 hb;refine A0.op rfl rfl (A0.op rfl rfl (A0.op rfl rfl ?_))
          refine A0.gen rfl rfl fun b hb=>?_
          cases b
          ·have h40:=A5 h39 hb;refine A0.op rfl rfl (A0.off rfl (A0.off rfl (A0.off rfl (A0.off rfl (A0.off rfl (A0.off rfl (A0.off rfl (A0.off rfl (A0.off rfl (A0.off rfl (A0.op rfl rfl ?_)))))))))));refine A0.op rfl rfl (A0.op rfl rfl (A0.op rfl rfl (A0.op rfl rfl (A0.op rfl rfl ?_))));obtain ⟨v15,e15,h41⟩:=A2 h40;refine A0.call rfl rfl rfl (A7.y (r':=.bool v15) (Ky e15) ⟨rfl,?_⟩)
           cases hb:v15
           ·have h42:=A5 h41 hb;refine A0.op rfl rfl (A0.op rfl rfl (A0.done ?_));cases h42
            exact ⟨_,rfl,(Gh.y0 [0,1])⟩
           ·have h43:=A4 h41 hb;refine A0.op rfl rfl (A0.op rfl rfl (A0.done ?_));cases h43
            exact ⟨_,rfl,(Gh.y0 [0,1])⟩
          ·have h44:=A4 h39 hb;refine A0.op rfl rfl (A0.op rfl rfl (A0.op rfl rfl (A0.op rfl rfl (A0.op rfl rfl ?_))));obtain ⟨v16,e16,h45⟩:=A2 h44;refine A0.op rfl (C1 (enc:=A3) (o:=false) rfl rfl rfl e16) ?_;refine A0.op rfl rfl ?_;refine A0.op rfl (E7 (off':=1) B3 rfl e16 rfl rfl rfl) ?_;refine A0.op rfl rfl (A0.op rfl rfl ?_)
           refine A0.gen rfl rfl fun b hb=>?_
           cases b
           ·have h46:=A5 h45 hb;refine A0.op rfl rfl (A0.op rfl rfl (A0.op rfl rfl (A0.op rfl rfl (A0.op rfl rfl (A0.op rfl rfl ?_)))));obtain ⟨v17,e17,h47⟩:=A2 h46;refine A0.call rfl rfl rfl (A7.y (r':=.bool v17) (Ky e17) ⟨rfl,?_⟩)
            cases hb:v17
            ·have h48:=A5 h47 hb;refine A0.op rfl rfl (A0.op rfl rfl (A0.done ?_));cases h48
             exact ⟨_,rfl,(Gh.y0 [0,1])⟩
            ·have h49:=A4 h47 hb;refine A0.op rfl rfl (A0.op rfl rfl (A0.done ?_));cases h49
             exact ⟨_,rfl,(Gh.y0 [0,1])⟩
           ·have h50:=A4 h45 hb;refine A0.op rfl rfl (A0.op rfl rfl (A0.op rfl rfl (A0.off rfl (A0.off rfl (A0.off rfl (A0.off rfl (A0.off rfl (A0.op rfl rfl (A0.done ?_)))))))));cases h50
            exact ⟨_,rfl,(Gh.y0 [0,1])⟩
         ·have h51:=A4 h38 hb;refine A0.op rfl rfl (A0.op rfl rfl (A0.off rfl (A0.off rfl (A0.off rfl (A0.off rfl (A0.off rfl (A0.off rfl (A0.off rfl (A0.off rfl (A0.off rfl (A0.off rfl ?_)))))))))));refine A0.off rfl (A0.off rfl (A0.off rfl (A0.off rfl (A0.op rfl rfl (A0.op rfl rfl (A0.off rfl (A0.off rfl (A0.off rfl (A0.off rfl (A0.off rfl (A0.op rfl rfl ?_)))))))))));refine A0.done ?_;cases h51
          exact ⟨_,rfl,(Gh.y0 [0,1])⟩
       ·intro y hC
        subst hC
        cases hb:y13
        ·have h52:=A5 h35 hb;refine RW.cond_f rfl (RW.skip (RW.seq (RW.sr 3 rfl ?_)));obtain ⟨v18,e18,h53⟩:=A2 h52;refine rl.op (A9q B3 rfl rfl rfl Mq e18) ?_;refine rl.run 1 rfl ?_;obtain ⟨v19,e19,h54⟩:=A2 h53;refine rl.call rfl rfl rfl (A7.eR [1] (Dz e19) ?_)
         cases hb:v19
         ·have h55:=A5 h54 hb;refine rl.done (RW.cond_f rfl (RW.skip (RW.sr 3 rfl ?_)));obtain ⟨v20,e20,h56⟩:=A2 h55;refine rl.call rfl rfl rfl (A7.eR [0] (Ds e20) ?_)
          cases hb:v20
          ·have h57:=A5 h56 hb;refine rl.done ?_;refine RW.kp [1,61,62,63,114] [(1,.ptr 0 0),(61,Gm x0.Used),(62,.j (x0.Used.length:Int)),(63,.j s10),(114,.bool false)] [some ⟨A9 false x0,0⟩,some ⟨A3 false v12,0⟩] rfl rfl ?_;refine RW.cond_f rfl (RW.skip (RW.reg (rl.f 2 rfl ?_)));cases h57
           exact hB30 _ rfl _ _ (Gh.y0 [0])
          ·have h58:=A4 h56 hb;refine rl.done ?_;refine RW.kp [1,61,62,63,114] [(1,.ptr 0 0),(61,Gm x0.Used),(62,.j (x0.Used.length:Int)),(63,.j s10),(114,.bool true)] [some ⟨A9 false x0,0⟩,some ⟨A3 false v12,0⟩] rfl rfl ?_;refine RW.cond_t rfl (RW.sf 1 rfl (RW.ret ?_));cases h58;have h59:=elimL h31 (hE30 _ rfl);cases h59
           exact RRet.y
         ·have h60:=A4 h54 hb;refine rl.done (RW.cond_t rfl (RW.sf 1 rfl ?_));refine RW.kp [2] [(2,.bool false)] [some ⟨A9 false x0,0⟩,some ⟨A3 false v12,0⟩] rfl rfl ?_;refine RW.ret ?_;cases h60;have h61:=elimL h31 (hE30 _ rfl);cases h61
          exact RRet.y
        ·have h62:=A4 h35 hb;refine RW.cond_t rfl (RW.sf 1 rfl (RW.ret ?_));cases h62;have h63:=elimL h31 (hE30 _ rfl);cases h63
         exact RRet.y
     ·intro y11 hC
      have h31:=elimR h31 hC;refine RW.sr 1 rfl ?_;obtain ⟨v22,e22,h64⟩:=A2 h31;refine rl.call rfl rfl rfl (A7.y (r':=E8 v22) (Fm e22) ?_);obtain ⟨v23,e23,h65⟩:=A2 h64;refine rl.call rfl rfl rfl (A7.y (r':=.bool v23) (Jo e23) ?_);refine rl.f 1 rfl (RW.ret ?_);cases h65
      exact RRet.y
    ·have h66:=A4 h16 hb;refine RW.cond_t rfl (RW.sf 1 rfl (RW.ret ?_));cases h66
     exact RRet.y
  ·have h67:=A4 h1 hb;refine RW.cond_t rfl (RW.sf 1 rfl (RW.ret ?_));cases h67
   exact RRet.y
theorem Lh {x0:List TItem} {r:List TItem} (hF:Du x0=some r):B2 Tryz.prog 118 [E8 x0] (.lst true 9 (fl (A8 true) r) r.length):=Ua M9 (FnOk.w Pd) rfl hF
theorem Jv {x0:List (List UInt8)} {r:List (List UInt8)} (hF:Bv x0=some r):B2 Tryz.prog 127 [L_S x0] (.lst true 1 (fl (encS true) r) r.length):=Ua fkS (FnOk.w Ld) rfl hF
theorem Kr {x0:List TWrite} {r:List TWrite} (hF:Cn x0=some r):B2 Tryz.prog 128 [Jr x0] (.lst true 2 (fl (A1 true) r) r.length):=Ua Ga (FnOk.w Ly) rfl hF
theorem L8 {x0:TDisk} {r:TDisk} (hF:J1 x0=some r):B2 Tryz.prog 64 [.agg (A6 false x0)] (.agg (A6 true r)):=by
 refine B2.q Tv ?_;unfold J1 at hF;refine RW.sf 2 rfl (RW.sdrw (A0.op rfl rfl (A0.op rfl rfl ?_)));obtain ⟨v1,e1,h1⟩:=A2 hF;refine A0.ccall rfl rfl rfl (A7.z (r':=.sl 2 0 v1.length) (H':=[some ⟨A6 false x0,0⟩,some ⟨[.nils,.nils],0⟩,some ⟨fl (encS true) v1,1⟩]) (Jv e1) ?_);refine A0.opA rfl rfl (.here (.rx rfl) .nil) ?_;refine A0.opA rfl rfl (.here (.rx rfl) .nil) ?_;obtain ⟨v2,e2,h2⟩:=A2 h1;refine A0.ccall rfl rfl rfl (A7.z (r':=.sl 3 0 v2.length) (H':=[some ⟨A6 false x0,0⟩,some ⟨[.nils,.nils],0⟩,some ⟨fl (encS true) v1,1⟩,some ⟨fl (A1 true) v2,2⟩]) (Kr e2) ?_);refine A0.op rfl rfl ?_;refine A0.chn rfl rfl ?_;refine A0.done (RW.ret ?_);cases h2
 exact RRet.y
theorem X5 {x0:TLog} {r:TLog} (hF:L7 x0=some r):B2 Tryz.prog 53 [.agg (A9 false x0)] (.agg (A9 true r)):=by
 refine B2.q Xi ?_;unfold L7 at hF;refine RW.sf 2 rfl (RW.sf 3 rfl (RW.sr 2 rfl ?_));obtain ⟨v1,e1,h1⟩:=A2 hF;refine rl.call rfl rfl rfl (A7.z (r':=.agg (C3 3 4 v1)) (H':=[some ⟨A9 false x0,0⟩,some ⟨[.nils,.nils,.j 0,.nils,.j 0,.j 0,.j 0,.j 0],0⟩,some ⟨A9 false x0,0⟩,some ⟨fl (encS true) v1.Sectors,1⟩,some ⟨fl (A1 true) v1.Cache,2⟩]) (L8 e1) ?_);refine rl.f 2 rfl (RW.sf 2 rfl (RW.seq (RW.sf 4 rfl ?_)));refine RW.gh (Gh.nil_c 2 3 4 rfl rfl) ?_;obtain ⟨y7,ey7,h3⟩:=A2 h1
 refine RW.cutq (σ:=(List TSeg)) (fun y3=>[(2,.ptr 0 0),(3,.ptr 1 0)]) (fun y3=>[some ⟨[.nils,.nils,.j 0,.nils,.j 0,.j 0,.j 0,.j 0],0⟩,some ⟨[.sl 2 0 v1.Sectors.length,.sl 3 0 v1.Cache.length,.j x0.Segs,.sl 4 0 y3.length,.j x0.NextGen,.j x0.NextSeq,.j x0.Stamp,.j x0.NextValid],0⟩,some ⟨fl (encS true) v1.Sectors,1⟩,some ⟨fl (A1 true) v1.Cache,2⟩,some ⟨fl (A3 true) y3,4⟩]) (fun y=>y7=y) gg ?_ ?_
 ·refine RW.blk ?_
  refine RW.iter (σ:=Int×(List TSeg)) ey7 (fun s2=>[(2,.ptr 0 0),(3,.ptr 1 0),(13,Gm x0.Used),(14,.j (x0.Used.length:Int)),(15,.j s2.1)]) (fun s2=>[some ⟨[.nils,.nils,.j 0,.nils,.j 0,.j 0,.j 0,.j 0],0⟩,some ⟨[.sl 2 0 v1.Sectors.length,.sl 3 0 v1.Cache.length,.j x0.Segs,.sl 4 0 s2.2.length,.j x0.NextGen,.j x0.NextSeq,.j x0.Stamp,.j x0.NextValid],0⟩,some ⟨fl (encS true) v1.Sectors,1⟩,some ⟨fl (A1 true) v1.Cache,2⟩,some ⟨fl (A3 true) s2.2,4⟩]) (Gh.y0 [1,2,3,4,5]) (fun s2 B o hS2 hB2 hE2=>?_)
  unfold R3 at hS2;refine RW.sreg ?_
  refine rl.gen rfl rfl fun b hb=>?_
  cases b
  ·have h4:=A5 hS2 hb;refine rl.done (RW.seq (RW.cond_f rfl (RW.exit (C9 ?_))));cases h4
   exact ⟨_,(hE2 _ rfl).symm,(Gh.y0 [0,1,2,3,4])⟩
  ·have h5:=A4 hS2 hb;refine rl.done (RW.seq (RW.cond_t rfl (RW.skip (RW.seq (RW.blk (RW.sreg ?_))))));obtain ⟨v4,e4,h6⟩:=A2 h5;refine rl.op (C1 (enc:=A3) (o:=false) rfl rfl rfl e4) ?_;refine rl.op (H6 (off':=0) (vs:=(A3 false v4)) B3 rfl e4 rfl rfl rfl) ?_;refine rl.f 2 rfl (RW.sr 2 rfl ?_);obtain ⟨v5,e5,h7⟩:=A2 h6;refine rl.call rfl rfl rfl (A7.z (r':=.sl 6 0 v5.length) (H':=[some ⟨[.nils,.nils,.j 0,.nils,.j 0,.j 0,.j 0,.j 0],0⟩,some ⟨[.sl 2 0 v1.Sectors.length,.sl 3 0 v1.Cache.length,.j x0.Segs,.sl 4 0 s2.2.length,.j x0.NextGen,.j x0.NextSeq,.j x0.Stamp,.j x0.NextValid],0⟩,some ⟨fl (encS true) v1.Sectors,1⟩,some ⟨fl (A1 true) v1.Cache,2⟩,some ⟨fl (A3 true) s2.2,4⟩,some ⟨A3 false v4,0⟩,some ⟨fl (A8 true) v5,9⟩]) (Lh e5) ?_);refine rl.f 2 rfl (RW.reg (rl.run 4 rfl ?_));obtain ⟨v6,e6,h8⟩:=A2 h7;refine rl.op (U2 rfl rfl (Lw B3 rfl rfl (Uh rfl rfl rfl) e6)) ?_;refine rl.f 2 rfl ?_
   refine RW.gh (Gh.absorb_rawq (b:=8) (j:=3) (m:=6) rfl rfl rfl (by decide) (by decide) rfl (C2.flen true _) (C2.fown _)) ?_
   refine RW.gh (Gh.blk (b:=8) rfl (Rz (enc:=A3) e6 rfl)) ?_;refine RW.reg (rl.f 2 rfl ?_);cases h8
   exact hB2 _ rfl _ _ (Gh.y0 [0,1,2,3,8])
 ·intro y3 hC
  subst hC;refine RW.sf 2 rfl (RW.ret ?_);cases h3
  exact RRet.y
theorem Eh {x0:TDisk} {r:TDisk} (hF:K1 x0=some r):B2 Tryz.prog 70 [.agg (A6 false x0)] (.agg (A6 true r)):=by
 refine B2.q Uk ?_;unfold K1 at hF;refine RW.sf 2 rfl (RW.sr 1 rfl ?_);obtain ⟨v1,e1,h1⟩:=A2 hF;refine rl.call rfl rfl rfl (A7.z (r':=.agg (C3 2 3 v1)) (H':=[some ⟨A6 false x0,0⟩,some ⟨[.nils,.nils],0⟩,some ⟨fl (encS true) v1.Sectors,1⟩,some ⟨fl (A1 true) v1.Cache,2⟩]) (L8 e1) ?_);refine rl.f 2 rfl (RW.seq (RW.sr 1 rfl ?_));obtain ⟨v2,e2,h2⟩:=A2 h1;refine rl.call rfl rfl rfl (A7.y (r':=.bool v2) (Ef e2) ?_)
 cases hb:v2
 ·have h3:=A5 h2 hb;refine rl.f 1 rfl (RW.cond_t rfl (RW.sf 2 rfl (RW.ret ?_)));cases h3
  exact RRet.y
 ·have h4:=A4 h2 hb;refine rl.f 1 rfl (RW.cond_f rfl (RW.skip (RW.seq (RW.sf 4 rfl ?_))));obtain ⟨y8,ey8,h6⟩:=A2 h4
  refine RW.cutq (σ:=(List (List UInt8))) (fun y4=>[(2,.ptr 0 0),(3,.ptr 1 0)]) (fun y4=>[some ⟨[.nils,.nils],0⟩,some ⟨[.sl 2 0 y4.length,.sl 3 0 v1.Cache.length],0⟩,some ⟨fl (encS true) y4,1⟩,some ⟨fl (A1 true) v1.Cache,2⟩]) (fun y=>y8=y) gg ?_ ?_
  ·refine RW.blk ?_
   refine RW.iter (σ:=Int×(List (List UInt8))) ey8 (fun s3=>[(2,.ptr 0 0),(3,.ptr 1 0),(13,Jr x0.Cache),(14,.j (x0.Cache.length:Int)),(15,.j s3.1)]) (fun s3=>[some ⟨[.nils,.nils],0⟩,some ⟨[.sl 2 0 s3.2.length,.sl 3 0 v1.Cache.length],0⟩,some ⟨fl (encS true) s3.2,1⟩,some ⟨fl (A1 true) v1.Cache,2⟩]) (Gh.y0 [1,4,2,3]) (fun s3 B o hS5 hB5 hE5=>?_)
   unfold Bd at hS5;refine RW.sreg ?_
   refine rl.gen rfl rfl fun b hb=>?_
   cases b
   ·have h7:=A5 hS5 hb;refine rl.done (RW.seq (RW.cond_f rfl (RW.exit (C9 ?_))));cases h7
    exact ⟨_,(hE5 _ rfl).symm,(Gh.y0 [0,1,2,3])⟩
   ·have h8:=A4 hS5 hb;refine rl.done (RW.seq (RW.cond_t rfl (RW.skip (RW.seq (RW.blk (RW.sreg ?_))))));obtain ⟨v5,e5,h9⟩:=A2 h8;refine rl.op (C1 (enc:=A1) (o:=false) rfl rfl rfl e5) ?_;refine rl.op (H6 (off':=0) (vs:=(A1 false v5)) B4 rfl e5 rfl rfl rfl) ?_;refine rl.f 2 rfl (RW.reg (rl.run 6 rfl ?_));obtain ⟨v6,e6,h10⟩:=A2 h9;refine rl.op (P9 rfl rfl rfl rfl e6) ?_;obtain ⟨v7,e7,h11⟩:=A2 h10;refine rl.op0 (Mi (off':=0) (o:=true) (e':=v5.Text) ekS e6 rfl rfl rfl rfl rfl rfl rfl rfl rfl e7) ?_;refine rl.done (RW.reg (rl.f 2 rfl ?_));cases h11
    exact hB5 _ rfl _ _ (Gh.ren0 [0,1,2,3] (.c rfl rfl (.keep .nils (.keep .nils .nil)) (.c rfl rfl (.slq rfl (W2 e7) (.slq rfl rfl .nil)) (.same rfl (ekS.fref _ _) (.same rfl (B4.fref _ _) .nil)))) rfl (.p rfl rfl (.p rfl rfl (.cons rfl (.dat (B4.rlst)) (.i rfl (.i rfl .nil))))))
  ·intro y4 hC
   subst hC;refine RW.sf 2 rfl (RW.sf 2 rfl (RW.ret ?_));cases h6
   exact RRet.y
theorem Ma {x0:TDisk} {x1:Int} {x2:List UInt8} {r:TDisk×Bool} (hF:V1 x0 x1 x2=some r):B2 Tryz.prog 133 [.agg (A6 false x0),.j x1,.str x2] (.tup [.agg (A6 true r.1),.bool r.2]):=by
 refine B2.q Qq ?_;unfold V1 at hF;refine RW.sf 3 rfl (RW.sr 1 rfl ?_);obtain ⟨v1,e1,h1⟩:=A2 hF;refine rl.call rfl rfl rfl (A7.z (r':=.agg (C3 2 3 v1)) (H':=[some ⟨A6 false x0,0⟩,some ⟨[.nils,.nils],0⟩,some ⟨fl (encS true) v1.Sectors,1⟩,some ⟨fl (A1 true) v1.Cache,2⟩]) (L8 e1) ?_);refine rl.f 2 rfl (RW.sr 6 rfl ?_);obtain ⟨v2,e2,h2⟩:=A2 h1;refine rl.op (U2 rfl rfl (R6 (l:=v1.Cache) (m:=[({ At:=x1,Text:=x2 }:TWrite)]) (o:=true) B4 rfl rfl (M0 (m:=[({ At:=x1,Text:=x2 }:TWrite)]) (o:=true) Ga rfl rfl) rfl (Ga.fst _ _) e2)) ?_;refine rl.f 2 rfl ?_;refine RW.kp [3,6,8] [(3,.ptr 0 0),(6,.ptr 1 0),(8,.ptr 4 0)] [some ⟨A6 false x0,0⟩,some ⟨[.nils,.nils],0⟩,some ⟨fl (encS true) v1.Sectors,1⟩,none,some ⟨[.sl 2 0 v1.Sectors.length,.sl 6 0 v2.length],0⟩,some ⟨fl (A1 true) [({ At:=x1,Text:=x2 }:TWrite)],2⟩,some ⟨fl (A1 true) v2,2⟩] rfl rfl ?_;refine RW.seq (RW.seq ?_);obtain ⟨y3,ey3,h3⟩:=A2 h2
 refine RW.cutq (σ:=Bool) (fun y3=>[(3,.ptr 0 0),(6,.ptr 1 0),(8,.ptr 2 0),(26,.bool y3)]) (fun y3=>[some ⟨A6 false x0,0⟩,some ⟨[.nils,.nils],0⟩,some ⟨[.sl 3 0 v1.Sectors.length,.sl 4 0 v2.length],0⟩,some ⟨fl (encS true) v1.Sectors,1⟩,some ⟨fl (A1 true) v2,2⟩]) (fun y=>y3=y) gg ?_ ?_
 ·refine RW.reg ?_;refine rl.run 1 rfl ?_;obtain ⟨v4,e4,h4⟩:=A2 ey3;refine rl.call rfl rfl rfl (A7.y (r':=.bool v4) (Ef e4) ?_)
  cases hb:v4
  ·have h5:=A5 h4 hb;refine rl.f 6 rfl ?_;cases h5
   exact ⟨_,rfl,(Gh.y0 [0,1,4,2,6])⟩
  ·have h6:=A4 h4 hb;refine rl.run 3 rfl ?_;obtain ⟨v5,e5,h7⟩:=A2 h6;refine rl.call rfl rfl rfl (A7.y (r':=.bool v5) (Ef e5) ?_)
   cases hb:v5
   ·have h8:=A5 h7 hb;refine rl.f 2 rfl ?_;cases h8
    exact ⟨_,rfl,(Gh.y0 [0,1,4,2,6])⟩
   ·have h9:=A4 h7 hb;refine rl.f 2 rfl ?_;cases h9
    exact ⟨_,rfl,(Gh.y0 [0,1,4,2,6])⟩
 ·intro y hC
  subst hC
  cases hb:y3
  ·have h10:=A5 h3 hb;refine RW.cond_f rfl (RW.skip (RW.sf 3 rfl (RW.ret ?_)));cases h10
   exact RRet.y
  ·have h11:=A4 h3 hb;refine RW.cond_t rfl (RW.sr 1 rfl ?_);obtain ⟨v6,e6,h12⟩:=A2 h11;refine rl.call rfl rfl rfl (A7.z (r':=.agg (C3 5 6 v6)) (H':=[some ⟨A6 false x0,0⟩,some ⟨[.nils,.nils],0⟩,some ⟨[.sl 3 0 v1.Sectors.length,.sl 4 0 v2.length],0⟩,some ⟨fl (encS true) v1.Sectors,1⟩,some ⟨fl (A1 true) v2,2⟩,some ⟨fl (encS true) v6.Sectors,1⟩,some ⟨fl (A1 true) v6.Cache,2⟩]) (L8 e6) ?_);refine rl.f 2 rfl (RW.ret ?_);cases h12
   exact RRet.y
theorem My {x0:TDisk} {x1:Int} {x2:Int} {x3:List UInt8} {r:TDisk×Bool} (hF:Y5 x0 x1 x2 x3=some r):B2 Tryz.prog 68 [.agg (A6 false x0),.j x1,.j x2,.str x3] (.tup [.agg (A6 true r.1),.bool r.2]):=by
 refine B2.q Rl ?_;unfold Y5 at hF;refine RW.sf 3 rfl (RW.sr 1 rfl ?_);obtain ⟨v1,e1,h1⟩:=A2 hF;refine rl.call rfl rfl rfl (A7.z (r':=.agg (C3 2 3 v1)) (H':=[some ⟨A6 false x0,0⟩,some ⟨[.nils,.nils],0⟩,some ⟨fl (encS true) v1.Sectors,1⟩,some ⟨fl (A1 true) v1.Cache,2⟩]) (L8 e1) ?_);refine rl.f 2 rfl (RW.seq (RW.seq ?_));obtain ⟨y2,ey2,h2⟩:=A2 h1
 refine RW.cutq (σ:=Bool) (fun y2=>[(1,.j x1),(2,.j x2),(3,.str x3),(4,.ptr 0 0),(8,.ptr 1 0),(10,.ptr 2 0),(30,.bool y2)]) (fun y2=>[some ⟨A6 false x0,0⟩,some ⟨[.nils,.nils],0⟩,some ⟨C3 3 4 v1,0⟩,some ⟨fl (encS true) v1.Sectors,1⟩,some ⟨fl (A1 true) v1.Cache,2⟩]) (fun y=>y2=y) gg ?_ ?_
 ·refine RW.reg ?_;refine rl.run 1 rfl ?_;obtain ⟨v3,e3,h3⟩:=A2 ey2;refine rl.call rfl rfl rfl (A7.y (r':=.bool v3) (D3 e3) ?_)
  cases hb:v3
  ·have h4:=A5 h3 hb;refine rl.f 10 rfl ?_;cases h4
   exact ⟨_,rfl,(Gh.y0 [0,1,4,2,3])⟩
  ·have h5:=A4 h3 hb;refine rl.run 7 rfl ?_;obtain ⟨v4,e4,h6⟩:=A2 h5;refine rl.call rfl rfl rfl (A7.y (r':=.bool v4) (D3 e4) ?_)
   cases hb:v4
   ·have h7:=A5 h6 hb;refine rl.f 2 rfl ?_;cases h7
    exact ⟨_,rfl,(Gh.y0 [0,1,4,2,3])⟩
   ·have h8:=A4 h6 hb;refine rl.f 2 rfl ?_;cases h8
    exact ⟨_,rfl,(Gh.y0 [0,1,4,2,3])⟩
 ·intro y hC
  subst hC
  cases hb:y2
  ·have h9:=A5 h2 hb;refine RW.cond_f rfl (RW.skip (RW.sr 1 rfl ?_));obtain ⟨v5,e5,h10⟩:=A2 h9;refine rl.call rfl rfl rfl (A7.z (r':=.agg (C3 5 6 v5)) (H':=[some ⟨A6 false x0,0⟩,some ⟨[.nils,.nils],0⟩,some ⟨C3 3 4 v1,0⟩,some ⟨fl (encS true) v1.Sectors,1⟩,some ⟨fl (A1 true) v1.Cache,2⟩,some ⟨fl (encS true) v5.Sectors,1⟩,some ⟨fl (A1 true) v5.Cache,2⟩]) (L8 e5) ?_);refine rl.f 2 rfl (RW.seq ?_);obtain ⟨y17,ey17,h12⟩:=A2 h10
   refine RW.cutq (σ:=(List (List UInt8))×(List TWrite)) (fun y7=>[(8,.ptr 0 0),(11,.ptr 1 0)]) (fun y7=>[some ⟨[.nils,.nils],0⟩,some ⟨[.sl 2 0 y7.1.length,.sl 3 0 y7.2.length],0⟩,some ⟨fl (encS true) y7.1,1⟩,some ⟨fl (A1 true) y7.2,2⟩]) (fun y=>y17=.inr y) gg ?_ ?_
   ·refine RW.blk ?_
    refine RW.iter (σ:=Int×(List UInt8)×(List (List UInt8))×(List TWrite)) ey17 (fun s6=>[(1,.j x1),(2,.j s6.1),(3,.str s6.2.1),(8,.ptr 0 0),(10,.ptr 1 0),(11,.ptr 2 0)]) (fun s6=>[some ⟨[.nils,.nils],0⟩,some ⟨C3 3 4 v1,0⟩,some ⟨[.sl 5 0 s6.2.2.1.length,.sl 6 0 s6.2.2.2.length],0⟩,some ⟨fl (encS true) v1.Sectors,1⟩,some ⟨fl (A1 true) v1.Cache,2⟩,some ⟨fl (encS true) s6.2.2.1,1⟩,some ⟨fl (A1 true) s6.2.2.2,2⟩]) (Gh.y0 [1,2,7,3,4,5,6]) (fun s6 B o hS11 hB11 hE11=>?_)
    unfold K2 at hS11;refine RW.seq (RW.sr 1 rfl ?_)
    refine rl.gen rfl rfl fun b hb=>?_
    cases b
    ·have h13:=A5 hS11 hb;refine rl.done (RW.cond_f rfl (RW.exit (C9 ?_)));cases h13
     exact ⟨_,(hE11 _ rfl).symm,(Gh.y0 [0,2,5,6])⟩
    ·have h14:=A4 hS11 hb;refine rl.done (RW.cond_t rfl (RW.skip (RW.blk (RW.sf 5 rfl (RW.sf 3 rfl (RW.sr 2 rfl ?_))))));obtain ⟨v8,e8,h15⟩:=A2 h14;refine rl.call rfl rfl rfl (A7.y (r':=.tup [.str v8.1,.bool v8.2]) (Gs e8) ?_);refine rl.f 5 rfl ?_;refine RW.kp [1,2,3,8,10,11,12,13,14,15] [(1,.j x1),(2,.j s6.1),(3,.str s6.2.1),(8,.ptr 0 0),(10,.ptr 1 0),(11,.ptr 2 0),(12,.j (w64 (x1+(w64 (Int.tdiv s6.1 32))))),(13,.j (Int.tmod s6.1 32)),(14,.str v8.1),(15,.bool v8.2)] [some ⟨[.nils,.nils],0⟩,some ⟨C3 3 4 v1,0⟩,some ⟨[.sl 5 0 s6.2.2.1.length,.sl 6 0 s6.2.2.2.length],0⟩,some ⟨fl (encS true) v1.Sectors,1⟩,some ⟨fl (A1 true) v1.Cache,2⟩,some ⟨fl (encS true) s6.2.2.1,1⟩,some ⟨fl (A1 true) s6.2.2.2,2⟩] rfl rfl ?_;refine RW.seq (RW.seq ?_);obtain ⟨y9,ey9,h16⟩:=A2 h15
     refine RW.cutq (σ:=Bool) (fun y9=>[(1,.j x1),(2,.j s6.1),(3,.str s6.2.1),(8,.ptr 0 0),(10,.ptr 1 0),(11,.ptr 2 0),(12,.j (w64 (x1+(w64 (Int.tdiv s6.1 32))))),(13,.j (Int.tmod s6.1 32)),(14,.str v8.1),(54,.bool y9)]) (fun y9=>[some ⟨[.nils,.nils],0⟩,some ⟨C3 3 4 v1,0⟩,some ⟨[.sl 5 0 s6.2.2.1.length,.sl 6 0 s6.2.2.2.length],0⟩,some ⟨fl (encS true) v1.Sectors,1⟩,some ⟨fl (A1 true) v1.Cache,2⟩,some ⟨fl (encS true) s6.2.2.1,1⟩,some ⟨fl (A1 true) s6.2.2.2,2⟩]) (fun y=>y9=y) gg ?_ ?_
     ·refine RW.reg ?_;refine rl.run 3 rfl ?_
      cases hb:(!v8.2)
      ·have h17:=A5 ey9 hb;refine rl.run 2 rfl ?_
       refine rl.gen rfl rfl fun b hb=>?_
       cases b
       ·have h18:=A5 h17 hb;refine rl.f 1 rfl ?_;cases h18
        exact ⟨_,rfl,(Gh.y0 [0,1,2,3,4,5,6])⟩
       ·have h19:=A4 h17 hb;refine rl.f 1 rfl ?_;cases h19
        exact ⟨_,rfl,(Gh.y0 [0,1,2,3,4,5,6])⟩
      ·have h20:=A4 ey9 hb;refine rl.f 4 rfl ?_;cases h20
       exact ⟨_,rfl,(Gh.y0 [0,1,2,3,4,5,6])⟩
     ·intro y hC
      subst hC
      cases hb:y9
      ·have h21:=A5 h16 hb;refine RW.cond_f rfl (RW.skip (RW.sf 6 rfl (RW.sdrw (A0.op rfl rfl (A0.op rfl rfl (A0.op rfl rfl (A0.op rfl rfl ?_)))))));obtain ⟨v10,e10,h22⟩:=A2 h21;refine A0.op rfl (Hk rfl rfl rfl Mq e10) ?_;refine A0.op rfl rfl (A0.op rfl rfl ?_);obtain ⟨v11,e11,h23⟩:=A2 h22;refine A0.op rfl (Hk rfl rfl rfl Mq e11) ?_;obtain ⟨v12,e12,h24⟩:=A2 h23;refine A0.op rfl (T4 rfl rfl e12) ?_;refine A0.op rfl rfl (A0.op rfl rfl (A0.op rfl rfl (A0.op rfl rfl ?_)));obtain ⟨v13,e13,h25⟩:=A2 h24;refine A0.op rfl (Hk rfl rfl rfl Kn e13) ?_;obtain ⟨v14,e14,h26⟩:=A2 h25;refine A0.op rfl (T4 rfl rfl e14) ?_;obtain ⟨v15,e15,h27⟩:=A2 h26;refine A0.ccall rfl rfl rfl (A7.z (r':=.tup [.agg (C3 7 8 v15.1),.bool v15.2]) (H':=[some ⟨[.nils,.nils],0⟩,some ⟨C3 3 4 v1,0⟩,some ⟨[.sl 5 0 s6.2.2.1.length,.sl 6 0 s6.2.2.2.length],0⟩,some ⟨fl (encS true) v1.Sectors,1⟩,some ⟨fl (A1 true) v1.Cache,2⟩,some ⟨fl (encS true) s6.2.2.1,1⟩,some ⟨fl (A1 true) s6.2.2.2,2⟩,some ⟨fl (encS true) v15.1.Sectors,1⟩,some ⟨fl (A1 true) v15.1.Cache,2⟩]) (Ma e15) ?_);refine A0.op rfl rfl (A0.op rfl rfl (A0.op rfl rfl ?_));refine A0.chnB rfl rfl (.here (.rx rfl) (.skip rfl (.skip rfl (.skip rfl (.skip rfl (.skip rfl (.skip rfl (.skip rfl (.skip rfl (.skip rfl (.skip rfl (.skip rfl (.skip rfl (.skip rfl (.skip rfl (.skip rfl (.skip rfl (.skip rfl .nil)))))))))))))))))) ?_;refine A0.op rfl rfl (A0.done ?_);refine RW.kp [1,2,3,8,10,11,15,16] [(1,.j x1),(2,.j s6.1),(3,.str s6.2.1),(8,.ptr 0 0),(10,.ptr 1 0),(11,.ptr 2 0),(15,.bool v15.2),(16,.j (if w64 (32 - (Int.tmod s6.1 32))<(s6.2.1.length:Int) then w64 (32 - (Int.tmod s6.1 32)) else (s6.2.1.length:Int)))] [some ⟨[.nils,.nils],0⟩,some ⟨C3 3 4 v1,0⟩,some ⟨C3 7 8 v15.1,0⟩,some ⟨fl (encS true) v1.Sectors,1⟩,some ⟨fl (A1 true) v1.Cache,2⟩,some ⟨fl (encS true) s6.2.2.1,1⟩,some ⟨fl (A1 true) s6.2.2.2,2⟩,some ⟨fl (encS true) v15.1.Sectors,1⟩,some ⟨fl (A1 true) v15.1.Cache,2⟩] rfl rfl ?_;refine RW.seq (RW.sf 2 rfl ?_)
       cases hb:(!v15.2)
       ·have h28:=A5 h27 hb;refine RW.cond_f rfl (RW.skip (RW.sr 2 rfl ?_));obtain ⟨v16,e16,h29⟩:=A2 h28;refine rl.op (Hk rfl rfl rfl Kn e16) ?_;refine rl.f 1 rfl (RW.reg (rl.f 4 rfl ?_));cases h29
        exact hB11 _ rfl _ _ (Gh.y0 [0,1,2,3,4,7,8])
       ·have h30:=A4 h27 hb;refine RW.cond_t rfl (RW.sf 3 rfl (RW.ret ?_));cases h30;have h31:=elimL h12 (hE11 _ rfl);cases h31
        exact RRet.y
      ·have h32:=A4 h16 hb;refine RW.cond_t rfl (RW.sf 3 rfl (RW.ret ?_));cases h32;have h33:=elimL h12 (hE11 _ rfl);cases h33
       exact RRet.y
   ·intro y7 hC
    have h12:=elimR h12 hC;refine RW.sf 3 rfl (RW.ret ?_);cases h12
    exact RRet.y
  ·have h34:=A4 h2 hb;refine RW.cond_t rfl (RW.sf 3 rfl (RW.ret ?_));cases h34
   exact RRet.y
theorem R2 {x0:TDisk} {x1:Int} {x2:Int} {x3:List UInt8} {r:TDisk×Bool} (hF:K8 x0 x1 x2 x3=some r):B2 Tryz.prog 84 [.agg (A6 false x0),.j x1,.j x2,.str x3] (.tup [.agg (A6 true r.1),.bool r.2]):=by
 refine B2.q Wt ?_;unfold K8 at hF;refine RW.sf 3 rfl (RW.seq (RW.seq ?_));obtain ⟨y1,ey1,h1⟩:=A2 hF
 refine RW.cutq (σ:=Bool) (fun y1=>[(1,.j x1),(2,.j x2),(3,.str x3),(4,.ptr 0 0),(8,.ptr 1 0),(24,.bool y1)]) (fun y1=>[some ⟨A6 false x0,0⟩,some ⟨[.nils,.nils],0⟩]) (fun y=>y1=y) gg ?_ ?_
 ·refine RW.reg ?_;refine rl.run 1 rfl ?_;obtain ⟨v2,e2,h2⟩:=A2 ey1;refine rl.call rfl rfl rfl (A7.y (r':=.bool v2) (D3 e2) ?_)
  cases hb:v2
  ·have h3:=A5 h2 hb;refine rl.f 13 rfl ?_;cases h3
   exact ⟨_,rfl,(Gh.y0 [0,1])⟩
  ·have h4:=A4 h2 hb;refine rl.run 3 rfl ?_;obtain ⟨v3,e3,h5⟩:=A2 h4;refine rl.call rfl rfl rfl (A7.y (r':=.bool v3) (D3 e3) ?_)
   cases hb:v3
   ·have h6:=A5 h5 hb;refine rl.f 9 rfl ?_;cases h6
    exact ⟨_,rfl,(Gh.y0 [0,1])⟩
   ·have h7:=A4 h5 hb;refine rl.run 7 rfl ?_
    refine rl.gen rfl rfl fun b hb=>?_
    cases b
    ·have h8:=A5 h7 hb;refine rl.f 1 rfl ?_;cases h8
     exact ⟨_,rfl,(Gh.y0 [0,1])⟩
    ·have h9:=A4 h7 hb;refine rl.f 1 rfl ?_;cases h9
     exact ⟨_,rfl,(Gh.y0 [0,1])⟩
 ·intro y hC
  subst hC
  cases hb:y1
  ·have h10:=A5 h1 hb;refine RW.cond_f rfl (RW.skip (RW.sdrw (A0.op rfl rfl (A0.op rfl rfl ?_))));obtain ⟨v4,e4,h11⟩:=A2 h10;refine A0.call rfl rfl rfl (A7.y (r':=.j v4) (Je e4) ⟨rfl,?_⟩);refine A0.op rfl rfl (A0.op rfl rfl ?_);obtain ⟨v5,e5,h12⟩:=A2 h11;refine A0.ccall rfl rfl rfl (A7.z (r':=.tup [.agg (C3 2 3 v5.1),.bool v5.2]) (H':=[some ⟨A6 false x0,0⟩,some ⟨[.nils,.nils],0⟩,some ⟨fl (encS true) v5.1.Sectors,1⟩,some ⟨fl (A1 true) v5.1.Cache,2⟩]) (My e5) ?_);refine A0.op rfl rfl (A0.op rfl rfl ?_);refine A0.chn rfl rfl ?_;refine A0.op rfl rfl (A0.done ?_);refine RW.kp [8,9] [(8,.ptr 1 0),(9,.bool v5.2)] [some ⟨A6 false x0,0⟩,some ⟨C3 2 3 v5.1,0⟩,some ⟨fl (encS true) v5.1.Sectors,1⟩,some ⟨fl (A1 true) v5.1.Cache,2⟩] rfl rfl ?_;refine RW.ret ?_;cases h12
   exact RRet.y
  ·have h13:=A4 h1 hb;refine RW.cond_t rfl (RW.sr 1 rfl ?_);obtain ⟨v6,e6,h14⟩:=A2 h13;refine rl.call rfl rfl rfl (A7.z (r':=.agg (C3 2 3 v6)) (H':=[some ⟨A6 false x0,0⟩,some ⟨[.nils,.nils],0⟩,some ⟨fl (encS true) v6.Sectors,1⟩,some ⟨fl (A1 true) v6.Cache,2⟩]) (L8 e6) ?_);refine rl.f 2 rfl (RW.ret ?_);cases h14
   exact RRet.y
theorem Ju {x0:TLog} {x1:Int} {r:TLog×Bool} (hF:Z1 x0 x1=some r):B2 Tryz.prog 52 [.agg (A9 false x0),.j x1] (.tup [.agg (A9 true r.1),.bool r.2]):=by
 refine B2.q Zz ?_;unfold Z1 at hF;refine RW.sf 3 rfl (RW.sr 1 rfl ?_);obtain ⟨v1,e1,h1⟩:=A2 hF;refine rl.call rfl rfl rfl (A7.y (r':=L_I v1) (Jc e1) ?_);refine rl.f 1 rfl (RW.seq (RW.seq ?_));obtain ⟨y2,ey2,h2⟩:=A2 h1
 refine RW.cutq (σ:=Bool) (fun y2=>[(2,.ptr 0 0),(4,.ptr 1 0),(6,L_I v1),(26,.bool y2)]) (fun y2=>[some ⟨A9 false x0,0⟩,some ⟨[.nils,.nils,.j 0,.nils,.j 0,.j 0,.j 0,.j 0],0⟩]) (fun y=>y2=y) gg ?_ ?_
 ·refine RW.reg ?_;refine rl.run 1 rfl ?_
  refine rl.gen rfl rfl fun b hb=>?_
  cases b
  ·have h3:=A5 ey2 hb;refine rl.run 4 rfl ?_
   refine rl.gen rfl rfl fun b hb=>?_
   cases b
   ·have h4:=A5 h3 hb;refine rl.run 4 rfl ?_
    refine rl.gen rfl rfl fun b hb=>?_
    cases b
    ·have h5:=A5 h4 hb;refine rl.f 1 rfl ?_;cases h5
     exact ⟨_,rfl,(Gh.y0 [0,1])⟩
    ·have h6:=A4 h4 hb;refine rl.f 1 rfl ?_;cases h6
     exact ⟨_,rfl,(Gh.y0 [0,1])⟩
   ·have h7:=A4 h3 hb;refine rl.f 6 rfl ?_;cases h7
    exact ⟨_,rfl,(Gh.y0 [0,1])⟩
  ·have h8:=A4 ey2 hb;refine rl.f 11 rfl ?_;cases h8
   exact ⟨_,rfl,(Gh.y0 [0,1])⟩
 ·intro y hC
  subst hC
  cases hb:y2
  ·have h9:=A5 h2 hb;refine RW.cond_f rfl (RW.skip (RW.sr 3 rfl ?_));obtain ⟨v3,e3,h10⟩:=A2 h9;refine rl.call rfl rfl rfl (A7.y (r':=.tup [.str v3.1,.bool v3.2]) (W3 e3) ?_);refine rl.f 5 rfl (RW.sdrw (A0.op rfl rfl (A0.op rfl rfl (A0.op rfl rfl ?_))));obtain ⟨v4,e4,h11⟩:=A2 h10;refine A0.op rfl (C1 (enc:=encI) (o:=false) rfl rfl rfl e4) ?_;refine A0.op rfl (E7 (off':=0) ekI rfl e4 rfl rfl rfl) ?_;refine A0.op rfl rfl ?_;obtain ⟨v5,e5,h12⟩:=A2 h11;refine A0.call rfl rfl rfl (A7.y (r':=.tup [.agg (A6 false v5.1),.bool v5.2]) (R2 e5) ⟨rfl,?_⟩);refine A0.op rfl rfl (A0.op rfl rfl (A0.op rfl rfl ?_));refine A0.chnB rfl rfl (.here (.rx rfl) (.here (.rx rfl) (.here (.rx rfl) (.here (.cl rfl rfl (A7.y (r':=.tup [.agg (A6 false v5.1),.bool v5.2]) (R2 e5) ⟨rfl,rfl⟩)) (.here (.rx rfl) (.here (.rx (E7 (off':=0) ekI rfl e4 rfl rfl rfl)) (.here (.rx (C1 (enc:=encI) (o:=false) rfl rfl rfl e4)) (.here (.rx rfl) (.here (.rx rfl) (.here (.rx rfl) .nil)))))))))) ?_;refine A0.chnB rfl rfl (.here (.rx rfl) (.skip rfl (.skip rfl (.skip rfl (.skip rfl (.skip rfl (.skip rfl (.skip rfl (.skip rfl (.skip rfl .nil)))))))))) ?_;refine A0.op rfl rfl (A0.done ?_);refine RW.kp [2,4,6,7,9,10] [(2,.ptr 0 0),(4,.ptr 1 0),(6,L_I v1),(7,.str v3.1),(9,.ptr 2 0),(10,.bool v5.2)] [some ⟨A9 false x0,0⟩,some ⟨[.nils,.nils,.j 0,.nils,.j 0,.j 0,.j 0,.j 0],0⟩,some ⟨A6 false v5.1,0⟩] rfl rfl ?_;refine RW.seq (RW.sf 2 rfl ?_)
   cases hb:(!v5.2)
   ·have h13:=A5 h12 hb;refine RW.cond_f rfl (RW.skip (RW.sr 1 rfl ?_));obtain ⟨v6,e6,h14⟩:=A2 h13;refine rl.call rfl rfl rfl (A7.z (r':=.agg (B6 3 4 5 v6)) (H':=[some ⟨A9 false x0,0⟩,some ⟨[.nils,.nils,.j 0,.nils,.j 0,.j 0,.j 0,.j 0],0⟩,some ⟨A6 false v5.1,0⟩,some ⟨fl (encS true) v6.Disk.Sectors,1⟩,some ⟨fl (A1 true) v6.Disk.Cache,2⟩,some ⟨fl (A3 true) v6.Used,4⟩]) (X5 e6) ?_);refine rl.f 2 rfl (RW.sr 1 rfl ?_);obtain ⟨v7,e7,h15⟩:=A2 h14;refine rl.call rfl rfl rfl (A7.z (r':=.agg (C3 7 8 v7)) (H':=[some ⟨A9 false x0,0⟩,some ⟨[.nils,.nils,.j 0,.nils,.j 0,.j 0,.j 0,.j 0],0⟩,some ⟨A6 false v5.1,0⟩,some ⟨fl (encS true) v6.Disk.Sectors,1⟩,some ⟨fl (A1 true) v6.Disk.Cache,2⟩,some ⟨fl (A3 true) v6.Used,4⟩,some ⟨B6 3 4 5 v6,0⟩,some ⟨fl (encS true) v7.Sectors,1⟩,some ⟨fl (A1 true) v7.Cache,2⟩]) (Eh e7) ?_);refine rl.f 2 rfl (RW.sdrw (A0.op rfl rfl (A0.op rfl rfl (A0.op rfl rfl ?_))));obtain ⟨v8,e8,h16⟩:=A2 h15;refine A0.op rfl (C1 (enc:=encI) (o:=false) rfl rfl rfl e8) ?_;refine A0.op rfl (E7 (off':=0) ekI rfl e8 rfl rfl rfl) ?_;refine A0.op rfl rfl (A0.op rfl rfl (A0.op rfl rfl (A0.op rfl rfl (A0.op rfl rfl ?_))));refine A0.chnB rfl rfl (.skip rfl (.skip rfl (.skip rfl (.skip rfl (.skip rfl (.skip rfl (.skip rfl (.skip rfl (.here (.rx rfl) (.here (.rx rfl) .nil)))))))))) ?_;obtain ⟨v9,e9,h17⟩:=A2 h16;refine A0.chn rfl (U2 rfl rfl (Lw B3 rfl rfl (Uh rfl rfl rfl) e9)) ?_;refine A0.op rfl rfl ?_;refine A0.chn rfl rfl ?_;refine A0.done ?_;refine RW.gh (Gh.own0 (b:=10) rfl (NL.append NL.refl (NL.append (.same (.same (.same (.nils (es:=9) .nil)))) NL.refl))) ?_;refine RW.gh (Gh.blk (b:=10) rfl (Rz (enc:=A3) e9 rfl)) ?_;refine RW.sf 5 rfl (RW.sf 3 rfl (RW.ret ?_));cases h17
    exact RRet.y
   ·have h18:=A4 h12 hb;refine RW.cond_t rfl (RW.sf 3 rfl (RW.ret ?_));cases h18
    exact RRet.y
  ·have h19:=A4 h2 hb;refine RW.cond_t rfl (RW.sf 3 rfl (RW.ret ?_));cases h19
   exact RRet.y
theorem Uw {x0:TLog} {x1:Int} {r:TLog×Bool} (hF:Cf x0 x1=some r):B2 Tryz.prog 12 [.agg (A9 false x0),.j x1] (.tup [.agg (A9 true r.1),.bool r.2]):=by
 refine B2.q Xz ?_;unfold Cf at hF;refine RW.sf 3 rfl (RW.seq (RW.sr 1 rfl ?_));obtain ⟨v1,e1,h1⟩:=A2 hF;refine rl.call rfl rfl rfl (A7.y (r':=.bool v1) (Ff e1) ?_)
 cases hb:v1
 ·have h2:=A5 h1 hb;refine rl.done (RW.cond_f rfl (RW.skip (RW.sr 1 rfl ?_)));obtain ⟨v2,e2,h3⟩:=A2 h2;refine rl.call rfl rfl rfl (A7.z (r':=.agg (B6 2 3 4 v2)) (H':=[some ⟨A9 false x0,0⟩,some ⟨[.nils,.nils,.j 0,.nils,.j 0,.j 0,.j 0,.j 0],0⟩,some ⟨fl (encS true) v2.Disk.Sectors,1⟩,some ⟨fl (A1 true) v2.Disk.Cache,2⟩,some ⟨fl (A3 true) v2.Used,4⟩]) (X5 e2) ?_);refine rl.f 2 rfl (RW.ret ?_);cases h3
  exact RRet.y
 ·have h4:=A4 h1 hb;refine rl.done (RW.cond_t rfl (RW.sr 2 rfl ?_));obtain ⟨v3,e3,h5⟩:=A2 h4;refine rl.call rfl rfl rfl (A7.z (r':=.tup [.agg (B6 2 3 4 v3.1),.bool v3.2]) (H':=[some ⟨A9 false x0,0⟩,some ⟨[.nils,.nils,.j 0,.nils,.j 0,.j 0,.j 0,.j 0],0⟩,some ⟨fl (encS true) v3.1.Disk.Sectors,1⟩,some ⟨fl (A1 true) v3.1.Disk.Cache,2⟩,some ⟨fl (A3 true) v3.1.Used,4⟩]) (Ju e3) ?_);refine rl.f 6 rfl ?_;refine RW.kp [2,4,6,7] [(2,.ptr 0 0),(4,.ptr 1 0),(6,.ptr 5 0),(7,.bool v3.2)] [some ⟨A9 false x0,0⟩,some ⟨[.nils,.nils,.j 0,.nils,.j 0,.j 0,.j 0,.j 0],0⟩,some ⟨fl (encS true) v3.1.Disk.Sectors,1⟩,some ⟨fl (A1 true) v3.1.Disk.Cache,2⟩,some ⟨fl (A3 true) v3.1.Used,4⟩,some ⟨B6 2 3 4 v3.1,0⟩] rfl rfl ?_;refine RW.sf 1 rfl ?_
  cases hb:v3.2
  ·have h6:=A5 h5 hb;refine RW.cond_f rfl (RW.skip (RW.sr 1 rfl ?_));obtain ⟨v4,e4,h7⟩:=A2 h6;refine rl.call rfl rfl rfl (A7.z (r':=.agg (B6 6 7 8 v4)) (H':=[some ⟨A9 false x0,0⟩,some ⟨[.nils,.nils,.j 0,.nils,.j 0,.j 0,.j 0,.j 0],0⟩,some ⟨fl (encS true) v3.1.Disk.Sectors,1⟩,some ⟨fl (A1 true) v3.1.Disk.Cache,2⟩,some ⟨fl (A3 true) v3.1.Used,4⟩,some ⟨B6 2 3 4 v3.1,0⟩,some ⟨fl (encS true) v4.Disk.Sectors,1⟩,some ⟨fl (A1 true) v4.Disk.Cache,2⟩,some ⟨fl (A3 true) v4.Used,4⟩]) (X5 e4) ?_);refine rl.f 2 rfl (RW.ret ?_);cases h7
   exact RRet.y
  ·have h8:=A4 h5 hb;refine RW.cond_t rfl (RW.sf 3 rfl (RW.ret ?_));cases h8
   exact RRet.y
theorem Fv {x0:TSeg} {x1:TSeg} {r:Bool} (hF:K6 x0 x1=some r):B2 Tryz.prog 54 [.agg (A3 false x0),.agg (A3 false x1)] (.bool r):=by
 refine B2.q Yd ?_;unfold K6 at hF;refine RW.sf 3 rfl (RW.seq (RW.seq ?_));obtain ⟨y1,ey1,h1⟩:=A2 hF
 refine RW.cutq (σ:=Bool) (fun y1=>[(2,.ptr 0 0),(3,.ptr 1 0),(33,.bool y1)]) (fun y1=>[some ⟨A3 false x0,0⟩,some ⟨A3 false x1,0⟩]) (fun y=>y1=y) gg ?_ ?_
 ·refine RW.reg ?_;refine rl.run 4 rfl ?_
  refine rl.gen rfl rfl fun b hb=>?_
  cases b
  ·have h2:=A5 ey1 hb;refine rl.run 5 rfl ?_
   refine rl.gen rfl rfl fun b hb=>?_
   cases b
   ·have h3:=A5 h2 hb;refine rl.run 6 rfl ?_
    refine rl.gen rfl rfl fun b hb=>?_
    cases b
    ·have h4:=A5 h3 hb;refine rl.run 8 rfl ?_
     refine rl.gen rfl rfl fun b hb=>?_
     cases b
     ·have h5:=A5 h4 hb;refine rl.f 1 rfl ?_;cases h5
      exact ⟨_,rfl,(Gh.y0 [0,1])⟩
     ·have h6:=A4 h4 hb;refine rl.f 1 rfl ?_;cases h6
      exact ⟨_,rfl,(Gh.y0 [0,1])⟩
    ·have h7:=A4 h3 hb;refine rl.f 10 rfl ?_;cases h7
     exact ⟨_,rfl,(Gh.y0 [0,1])⟩
   ·have h8:=A4 h2 hb;refine rl.f 17 rfl ?_;cases h8
    exact ⟨_,rfl,(Gh.y0 [0,1])⟩
  ·have h9:=A4 ey1 hb;refine rl.f 23 rfl ?_;cases h9
   exact ⟨_,rfl,(Gh.y0 [0,1])⟩
 ·intro y hC
  subst hC
  cases hb:y1
  ·have h10:=A5 h1 hb;refine RW.cond_f rfl (RW.skip (RW.seq (RW.sf 1 rfl ?_)));obtain ⟨y6,ey6,h12⟩:=A2 h10
   refine RW.cutq (σ:=Unit) (fun y3=>[]) (fun y3=>[]) (fun y=>y6=.inr y) gg ?_ ?_
   ·refine RW.blk ?_
    refine RW.iter (σ:=Int) ey6 (fun s2=>[(2,.ptr 0 0),(3,.ptr 1 0),(5,.j s2)]) (fun s2=>[some ⟨A3 false x0,0⟩,some ⟨A3 false x1,0⟩]) (Gh.y0 [0,1]) (fun s2 B o hS11 hB11 hE11=>?_)
    unfold P1 at hS11;refine RW.seq (RW.sr 4 rfl ?_)
    refine rl.gen rfl rfl fun b hb=>?_
    cases b
    ·have h13:=A5 hS11 hb;refine rl.done (RW.cond_f rfl (RW.exit (C9 ?_)));cases h13
     exact ⟨_,(hE11 _ rfl).symm,(Gh.y0 [])⟩
    ·have h14:=A4 hS11 hb;refine rl.done (RW.cond_t rfl (RW.skip (RW.seq (RW.blk (RW.sdrw (A0.op rfl rfl (A0.op rfl rfl (A0.op rfl rfl ?_))))))));obtain ⟨v4,e4,h15⟩:=A2 h14;refine A0.op rfl (C1 (enc:=A8) (o:=false) rfl rfl rfl e4) ?_;refine A0.op rfl (H6 (off':=0) (vs:=(A8 false v4)) C2 rfl e4 rfl rfl rfl) ?_;refine A0.op rfl rfl (A0.op rfl rfl (A0.op rfl rfl ?_));obtain ⟨v5,e5,h16⟩:=A2 h15;refine A0.op rfl (C1 (enc:=A8) (o:=false) rfl rfl rfl e5) ?_;refine A0.op rfl (H6 (off':=0) (vs:=(A8 false v5)) C2 rfl e5 rfl rfl rfl) ?_
     refine A0.gen rfl rfl fun b hb=>?_
     cases b
     ·have h17:=A5 h16 hb;refine A0.done ?_;refine RW.kp [2,3,5,51] [(2,.ptr 0 0),(3,.ptr 1 0),(5,.j s2),(51,.bool false)] [some ⟨A3 false x0,0⟩,some ⟨A3 false x1,0⟩] rfl rfl ?_;refine RW.cond_f rfl (RW.skip (RW.reg (rl.f 3 rfl ?_)));cases h17
      exact hB11 _ rfl _ _ (Gh.y0 [0,1])
     ·have h18:=A4 h16 hb;refine A0.done ?_;refine RW.kp [2,3,5,51] [(2,.ptr 0 0),(3,.ptr 1 0),(5,.j s2),(51,.bool true)] [some ⟨A3 false x0,0⟩,some ⟨A3 false x1,0⟩] rfl rfl ?_;refine RW.cond_t rfl (RW.sf 1 rfl (RW.ret ?_));cases h18;have h19:=elimL h12 (hE11 _ rfl);cases h19
      exact RRet.y
   ·intro y3 hC
    have h12:=elimR h12 hC;refine RW.sf 1 rfl (RW.ret ?_);cases h12
    exact RRet.y
  ·have h20:=A4 h1 hb;refine RW.cond_t rfl (RW.sf 1 rfl (RW.ret ?_));cases h20
   exact RRet.y
theorem Jp {x0:TLog} {x1:TLog} {r:Bool} (hF:Au x0 x1=some r):B2 Tryz.prog 13 [.agg (A9 false x0),.agg (A9 false x1)] (.bool r):=by
 refine B2.q Za ?_;unfold Au at hF;refine RW.sf 3 rfl (RW.seq (RW.seq ?_));obtain ⟨y1,ey1,h1⟩:=A2 hF
 refine RW.cutq (σ:=Bool) (fun y1=>[(2,.ptr 0 0),(3,.ptr 1 0),(33,.bool y1)]) (fun y1=>[some ⟨A9 false x0,0⟩,some ⟨A9 false x1,0⟩]) (fun y=>y1=y) gg ?_ ?_
 ·refine RW.reg ?_;refine rl.run 6 rfl ?_
  refine rl.gen rfl rfl fun b hb=>?_
  cases b
  ·have h2:=A5 ey1 hb;refine rl.run 5 rfl ?_
   refine rl.gen rfl rfl fun b hb=>?_
   cases b
   ·have h3:=A5 h2 hb;refine rl.run 6 rfl ?_
    refine rl.gen rfl rfl fun b hb=>?_
    cases b
    ·have h4:=A5 h3 hb;refine rl.run 6 rfl ?_
     refine rl.gen rfl rfl fun b hb=>?_
     cases b
     ·have h5:=A5 h4 hb;refine rl.f 1 rfl ?_;cases h5
      exact ⟨_,rfl,(Gh.y0 [0,1])⟩
     ·have h6:=A4 h4 hb;refine rl.f 1 rfl ?_;cases h6
      exact ⟨_,rfl,(Gh.y0 [0,1])⟩
    ·have h7:=A4 h3 hb;refine rl.f 8 rfl ?_;cases h7
     exact ⟨_,rfl,(Gh.y0 [0,1])⟩
   ·have h8:=A4 h2 hb;refine rl.f 15 rfl ?_;cases h8
    exact ⟨_,rfl,(Gh.y0 [0,1])⟩
  ·have h9:=A4 ey1 hb;refine rl.f 21 rfl ?_;cases h9
   exact ⟨_,rfl,(Gh.y0 [0,1])⟩
 ·intro y hC
  subst hC
  cases hb:y1
  ·have h10:=A5 h1 hb;refine RW.cond_f rfl (RW.skip (RW.seq (RW.sf 1 rfl ?_)));obtain ⟨y7,ey7,h12⟩:=A2 h10
   refine RW.cutq (σ:=Unit) (fun y3=>[]) (fun y3=>[]) (fun y=>y7=.inr y) gg ?_ ?_
   ·refine RW.blk ?_
    refine RW.iter (σ:=Int) ey7 (fun s2=>[(2,.ptr 0 0),(3,.ptr 1 0),(5,.j s2)]) (fun s2=>[some ⟨A9 false x0,0⟩,some ⟨A9 false x1,0⟩]) (Gh.y0 [0,1]) (fun s2 B o hS11 hB11 hE11=>?_)
    unfold Dd at hS11;refine RW.seq (RW.sr 4 rfl ?_)
    refine rl.gen rfl rfl fun b hb=>?_
    cases b
    ·have h13:=A5 hS11 hb;refine rl.done (RW.cond_f rfl (RW.exit (C9 ?_)));cases h13
     exact ⟨_,(hE11 _ rfl).symm,(Gh.y0 [])⟩
    ·have h14:=A4 hS11 hb;refine rl.done (RW.cond_t rfl (RW.skip (RW.seq (RW.blk (RW.sdrw (A0.op rfl rfl (A0.op rfl rfl (A0.op rfl rfl ?_))))))));obtain ⟨v4,e4,h15⟩:=A2 h14;refine A0.op rfl (C1 (enc:=A3) (o:=false) rfl rfl rfl e4) ?_;refine A0.op rfl (H6 (off':=0) (vs:=(A3 false v4)) B3 rfl e4 rfl rfl rfl) ?_;refine A0.op rfl rfl (A0.op rfl rfl (A0.op rfl rfl ?_));obtain ⟨v5,e5,h16⟩:=A2 h15;refine A0.op rfl (C1 (enc:=A3) (o:=false) rfl rfl rfl e5) ?_;refine A0.op rfl (H6 (off':=0) (vs:=(A3 false v5)) B3 rfl e5 rfl rfl rfl) ?_;obtain ⟨v6,e6,h17⟩:=A2 h16;refine A0.call rfl rfl rfl (A7.y (r':=.bool v6) (Fv e6) ⟨rfl,?_⟩)
     cases hb:v6
     ·have h18:=A5 h17 hb;refine A0.op rfl rfl (A0.done ?_);refine RW.kp [2,3,5,52] [(2,.ptr 0 0),(3,.ptr 1 0),(5,.j s2),(52,.bool true)] [some ⟨A9 false x0,0⟩,some ⟨A9 false x1,0⟩] rfl rfl ?_;refine RW.cond_t rfl (RW.sf 1 rfl (RW.ret ?_));cases h18;have h19:=elimL h12 (hE11 _ rfl);cases h19
      exact RRet.y
     ·have h20:=A4 h17 hb;refine A0.op rfl rfl (A0.done ?_);refine RW.kp [2,3,5,52] [(2,.ptr 0 0),(3,.ptr 1 0),(5,.j s2),(52,.bool false)] [some ⟨A9 false x0,0⟩,some ⟨A9 false x1,0⟩] rfl rfl ?_;refine RW.cond_f rfl (RW.skip (RW.reg (rl.f 3 rfl ?_)));cases h20
      exact hB11 _ rfl _ _ (Gh.y0 [0,1])
   ·intro y3 hC
    have h12:=elimR h12 hC;refine RW.sf 1 rfl (RW.ret ?_);cases h12
    exact RRet.y
  ·have h21:=A4 h1 hb;refine RW.cond_t rfl (RW.sf 1 rfl (RW.ret ?_));cases h21
   exact RRet.y
theorem Qc {x0:List TItem} {x1:List TItem} {r:Bool} (hF:Y9 x0 x1=some r):B2 Tryz.prog 15 [E8 x0,E8 x1] (.bool r):=by
 refine B2.q Vm ?_;unfold Y9 at hF;refine RW.sf 1 rfl (RW.seq (RW.sr 4 rfl ?_))
 refine rl.gen rfl rfl fun b hb=>?_
 cases b
 ·have h1:=A5 hF hb;refine rl.done (RW.cond_f rfl (RW.skip (RW.seq (RW.sf 1 rfl ?_))));obtain ⟨y5,ey5,h3⟩:=A2 h1
  refine RW.cutq (σ:=Unit) (fun y2=>[]) (fun y2=>[]) (fun y=>y5=.inr y) gg ?_ ?_
  ·refine RW.blk ?_
   refine RW.iter (σ:=Int) ey5 (fun s1=>[(0,E8 x0),(1,E8 x1),(5,.j s1)]) (fun s1=>[]) (Gh.y0 []) (fun s1 B o hS2 hB2 hE2=>?_)
   unfold Bg at hS2;refine RW.seq (RW.sr 3 rfl ?_)
   refine rl.gen rfl rfl fun b hb=>?_
   cases b
   ·have h4:=A5 hS2 hb;refine rl.done (RW.cond_f rfl (RW.exit (C9 ?_)));cases h4
    exact ⟨_,(hE2 _ rfl).symm,(Gh.y0 [])⟩
   ·have h5:=A4 hS2 hb;refine rl.done (RW.cond_t rfl (RW.skip (RW.seq (RW.blk (RW.sdrw (A0.op rfl rfl (A0.op rfl rfl ?_)))))));obtain ⟨v3,e3,h6⟩:=A2 h5;refine A0.op rfl (C1 (enc:=A8) (o:=false) rfl rfl rfl e3) ?_;refine A0.op rfl (H6 (off':=0) (vs:=(A8 false v3)) C2 rfl e3 rfl rfl rfl) ?_;refine A0.op rfl rfl (A0.op rfl rfl ?_);obtain ⟨v4,e4,h7⟩:=A2 h6;refine A0.op rfl (C1 (enc:=A8) (o:=false) rfl rfl rfl e4) ?_;refine A0.op rfl (H6 (off':=0) (vs:=(A8 false v4)) C2 rfl e4 rfl rfl rfl) ?_
    refine A0.gen rfl rfl fun b hb=>?_
    cases b
    ·have h8:=A5 h7 hb;refine A0.done ?_;refine RW.kp [0,1,5,25] [(0,E8 x0),(1,E8 x1),(5,.j s1),(25,.bool false)] [] rfl rfl ?_;refine RW.cond_f rfl (RW.skip (RW.reg (rl.f 3 rfl ?_)));cases h8
     exact hB2 _ rfl _ _ (Gh.y0 [])
    ·have h9:=A4 h7 hb;refine A0.done ?_;refine RW.kp [0,1,5,25] [(0,E8 x0),(1,E8 x1),(5,.j s1),(25,.bool true)] [] rfl rfl ?_;refine RW.cond_t rfl (RW.sf 1 rfl (RW.ret ?_));cases h9;have h10:=elimL h3 (hE2 _ rfl);cases h10
     exact RRet.y
  ·intro y2 hC
   have h3:=elimR h3 hC;refine RW.sf 1 rfl (RW.ret ?_);cases h3
   exact RRet.y
 ·have h11:=A4 hF hb;refine rl.done (RW.cond_t rfl (RW.sf 1 rfl (RW.ret ?_)));cases h11
  exact RRet.y
theorem Fx {x0:TLog} {r:List TItem} (hF:V7 x0=some r):B2 Tryz.prog 17 [.agg (A9 false x0)] (.lst true 9 (fl (A8 true) r) r.length):=by
 refine B2.q Zw ?_;unfold V7 at hF;refine RW.sf 2 rfl (RW.sf 2 rfl (RW.seq (RW.sf 1 rfl ?_)));refine RW.gh (Gh.nil_t 3 9 rfl) ?_;obtain ⟨y5,ey5,h2⟩:=A2 hF
 refine RW.cutq (σ:=(List TItem)) (fun y2=>[(3,.sl 0 0 y2.length)]) (fun y2=>[some ⟨fl (A8 true) y2,9⟩]) (fun y=>y5=y) gg ?_ ?_
 ·refine RW.blk ?_
  refine RW.iter (σ:=Int×(List TItem)) ey5 (fun s1=>[(1,.ptr 0 0),(3,.sl 1 0 s1.2.length),(4,.j s1.1)]) (fun s1=>[some ⟨A9 false x0,0⟩,some ⟨fl (A8 true) s1.2,9⟩]) (Gh.y0 [0,1]) (fun s1 B o hS1 hB1 hE1=>?_)
  unfold Dj at hS1;refine RW.seq (RW.sr 4 rfl ?_)
  refine rl.gen rfl rfl fun b hb=>?_
  cases b
  ·have h3:=A5 hS1 hb;refine rl.done (RW.cond_f rfl (RW.exit (C9 ?_)));cases h3
   exact ⟨_,(hE1 _ rfl).symm,(Gh.y0 [1])⟩
  ·have h4:=A4 hS1 hb;refine rl.done (RW.cond_t rfl (RW.skip (RW.seq (RW.blk (RW.reg (rl.run 4 rfl ?_))))));obtain ⟨v3,e3,h5⟩:=A2 h4;refine rl.op (C1 (enc:=A3) (o:=false) rfl rfl rfl e3) ?_;refine rl.run 1 rfl ?_;refine rl.op (E7 (off':=3) B3 rfl e3 rfl rfl rfl) ?_;obtain ⟨v4,e4,h6⟩:=A2 h5;refine rl.op (U2 rfl rfl (R6 (l:=s1.2) (m:=v3.Items) (o:=true) C2 rfl rfl Bq rfl (M9.fst _ _) e4)) ?_;refine rl.f 1 rfl (RW.reg (rl.f 3 rfl ?_));cases h6
   exact hB1 _ rfl _ _ (Gh.y0 [0,2])
 ·intro y2 hC
  subst hC;refine RW.sf 2 rfl (RW.ret ?_);cases h2
  exact RRet.y
theorem Fa {x0:List Int} {B0_ o0_:Nat} {r:TL01Cur} (hF:T1 x0=some r):C5 Tryz.prog 0 47 [pvB B0_ o0_ x0] [] (.ptr 0 0) [some ⟨[pvB B0_ o0_ x0,.j r.mI,.j r.mH],0⟩]:=by
 refine C5.p A19 ?_;unfold T1 at hF;refine RW.sf 1 rfl (RW.sf 4 rfl (RW.seq (RW.sf 1 rfl ?_)));obtain ⟨y5,ey5,h2⟩:=A2 hF
 refine RW.cutq (σ:=Int) (fun y2=>[(0,pvB B0_ o0_ x0),(3,.j y2)]) (fun y2=>[]) (fun y=>y5=y) gg ?_ ?_
 ·refine RW.blk ?_
  refine RW.iter (σ:=Int×Int) ey5 (fun s1=>[(0,pvB B0_ o0_ x0),(3,.j s1.1),(4,.j s1.2)]) (fun s1=>[]) (Gh.y0 []) (fun s1 B o hS1 hB1 hE1=>?_)
  unfold Cc at hS1;refine RW.seq (RW.seq ?_);obtain ⟨y3,ey3,h3⟩:=A2 hS1
  refine RW.cutq (σ:=Bool) (fun y3=>[(0,pvB B0_ o0_ x0),(3,.j s1.1),(4,.j s1.2),(15,.bool y3)]) (fun y3=>[]) (fun y=>y3=y) gg ?_ ?_
  ·refine RW.reg ?_;refine rl.run 3 rfl ?_
   refine rl.gen rfl rfl fun b hb=>?_
   cases b
   ·have h4:=A5 ey3 hb;refine rl.f 4 rfl ?_;cases h4
    exact ⟨_,rfl,(Gh.y0 [])⟩
   ·have h5:=A4 ey3 hb;refine rl.run 2 rfl ?_
    refine rl.gen rfl rfl fun b hb=>?_
    cases b
    ·have h6:=A5 h5 hb;refine rl.f 1 rfl ?_;cases h6
     exact ⟨_,rfl,(Gh.y0 [])⟩
    ·have h7:=A4 h5 hb;refine rl.f 1 rfl ?_;cases h7
     exact ⟨_,rfl,(Gh.y0 [])⟩
  ·intro y hC
   subst hC
   cases hb:y3
   ·have h8:=A5 h3 hb;refine RW.cond_f rfl (RW.exit (C9 ?_));cases h8
    exact ⟨_,(hE1 _ rfl).symm,(Gh.y0 [])⟩
   ·have h9:=A4 h3 hb;refine RW.cond_t rfl (RW.skip (RW.seq (RW.blk (RW.reg (rl.run 4 rfl ?_)))));obtain ⟨v4,e4,h10⟩:=A2 h9;refine rl.op (Aa2 (enc:=encB) (o:=false) rfl rfl rfl e4) ?_;refine rl.op (E7 (off':=0) ekB rfl e4 rfl rfl rfl) ?_;refine rl.f 5 rfl (RW.reg (rl.f 3 rfl ?_));cases h10
    exact hB1 _ rfl _ _ (Gh.y0 [])
 ·intro y2 hC
  subst hC;refine RW.sf 5 rfl (RW.ret ?_);cases h2
  exact RRetM.m [0] Gh.refl
theorem V3 {x0:TL01Cur} {B0_ o0_:Nat} {r:Int×TL01Cur} (hF:L3 x0=some r):C5 Tryz.prog 0 48 [.ptr 0 0] [some ⟨[pvB B0_ o0_ x0.mB,.j x0.mI,.j x0.mH],0⟩] (.j r.1) [some ⟨[pvB B0_ o0_ x0.mB,.j r.2.mI,.j r.2.mH],0⟩]:=by
 refine C5.q Ym ?_;unfold L3 at hF;refine RW.sf 1 rfl (RW.sf 10 rfl (RW.sdrw (A0.op rfl rfl (A0.op rfl rfl (A0.op rfl rfl (A0.op rfl rfl (A0.op rfl rfl ?_)))))));refine A0.op rfl rfl (A0.op rfl rfl (A0.op rfl rfl (A0.op rfl rfl (A0.op rfl rfl (A0.op rfl rfl (A0.op rfl rfl (A0.op rfl rfl (A0.done ?_))))))));refine RW.kp [0,3] [(0,.ptr 0 0),(3,.j (andv .i64 (xorv .i64 (shrv .i64 (w64 ((w64 (x0.mH*6364136223846793005))+1442695040888963407)) 33) (shrv .i64 (w64 ((w64 (x0.mH*6364136223846793005))+1442695040888963407)) 45)) 255))] [some ⟨[pvB B0_ o0_ x0.mB,.j x0.mI,.j (w64 ((w64 (x0.mH*6364136223846793005))+1442695040888963407))],0⟩] rfl rfl ?_;refine RW.seq (RW.sdrw (A0.op rfl rfl (A0.op rfl rfl (A0.op rfl rfl (A0.op rfl rfl (A0.op rfl rfl (A0.op rfl rfl (A0.op rfl rfl (A0.op rfl rfl (A0.op rfl rfl ?_))))))))))
 refine A0.gen rfl rfl fun b hb=>?_
 cases b
 ·have h1:=A5 hF hb;refine A0.done (RW.cond_f rfl (RW.skip (RW.sf 2 rfl ?_)));refine RW.kp [2] [(2,.j (andv .i64 (xorv .i64 (shrv .i64 (w64 ((w64 (x0.mH*6364136223846793005))+1442695040888963407)) 33) (shrv .i64 (w64 ((w64 (x0.mH*6364136223846793005))+1442695040888963407)) 45)) 255))] [some ⟨[pvB B0_ o0_ x0.mB,.j x0.mI,.j (w64 ((w64 (x0.mH*6364136223846793005))+1442695040888963407))],0⟩] rfl rfl ?_;refine RW.ret ?_;cases h1
  exact RRetS.m (Gh.rN [0])
 ·have h2:=A4 hF hb;refine A0.done (RW.cond_t rfl (RW.sdrw (A0.op rfl rfl (A0.op rfl rfl (A0.op rfl rfl (A0.op rfl rfl (A0.op rfl rfl (A0.op rfl rfl (A0.op rfl rfl (A0.op rfl rfl (A0.op rfl rfl ?_)))))))))));obtain ⟨v1,e1,h3⟩:=A2 h2;refine A0.op rfl (C1 (enc:=encB) (o:=false) rfl rfl rfl e1) ?_;refine A0.op rfl (E7 (off':=0) ekB rfl e1 rfl rfl rfl) ?_;refine A0.op rfl rfl (A0.op rfl rfl (A0.op rfl rfl (A0.op rfl rfl (A0.done ?_))));refine RW.kp [0,3] [(0,.ptr 0 0),(3,.j (andv .i64 (w64 ((andv .i64 (xorv .i64 (shrv .i64 (w64 ((w64 (x0.mH*6364136223846793005))+1442695040888963407)) 33) (shrv .i64 (w64 ((w64 (x0.mH*6364136223846793005))+1442695040888963407)) 45)) 255)+(w64 v1))) 255))] [some ⟨[pvB B0_ o0_ x0.mB,.j x0.mI,.j (w64 ((w64 (x0.mH*6364136223846793005))+1442695040888963407))],0⟩] rfl rfl ?_;refine RW.reg (rl.f 9 rfl (RW.sf 2 rfl ?_));refine RW.kp [2] [(2,.j (andv .i64 (w64 ((andv .i64 (xorv .i64 (shrv .i64 (w64 ((w64 (x0.mH*6364136223846793005))+1442695040888963407)) 33) (shrv .i64 (w64 ((w64 (x0.mH*6364136223846793005))+1442695040888963407)) 45)) 255)+(w64 v1))) 255))] [some ⟨[pvB B0_ o0_ x0.mB,.j (w64 (x0.mI+1)),.j (w64 ((w64 (x0.mH*6364136223846793005))+1442695040888963407))],0⟩] rfl rfl ?_;refine RW.ret ?_;cases h3
  exact RRetS.m (Gh.rN [0])
theorem C7 {x0:TL01Cur} {x1:Int} {B0_ o0_:Nat} {r:Int×TL01Cur} (hF:C6 x0 x1=some r):C5 Tryz.prog 0 49 [.ptr 0 0,.j x1] [some ⟨[pvB B0_ o0_ x0.mB,.j x0.mI,.j x0.mH],0⟩] (.j r.1) [some ⟨[pvB B0_ o0_ x0.mB,.j r.2.mI,.j r.2.mH],0⟩]:=by
 refine C5.q Xb ?_;unfold C6 at hF;refine RW.sf 1 rfl (RW.seq (RW.sr 1 rfl ?_))
 refine rl.gen rfl rfl fun b hb=>?_
 cases b
 ·have h1:=A5 hF hb;refine rl.done (RW.cond_f rfl (RW.skip (RW.seq (RW.sr 1 rfl ?_))))
  refine rl.gen rfl rfl fun b hb=>?_
  cases b
  ·have h2:=A5 h1 hb;refine rl.done (RW.cond_f rfl (RW.skip (RW.sr 1 rfl ?_)));obtain ⟨v1,e1,h3⟩:=A2 h2;refine rl.call rfl rfl rfl (A7.eN (r0:=.j v1.1) (H':=[some ⟨[pvB B0_ o0_ x0.mB,.j v1.2.mI,.j v1.2.mH],0⟩]) [⟨[pvB B0_ o0_ x0.mB,.j x0.mI,.j x0.mH],0⟩] [⟨[pvB B0_ o0_ x0.mB,.j v1.2.mI,.j v1.2.mH],0⟩] [] [0] [pvB B0_ o0_ x0.mB] (V3 e1) ?_);refine rl.f 1 rfl (RW.sr 1 rfl ?_);obtain ⟨v2,e2,h4⟩:=A2 h3;refine rl.call rfl rfl rfl (A7.eN (r0:=.j v2.1) (H':=[some ⟨[pvB B0_ o0_ x0.mB,.j v2.2.mI,.j v2.2.mH],0⟩]) [⟨[pvB B0_ o0_ x0.mB,.j v1.2.mI,.j v1.2.mH],0⟩] [⟨[pvB B0_ o0_ x0.mB,.j v2.2.mI,.j v2.2.mH],0⟩] [] [0] [pvB B0_ o0_ x0.mB] (V3 e2) ?_);refine rl.f 1 rfl (RW.sr 1 rfl ?_);obtain ⟨v3,e3,h5⟩:=A2 h4;refine rl.call rfl rfl rfl (A7.eN (r0:=.j v3.1) (H':=[some ⟨[pvB B0_ o0_ x0.mB,.j v3.2.mI,.j v3.2.mH],0⟩]) [⟨[pvB B0_ o0_ x0.mB,.j v2.2.mI,.j v2.2.mH],0⟩] [⟨[pvB B0_ o0_ x0.mB,.j v3.2.mI,.j v3.2.mH],0⟩] [] [0] [pvB B0_ o0_ x0.mB] (V3 e3) ?_);refine rl.f 1 rfl ?_;refine RW.kp [0,1,5,6,7] [(0,.ptr 0 0),(1,.j x1),(5,.j v1.1),(6,.j v2.1),(7,.j v3.1)] [some ⟨[pvB B0_ o0_ x0.mB,.j v3.2.mI,.j v3.2.mH],0⟩] rfl rfl ?_;refine RW.sr 1 rfl ?_;obtain ⟨v4,e4,h6⟩:=A2 h5;refine rl.call rfl rfl rfl (A7.eN (r0:=.j v4.1) (H':=[some ⟨[pvB B0_ o0_ x0.mB,.j v4.2.mI,.j v4.2.mH],0⟩]) [⟨[pvB B0_ o0_ x0.mB,.j v3.2.mI,.j v3.2.mH],0⟩] [⟨[pvB B0_ o0_ x0.mB,.j v4.2.mI,.j v4.2.mH],0⟩] [] [0] [pvB B0_ o0_ x0.mB] (V3 e4) ?_);refine rl.f 1 rfl (RW.sr 11 rfl ?_);obtain ⟨v5,e5,h7⟩:=A2 h6;refine rl.op (A8m rfl rfl e5) ?_;refine rl.f 1 rfl ?_;refine RW.kp [4] [(4,.j v5)] [some ⟨[pvB B0_ o0_ x0.mB,.j v4.2.mI,.j v4.2.mH],0⟩] rfl rfl ?_;refine RW.ret ?_;cases h7
   exact RRetS.m (Gh.rN [0])
  ·have h8:=A4 h1 hb;refine rl.done (RW.cond_t rfl (RW.sr 1 rfl ?_));obtain ⟨v6,e6,h9⟩:=A2 h8;refine rl.call rfl rfl rfl (A7.eN (r0:=.j v6.1) (H':=[some ⟨[pvB B0_ o0_ x0.mB,.j v6.2.mI,.j v6.2.mH],0⟩]) [⟨[pvB B0_ o0_ x0.mB,.j x0.mI,.j x0.mH],0⟩] [⟨[pvB B0_ o0_ x0.mB,.j v6.2.mI,.j v6.2.mH],0⟩] [] [0] [pvB B0_ o0_ x0.mB] (V3 e6) ?_);refine rl.run 1 rfl ?_;obtain ⟨v7,e7,h10⟩:=A2 h9;refine rl.op (A8m rfl rfl e7) ?_;refine rl.f 1 rfl (RW.ret ?_);cases h10
   exact RRetS.m (Gh.rN [0])
 ·have h11:=A4 hF hb;refine rl.done (RW.cond_t rfl (RW.sf 1 rfl (RW.ret ?_)));cases h11
  exact RRetS.m (Gh.rN [0])
theorem Bu {x0:TL01Cur} {x1:List Int} {B0_ o0_:Nat} {r:Int×TL01Cur} (hF:H7 x0 x1=some r):C5 Tryz.prog 0 77 [.ptr 0 0,.sl 1 0 x1.length] [some ⟨[pvB B0_ o0_ x0.mB,.j x0.mI,.j x0.mH],0⟩,some ⟨fl (encI true) x1,1⟩] (.j r.1) [some ⟨[pvB B0_ o0_ x0.mB,.j r.2.mI,.j r.2.mH],0⟩,some ⟨fl (encI true) x1,1⟩]:=by
 refine C5.q Rk ?_;unfold H7 at hF;refine RW.sf 1 rfl (RW.sr 4 rfl ?_);obtain ⟨v1,e1,h1⟩:=A2 hF;refine rl.call rfl rfl rfl (A7.eN (r0:=.j v1.1) (H':=[some ⟨[pvB B0_ o0_ x0.mB,.j v1.2.mI,.j v1.2.mH],0⟩,some ⟨fl (encI true) x1,1⟩]) [⟨[pvB B0_ o0_ x0.mB,.j x0.mI,.j x0.mH],0⟩] [⟨[pvB B0_ o0_ x0.mB,.j v1.2.mI,.j v1.2.mH],0⟩] [] [0] [pvB B0_ o0_ x0.mB] (C7 e1) ?_);obtain ⟨v2,e2,h2⟩:=A2 h1;refine rl.op (P9 rfl rfl rfl rfl e2) ?_;refine rl.op (Gw (o:=true) (off':=0) ekI rfl rfl e2 rfl rfl rfl) ?_;refine rl.f 1 rfl (RW.ret ?_);cases h2
 exact RRetS.m (Gh.rN [0,1])
theorem Ft {x0:Int} {x1:Int} {r:List UInt8} (hF:M2 x0 x1=some r):B2 Tryz.prog 140 [.j x0,.int .u8 x1] (.str r):=by
 refine B2.q A06 ?_;unfold M2 at hF;refine RW.sf 1 rfl (RW.sr 1 rfl ?_);obtain ⟨v1,e1,h1⟩:=A2 hF;refine rl.op (x_ms ekB rfl rfl e1 rfl) ?_;refine rl.f 1 rfl (RW.seq (RW.sf 1 rfl ?_));obtain ⟨y6,ey6,h3⟩:=A2 h1
 refine RW.cutq (σ:=(List Int)) (fun y3=>[(5,.sl 0 0 y3.length)]) (fun y3=>[some ⟨fl (encB true) y3,1⟩]) (fun y=>y6=y) gg ?_ ?_
 ·refine RW.blk ?_
  refine RW.iter (σ:=Int×(List Int)) ey6 (fun s2=>[(0,.j x0),(1,.int .u8 x1),(5,.sl 0 0 s2.2.length),(6,.j s2.1)]) (fun s2=>[some ⟨fl (encB true) s2.2,1⟩]) (Gh.y0 [0]) (fun s2 B o hS2 hB2 hE2=>?_)
  unfold L9 at hS2;refine RW.seq (RW.sr 2 rfl ?_)
  refine rl.gen rfl rfl fun b hb=>?_
  cases b
  ·have h4:=A5 hS2 hb;refine rl.done (RW.cond_f rfl (RW.exit (C9 ?_)));cases h4
   exact ⟨_,(hE2 _ rfl).symm,(Gh.y0 [0])⟩
  ·have h5:=A4 hS2 hb;refine rl.done (RW.cond_t rfl (RW.skip (RW.seq (RW.blk (RW.reg (rl.run 3 rfl ?_))))));obtain ⟨v4,e4,h6⟩:=A2 h5;refine rl.op (P9 rfl rfl rfl rfl e4) ?_;obtain ⟨v5,e5,h7⟩:=A2 h6;refine rl.op0 (Mi (off':=0) (o:=true) (e':=x1) ekB e4 rfl rfl rfl rfl rfl rfl rfl rfl rfl e5) ?_;refine rl.done (RW.reg (rl.f 3 rfl ?_));cases h7
   exact hB2 _ rfl _ _ (Gh.ren0 [0] (.same rfl (ekB.fref _ _) .nil) rfl (.i rfl (.i rfl (.cons rfl (.slq rfl (W2 e5)) (.i rfl .nil)))))
 ·intro y3 hC
  subst hC;refine RW.sr 1 rfl ?_;refine rl.op (Hn (o:=true) (l:=y6) rfl rfl) ?_;refine rl.f 1 rfl (RW.ret ?_);cases h3
  exact RRet.y
theorem Ej {x0:TL01Cur} {x1:List (List UInt8)} {B0_ o0_:Nat} {r:(List UInt8)×TL01Cur} (hF:P5 x0 x1=some r):C5 Tryz.prog 0 138 [.ptr 0 0,.sl 1 0 x1.length] [some ⟨[pvB B0_ o0_ x0.mB,.j x0.mI,.j x0.mH],0⟩,some ⟨fl (encS true) x1,1⟩] (.str r.1) [some ⟨[pvB B0_ o0_ x0.mB,.j r.2.mI,.j r.2.mH],0⟩,some ⟨fl (encS true) x1,1⟩]:=by
 refine C5.q Yz ?_;unfold P5 at hF;refine RW.sf 1 rfl (RW.sr 4 rfl ?_);obtain ⟨v1,e1,h1⟩:=A2 hF;refine rl.call rfl rfl rfl (A7.eN (r0:=.j v1.1) (H':=[some ⟨[pvB B0_ o0_ x0.mB,.j v1.2.mI,.j v1.2.mH],0⟩,some ⟨fl (encS true) x1,1⟩]) [⟨[pvB B0_ o0_ x0.mB,.j x0.mI,.j x0.mH],0⟩] [⟨[pvB B0_ o0_ x0.mB,.j v1.2.mI,.j v1.2.mH],0⟩] [] [0] [pvB B0_ o0_ x0.mB] (C7 e1) ?_);obtain ⟨v2,e2,h2⟩:=A2 h1;refine rl.op (P9 rfl rfl rfl rfl e2) ?_;refine rl.op (Gw (o:=true) (off':=0) ekS rfl rfl e2 rfl rfl rfl) ?_;refine rl.f 1 rfl (RW.ret ?_);cases h2
 exact RRetS.m (Gh.rN [0,1])
theorem Qk {x0:TL01Cur} {B0_ o0_:Nat} {r:(List UInt8)×TL01Cur} (hF:Am x0=some r):C5 Tryz.prog 0 139 [.ptr 0 0] [some ⟨[pvB B0_ o0_ x0.mB,.j x0.mI,.j x0.mH],0⟩] (.str r.1) [some ⟨[pvB B0_ o0_ x0.mB,.j r.2.mI,.j r.2.mH],0⟩]:=by
 refine C5.q Yn ?_;unfold Am at hF;refine RW.sf 1 rfl (RW.sr 2 rfl ?_);obtain ⟨v1,e1,h1⟩:=A2 hF;refine rl.call rfl rfl rfl (A7.eN (r0:=.str v1.1) (H':=[some ⟨[pvB B0_ o0_ x0.mB,.j v1.2.mI,.j v1.2.mH],0⟩,some ⟨fl (encS true) [[104,101,108,108,111],[102,114,111,109,58,32,97,110,110,10,10,104,105],[115,117,98,106,101,99,116,58,32,120,10,10,98,111,100,121,32,111,102,32,105,116,10,46,100,111,116,10],[],[120,10,46,46,10]],1⟩]) [⟨[pvB B0_ o0_ x0.mB,.j x0.mI,.j x0.mH],0⟩,⟨fl (encS true) [[104,101,108,108,111],[102,114,111,109,58,32,97,110,110,10,10,104,105],[115,117,98,106,101,99,116,58,32,120,10,10,98,111,100,121,32,111,102,32,105,116,10,46,100,111,116,10],[],[120,10,46,46,10]],1⟩] [⟨[pvB B0_ o0_ x0.mB,.j v1.2.mI,.j v1.2.mH],0⟩,⟨fl (encS true) [[104,101,108,108,111],[102,114,111,109,58,32,97,110,110,10,10,104,105],[115,117,98,106,101,99,116,58,32,120,10,10,98,111,100,121,32,111,102,32,105,116,10,46,100,111,116,10],[],[120,10,46,46,10]],1⟩] [] [0,1] [pvB B0_ o0_ x0.mB] (Ej e1) ?_);refine rl.f 1 rfl (RW.ret ?_);cases h1
 exact RRetS.m (Gh.rN [0])
end Go.Proofs.YtldndhdohlfpgaaGreat.V
