/- What a call comes to. -/
import Derived.Test.YtldndhdohlfpgaaGreatXT
import Derived.Test.YtldndhdohlfpgaaGreatXU
namespace Go.Proofs.YtldndhdohlfpgaaGreat.V
open Go Go.Proofs Go.RowKit
set_option maxRecDepth 100000
abbrev A0r (n4:Nat) (x:TCheck):List AV:=[.j x.Stamp,.j x.NextGen,.j x.NextSeq,.j x.NextValid,.sl n4 0 x.Refs.length]
abbrev C2 (n0 n1:Nat) (x:TDisk):List AV:=[.sl n0 0 x.Sectors.length,.sl n1 0 x.Cache.length]
abbrev Q2 (n0 n1 n3:Nat) (x:TLog):List AV:=[.sl n0 0 x.Disk.Sectors.length,.sl n1 0 x.Disk.Cache.length,.j x.Segs,.sl n3 0 x.Used.length,.j x.NextGen,.j x.NextSeq,.j x.Stamp,.j x.NextValid]
abbrev J3 (n3:Nat) (x:TSeg):List AV:=[.j x.No,.j x.Gen,.j x.End,.sl n3 0 x.Items.length]
theorem SubL.i {ns:List Nat} {a:Asg} {x:Nat} {r:Asg} {k:IntKind} {n:Int} (h:get a x=some (.int k n)) (t:SubL ns a r):SubL ns a ((x,.int k n)::r):=.cons h (.dat .int) t
theorem SubL.p {ns:List Nat} {a:Asg} {x:Nat} {r:Asg} {b c o:Nat} (h:get a x=some (.ptr b o)) (g:ns[c]?=some b) (t:SubL ns a r):SubL ns a ((x,.ptr c o)::r):=.cons h (.ptr g) t
theorem OutL.i {H:AH} {k:IntKind} {n:Int} {vs rs:List AV} {d:List Nat} (t:OutL H vs rs d):OutL H (.int k n::vs) (.int k n::rs) d:=.cons .int rfl t
theorem rl.f {P:Program} {nw:Nat} {l:List RO} {a a':Asg} {H H':AH} {K:Asg→AH→Prop} (n:Nat) (h:rrun nw n l a H=some ([],a',H')) (k:K a' H'):rl P nw l K a H:=rl.run n h (rl.done k)
theorem RW.sf {P:Program} {N nw:Nat} {H0:AH} {l:List RO} {a a':Asg} {H H':AH} {y:RC} {Q:Go.Exit→Asg→AH→Prop} (n:Nat) (h:rrun nw n l a H=some ([],a',H')) (k:RW P N nw H0 y Q a' H'):RW P N nw H0 (.seq (.reg l) y) Q a H:=RW.sreg (rl.run n h (rl.done k))
theorem RRet.m {rr:List RR} {r v:AV} {ids:List Nat} {a:Asg} {H:AH} (hv:rares a H rr=some v) (ho:OutR H v r ids) (hn:ids.Nodup:=by first | decide | simp):RRet rr r .ret a H:=RRet.mk hv ho hn
theorem gg {P:Program} {N nw:Nat} {H0:AH} {rc:RC} {Q:Go.Exit→Asg→AH→Prop} (a:Asg) (H:AH) (a':Asg) (H':AH) (g:Gh nw N H0 a H a' H') (h:RW P N nw H0 rc Q a' H'):RW P N nw H0 rc Q a H:=RW.gh g h
theorem RW.sr {P:Program} {N nw:Nat} {H0:AH} {l l':List RO} {a a':Asg} {H H':AH} {y:RC} {Q:Go.Exit→Asg→AH→Prop} (n:Nat) (h:rrun nw n l a H=some (l',a',H')) (k:rl P nw l' (fun a H=>RW P N nw H0 y Q a H) a' H'):RW P N nw H0 (.seq (.reg l) y) Q a H:=RW.sreg (rl.run n h k)
theorem RnBs.c {ns:List Nat} {H:AH} {b:Nat} {bs:List Nat} {k k':ABlk} {H':AH} (hb:H[b]?=some (some k)) (he:k'.es=k.es) (h:RnC ns k.cells k'.cells) (t:RnBs ns H bs H'):RnBs ns H (b::bs) (some k'::H'):=.cells hb he h t
theorem RnC.i {ns:List Nat} {k:IntKind} {n:Int} {vs us:List AV} (t:RnC ns vs us):RnC ns (.int k n::vs) (.int k n::us):=.keep .int t
set_option maxHeartbeats 4000000
theorem Qa {x0:List TItem} {x1:List TItem} {r:Bool} (hF:Af x0 x1=some r):A7 Tryz.prog 15 [H9 x0,H9 x1] (.bool r):=by
 refine A7.q Ur ?_;unfold Af at hF;refine RW.sf 1 rfl (RW.seq (RW.sr 4 rfl ?_))
 refine rl.gen rfl rfl fun b hb=>?_
 cases b
 ·have h1:=A4 hF hb;refine rl.done (RW.cond_f rfl (RW.skip (RW.seq (RW.sf 1 rfl ?_))));obtain ⟨y5,ey5,h3⟩:=A1 h1
  refine RW.cutq (σ:=Unit) (fun y2=>[]) (fun y2=>[]) (fun y=>y5=.inr y) gg ?_ ?_
  ·refine RW.blk ?_
   refine RW.iter (σ:=Int) ey5 (fun s1=>[(0,H9 x0),(1,H9 x1),(5,.j s1)]) (fun s1=>[]) (Gh.y0 []) (fun s1 B o hS2 hB2 hE2=>?_)
   unfold Av at hS2;refine RW.seq (RW.sr 3 rfl ?_)
   refine rl.gen rfl rfl fun b hb=>?_
   cases b
   ·have h4:=A4 hS2 hb;refine rl.done (RW.cond_f rfl (RW.exit (C4 ?_)));cases h4
    exact ⟨_,(hE2 _ rfl).symm,(Gh.y0 [])⟩
   ·have h5:=A5 hS2 hb;refine rl.done (RW.cond_t rfl (RW.skip (RW.seq (RW.blk (RW.sdrw (A0.op rfl rfl (A0.op rfl rfl ?_)))))));obtain ⟨v3,e3,h6⟩:=A1 h5;refine A0.op rfl (C0 (enc:=A9) (o:=false) rfl rfl rfl e3) ?_;refine A0.op rfl (K2 (off':=0) (vs:=(A9 false v3)) C7 rfl e3 rfl rfl rfl) ?_;refine A0.op rfl rfl (A0.op rfl rfl ?_);obtain ⟨v4,e4,h7⟩:=A1 h6;refine A0.op rfl (C0 (enc:=A9) (o:=false) rfl rfl rfl e4) ?_;refine A0.op rfl (K2 (off':=0) (vs:=(A9 false v4)) C7 rfl e4 rfl rfl rfl) ?_
    refine A0.gen rfl rfl fun b hb=>?_
    cases b
    ·have h8:=A4 h7 hb;refine A0.done ?_;refine RW.kp [0,1,5,25] [(0,H9 x0),(1,H9 x1),(5,.j s1),(25,.bool false)] [] rfl rfl ?_;refine RW.cond_f rfl (RW.skip (RW.reg (rl.f 3 rfl ?_)));cases h8
     exact hB2 _ rfl _ _ (Gh.y0 [])
    ·have h9:=A5 h7 hb;refine A0.done ?_;refine RW.kp [0,1,5,25] [(0,H9 x0),(1,H9 x1),(5,.j s1),(25,.bool true)] [] rfl rfl ?_;refine RW.cond_t rfl (RW.sf 1 rfl (RW.ret ?_));cases h9;have h10:=elimL h3 (hE2 _ rfl);cases h10
     exact RRet.y
  ·intro y2 hC
   have h3:=elimR h3 hC;refine RW.sf 1 rfl (RW.ret ?_);cases h3
   exact RRet.y
 ·have h11:=A5 hF hb;refine rl.done (RW.cond_t rfl (RW.sf 1 rfl (RW.ret ?_)));cases h11
  exact RRet.y
theorem Un {x0:TLog} {r:List TItem} (hF:W2 x0=some r):A7 Tryz.prog 16 [.agg (B5 false x0)] (.lst true 9 (fl (A9 true) r) r.length):=by
 refine A7.q A03 ?_;unfold W2 at hF;refine RW.sf 2 rfl (RW.sf 2 rfl (RW.seq (RW.sf 4 rfl ?_)));refine RW.gh (Gh.nil_t 3 9 rfl) ?_;obtain ⟨y5,ey5,h2⟩:=A1 hF
 refine RW.cutq (σ:=(List TItem)) (fun y2=>[(3,.sl 0 0 y2.length)]) (fun y2=>[some ⟨fl (A9 true) y2,9⟩]) (fun y=>y5=y) gg ?_ ?_
 ·refine RW.blk ?_
  refine RW.iter (σ:=Int×(List TItem)) ey5 (fun s1=>[(3,.sl 0 0 s1.2.length),(8,Q1 x0.Used),(9,.j (x0.Used.length:Int)),(10,.j s1.1)]) (fun s1=>[some ⟨fl (A9 true) s1.2,9⟩]) (Gh.y0 [1]) (fun s1 B o hS1 hB1 hE1=>?_)
  unfold Dd at hS1;refine RW.sreg ?_
  refine rl.gen rfl rfl fun b hb=>?_
  cases b
  ·have h3:=A4 hS1 hb;refine rl.done (RW.seq (RW.cond_f rfl (RW.exit (C4 ?_))));cases h3
   exact ⟨_,(hE1 _ rfl).symm,(Gh.y0 [0])⟩
  ·have h4:=A5 hS1 hb;refine rl.done (RW.seq (RW.cond_t rfl (RW.skip (RW.seq (RW.blk (RW.sreg ?_))))));obtain ⟨v3,e3,h5⟩:=A1 h4;refine rl.op (C0 (enc:=A8) (o:=false) rfl rfl rfl e3) ?_;refine rl.op (K2 (off':=0) (vs:=(A8 false v3)) B3 rfl e3 rfl rfl rfl) ?_;refine rl.f 2 rfl (RW.reg (rl.run 3 rfl ?_));obtain ⟨v4,e4,h6⟩:=A1 h5;refine rl.op (Ar rfl rfl (Y4 (l:=s1.2) (m:=v3.Items) (o:=true) C7 rfl rfl Fm rfl (Cb.fst _ _) e4)) ?_;refine rl.f 1 rfl (RW.reg (rl.f 2 rfl ?_));cases h6
   exact hB1 _ rfl _ _ (Gh.y0 [2])
 ·intro y2 hC
  subst hC;refine RW.sf 2 rfl (RW.ret ?_);cases h2
  exact RRet.y
theorem Pz {x0:TSeg} {x1:TSeg} {r:Bool} (hF:Aj x0 x1=some r):C5 Tryz.prog 1 59 [.agg (A8 false x0),.ptr 0 0] [some ⟨A8 false x1,0⟩] (.bool r) [some ⟨A8 false x1,0⟩]:=by
 refine C5.q Yi ?_;unfold Aj at hF;refine RW.sf 2 rfl (RW.sf 6 rfl (RW.ret ?_));cases hF
 exact RRetS.m (Gh.rN [0])
theorem Et {x0:List TSeg} {x1:TSeg} {r:Int} (hF:J5 x0 x1=some r):C5 Tryz.prog 1 117 [Q1 x0,.fn 59 [.ptr 0 0]] [some ⟨A8 false x1,0⟩] (.j r) [some ⟨A8 false x1,0⟩]:=by
 refine C5.q Kq ?_;unfold J5 at hF;refine RW.sf 1 rfl (RW.seq (RW.sf 3 rfl ?_));obtain ⟨y5,ey5,h2⟩:=A1 hF
 refine RW.cutq (σ:=Unit) (fun y2=>[]) (fun y2=>[some ⟨A8 false x1,0⟩]) (fun y=>y5=.inr y) gg ?_ ?_
 ·refine RW.blk ?_
  refine RW.iter (σ:=Int) ey5 (fun s1=>[(0,Q1 x0),(1,.fn 59 [.ptr 0 0]),(7,.j (x0.length:Int)),(8,.j s1)]) (fun s1=>[some ⟨A8 false x1,0⟩]) (Gh.rN [0]) (fun s1 B o hS1 hB1 hE1=>?_)
  unfold K8 at hS1;refine RW.sreg ?_
  refine rl.gen rfl rfl fun b hb=>?_
  cases b
  ·have h3:=A4 hS1 hb;refine rl.done (RW.seq (RW.cond_f rfl (RW.exit (C4 ?_))));cases h3
   exact ⟨_,(hE1 _ rfl).symm,(Gh.rN [0])⟩
  ·have h4:=A5 hS1 hb;refine rl.done (RW.seq (RW.cond_t rfl (RW.skip (RW.seq (RW.blk (RW.sf 2 rfl (RW.sr 3 rfl ?_)))))));obtain ⟨v3,e3,h5⟩:=A1 h4;refine rl.op (C0 (enc:=A8) (o:=false) rfl rfl rfl e3) ?_;refine rl.op (K2 (off':=0) (vs:=(A8 false v3)) B3 rfl e3 rfl rfl rfl) ?_;obtain ⟨v4,e4,h6⟩:=A1 h5;refine rl.call rfl rfl rfl (A6.eR [0] (Pz e4) ?_)
   cases hb:v4
   ·have h7:=A4 h6 hb;refine rl.done (RW.cond_f rfl (RW.skip (RW.reg (rl.f 2 rfl ?_))));cases h7
    exact hB1 _ rfl _ _ (Gh.rN [0])
   ·have h8:=A5 h6 hb;refine rl.done (RW.cond_t rfl (RW.sf 2 rfl ?_));refine RW.kp [4] [(4,.j s1)] [some ⟨A8 false x1,0⟩] rfl rfl ?_;refine RW.ret ?_;cases h8;have h9:=elimL h2 (hE1 _ rfl);cases h9
    exact RRetS.m (Gh.rN [0])
 ·intro y2 hC
  have h2:=elimR h2 hC;refine RW.sf 1 rfl (RW.ret ?_);cases h2
  exact RRetS.m (Gh.rN [0])
theorem Ds {x0:List TSeg} {x1:TSeg} {r:Bool} (hF:E5 x0 x1=some r):C5 Tryz.prog 1 50 [Q1 x0,.fn 59 [.ptr 0 0]] [some ⟨A8 false x1,0⟩] (.bool r) [some ⟨A8 false x1,0⟩]:=by
 refine C5.q Hx ?_;unfold E5 at hF;refine RW.sf 1 rfl (RW.sr 2 rfl ?_);obtain ⟨v1,e1,h1⟩:=A1 hF;refine rl.call rfl rfl rfl (A6.eR [0] (Et e1) ?_);refine rl.f 2 rfl (RW.ret ?_);cases h1
 exact RRetS.m (Gh.rN [0])
theorem Ta {x0:List UInt8} {r:Bool} (hF:W9 x0=some r):A7 Tryz.prog 120 [.str x0] (.bool r):=by
 refine A7.q Ww ?_;unfold W9 at hF;refine RW.sf 1 rfl (RW.sf 4 rfl (RW.ret ?_));cases hF
 exact RRet.y
theorem Dl {x0:List (List UInt8)} {r:Int} (hF:F9 x0=some r):A7 Tryz.prog 164 [L_S x0,.fn 120 []] (.j r):=by
 refine A7.q Hz ?_;unfold F9 at hF;refine RW.sf 1 rfl (RW.seq (RW.sf 3 rfl ?_));obtain ⟨y5,ey5,h2⟩:=A1 hF
 refine RW.cutq (σ:=Unit) (fun y2=>[]) (fun y2=>[]) (fun y=>y5=.inr y) gg ?_ ?_
 ·refine RW.blk ?_
  refine RW.iter (σ:=Int) ey5 (fun s1=>[(0,L_S x0),(1,.fn 120 []),(7,.j (x0.length:Int)),(8,.j s1)]) (fun s1=>[]) (Gh.y0 []) (fun s1 B o hS1 hB1 hE1=>?_)
  unfold J2 at hS1;refine RW.sreg ?_
  refine rl.gen rfl rfl fun b hb=>?_
  cases b
  ·have h3:=A4 hS1 hb;refine rl.done (RW.seq (RW.cond_f rfl (RW.exit (C4 ?_))));cases h3
   exact ⟨_,(hE1 _ rfl).symm,(Gh.y0 [])⟩
  ·have h4:=A5 hS1 hb;refine rl.done (RW.seq (RW.cond_t rfl (RW.skip (RW.seq (RW.blk (RW.sf 2 rfl (RW.sr 3 rfl ?_)))))));obtain ⟨v3,e3,h5⟩:=A1 h4;refine rl.op (C0 (enc:=encS) (o:=false) rfl rfl rfl e3) ?_;refine rl.op (H7 (off':=0) ekS rfl e3 rfl rfl rfl) ?_;obtain ⟨v4,e4,h6⟩:=A1 h5;refine rl.call rfl rfl rfl (A6.y (r':=.bool v4) (Ta e4) ?_)
   cases hb:v4
   ·have h7:=A4 h6 hb;refine rl.done (RW.cond_f rfl (RW.skip (RW.reg (rl.f 2 rfl ?_))));cases h7
    exact hB1 _ rfl _ _ (Gh.y0 [])
   ·have h8:=A5 h6 hb;refine rl.done (RW.cond_t rfl (RW.sf 2 rfl ?_));refine RW.kp [4] [(4,.j s1)] [] rfl rfl ?_;refine RW.ret ?_;cases h8;have h9:=elimL h2 (hE1 _ rfl);cases h9
    exact RRet.y
 ·intro y2 hC
  have h2:=elimR h2 hC;refine RW.sf 1 rfl (RW.ret ?_);cases h2
  exact RRet.y
theorem Bu {x0:List (List UInt8)} {r:Bool} (hF:E8 x0=some r):A7 Tryz.prog 119 [L_S x0,.fn 120 []] (.bool r):=by
 refine A7.q Gd ?_;unfold E8 at hF;refine RW.sf 1 rfl (RW.sr 2 rfl ?_);obtain ⟨v1,e1,h1⟩:=A1 hF;refine rl.call rfl rfl rfl (A6.y (r':=.j v1) (Dl e1) ?_);refine rl.f 2 rfl (RW.ret ?_);cases h1
 exact RRet.y
theorem C9 {x0:Int} {x1:Int} {x2:Int} {r:Bool} (hF:D3 x0 x1 x2=some r):A7 Tryz.prog 57 [.j x0,.j x1,.j x2] (.bool r):=by
 refine A7.q A6u ?_;unfold D3 at hF;refine RW.sf 1 rfl (RW.sr 2 rfl ?_)
 refine rl.gen rfl rfl fun b hb=>?_
 cases b
 ·have h1:=A4 hF hb;refine rl.f 6 rfl ?_;refine RW.kp [6] [(6,.bool false)] [] rfl rfl ?_;refine RW.ret ?_;cases h1
  exact RRet.y
 ·have h2:=A5 hF hb;refine rl.f 6 rfl ?_;refine RW.kp [6] [(6,.bool (decide (x0≤x2)))] [] rfl rfl ?_;refine RW.ret ?_;cases h2
  exact RRet.y
theorem Mx {x0:TWrite} {x1:TDisk} {r:Bool} (hF:T2 x0 x1=some r):C5 Tryz.prog 1 122 [.agg (A2 false x0),.ptr 0 0] [some ⟨A3 false x1,0⟩] (.bool r) [some ⟨A3 false x1,0⟩]:=by
 refine C5.q Wu ?_;unfold T2 at hF;refine RW.sf 2 rfl (RW.sr 6 rfl ?_);obtain ⟨v1,e1,h1⟩:=A1 hF;refine rl.call rfl rfl rfl (A6.y (r':=.bool v1) (C9 e1) ?_)
 cases hb:v1
 ·have h2:=A4 h1 hb;refine rl.f 8 rfl ?_;refine RW.kp [3] [(3,.bool true)] [some ⟨A3 false x1,0⟩,some ⟨A2 false x0,0⟩] rfl rfl ?_;refine RW.ret ?_;cases h2
  exact RRetS.m (Gh.rN [0])
 ·have h3:=A5 h1 hb;refine rl.f 8 rfl ?_;refine RW.kp [3] [(3,.bool ((x0.Text.length:Int) != 32))] [some ⟨A3 false x1,0⟩,some ⟨A2 false x0,0⟩] rfl rfl ?_;refine RW.ret ?_;cases h3
  exact RRetS.m (Gh.rN [0])
theorem Dt {x0:List TWrite} {x1:TDisk} {r:Int} (hF:G5 x0 x1=some r):C5 Tryz.prog 1 165 [Jk x0,.fn 122 [.ptr 0 0]] [some ⟨A3 false x1,0⟩] (.j r) [some ⟨A3 false x1,0⟩]:=by
 refine C5.q Jf ?_;unfold G5 at hF;refine RW.sf 1 rfl (RW.seq (RW.sf 3 rfl ?_));obtain ⟨y5,ey5,h2⟩:=A1 hF
 refine RW.cutq (σ:=Unit) (fun y2=>[]) (fun y2=>[some ⟨A3 false x1,0⟩]) (fun y=>y5=.inr y) gg ?_ ?_
 ·refine RW.blk ?_
  refine RW.iter (σ:=Int) ey5 (fun s1=>[(0,Jk x0),(1,.fn 122 [.ptr 0 0]),(7,.j (x0.length:Int)),(8,.j s1)]) (fun s1=>[some ⟨A3 false x1,0⟩]) (Gh.rN [0]) (fun s1 B o hS1 hB1 hE1=>?_)
  unfold K1 at hS1;refine RW.sreg ?_
  refine rl.gen rfl rfl fun b hb=>?_
  cases b
  ·have h3:=A4 hS1 hb;refine rl.done (RW.seq (RW.cond_f rfl (RW.exit (C4 ?_))));cases h3
   exact ⟨_,(hE1 _ rfl).symm,(Gh.rN [0])⟩
  ·have h4:=A5 hS1 hb;refine rl.done (RW.seq (RW.cond_t rfl (RW.skip (RW.seq (RW.blk (RW.sf 2 rfl (RW.sr 3 rfl ?_)))))));obtain ⟨v3,e3,h5⟩:=A1 h4;refine rl.op (C0 (enc:=A2) (o:=false) rfl rfl rfl e3) ?_;refine rl.op (K2 (off':=0) (vs:=(A2 false v3)) B2 rfl e3 rfl rfl rfl) ?_;obtain ⟨v4,e4,h6⟩:=A1 h5;refine rl.call rfl rfl rfl (A6.eR [0] (Mx e4) ?_)
   cases hb:v4
   ·have h7:=A4 h6 hb;refine rl.done (RW.cond_f rfl (RW.skip (RW.reg (rl.f 2 rfl ?_))));cases h7
    exact hB1 _ rfl _ _ (Gh.rN [0])
   ·have h8:=A5 h6 hb;refine rl.done (RW.cond_t rfl (RW.sf 2 rfl ?_));refine RW.kp [4] [(4,.j s1)] [some ⟨A3 false x1,0⟩] rfl rfl ?_;refine RW.ret ?_;cases h8;have h9:=elimL h2 (hE1 _ rfl);cases h9
    exact RRetS.m (Gh.rN [0])
 ·intro y2 hC
  have h2:=elimR h2 hC;refine RW.sf 1 rfl (RW.ret ?_);cases h2
  exact RRetS.m (Gh.rN [0])
theorem Bz {x0:List TWrite} {x1:TDisk} {r:Bool} (hF:F1 x0 x1=some r):C5 Tryz.prog 1 121 [Jk x0,.fn 122 [.ptr 0 0]] [some ⟨A3 false x1,0⟩] (.bool r) [some ⟨A3 false x1,0⟩]:=by
 refine C5.q Gv ?_;unfold F1 at hF;refine RW.sf 1 rfl (RW.sr 2 rfl ?_);obtain ⟨v1,e1,h1⟩:=A1 hF;refine rl.call rfl rfl rfl (A6.eR [0] (Dt e1) ?_);refine rl.f 2 rfl (RW.ret ?_);cases h1
 exact RRetS.m (Gh.rN [0])
theorem X2 {x0:TDisk} {r:Bool} (hF:P0 x0=some r):A7 Tryz.prog 55 [.agg (A3 false x0)] (.bool r):=by
 refine A7.q A0g ?_;unfold P0 at hF;refine RW.sf 2 rfl (RW.seq (RW.seq ?_));obtain ⟨y1,ey1,h1⟩:=A1 hF
 refine RW.cutq (σ:=Bool) (fun y1=>[(1,.ptr 0 0),(13,.bool y1)]) (fun y1=>[some ⟨A3 false x0,0⟩]) (fun y=>y1=y) gg ?_ ?_
 ·refine RW.reg ?_;refine rl.run 3 rfl ?_;obtain ⟨v2,e2,h2⟩:=A1 ey1;refine rl.call rfl rfl rfl (A6.y (r':=.bool v2) (C9 e2) ?_)
  cases hb:v2
  ·have h3:=A4 h2 hb;refine rl.f 7 rfl ?_;cases h3
   exact ⟨_,rfl,(Gh.y0 [0])⟩
  ·have h4:=A5 h2 hb;refine rl.run 5 rfl ?_
   refine rl.gen rfl rfl fun b hb=>?_
   cases b
   ·have h5:=A4 h4 hb;refine rl.f 1 rfl ?_;cases h5
    exact ⟨_,rfl,(Gh.y0 [0])⟩
   ·have h6:=A5 h4 hb;refine rl.f 1 rfl ?_;cases h6
    exact ⟨_,rfl,(Gh.y0 [0])⟩
 ·intro y hC
  subst hC
  cases hb:y1
  ·have h7:=A4 h1 hb;refine RW.cond_f rfl (RW.skip (RW.seq (RW.sr 2 rfl ?_)));obtain ⟨v3,e3,h8⟩:=A1 h7;refine rl.call rfl rfl rfl (A6.y (r':=.bool v3) (Bu e3) ?_)
   cases hb:v3
   ·have h9:=A4 h8 hb;refine rl.done (RW.cond_f rfl (RW.skip (RW.sr 3 rfl ?_)));obtain ⟨v4,e4,h10⟩:=A1 h9;refine rl.call rfl rfl rfl (A6.eR [0] (Bz e4) ?_);refine rl.f 2 rfl (RW.ret ?_);cases h10
    exact RRet.y
   ·have h11:=A5 h8 hb;refine rl.done (RW.cond_t rfl (RW.sf 1 rfl (RW.ret ?_)));cases h11
    exact RRet.y
  ·have h12:=A5 h1 hb;refine RW.cond_t rfl (RW.sf 1 rfl (RW.ret ?_));cases h12
   exact RRet.y
theorem Gb {x0:TDisk} {r:Int} (hF:U2 x0=some r):A7 Tryz.prog 56 [.agg (A3 false x0)] (.j r):=by
 refine A7.q A0e ?_;unfold U2 at hF;refine RW.sf 2 rfl (RW.sf 6 rfl (RW.seq (RW.sr 1 rfl ?_)));obtain ⟨v1,e1,h1⟩:=A1 hF;refine rl.call rfl rfl rfl (A6.y (r':=.bool v1) (C9 e1) ?_)
 cases hb:v1
 ·have h2:=A4 h1 hb;refine rl.f 1 rfl (RW.cond_t rfl (RW.sf 1 rfl ?_));refine RW.kp [2] [(2,.j 0)] [some ⟨A3 false x0,0⟩] rfl rfl ?_;refine RW.ret ?_;cases h2
  exact RRet.y
 ·have h3:=A5 h1 hb;refine rl.f 1 rfl (RW.cond_f rfl (RW.skip (RW.sf 2 rfl ?_)));refine RW.kp [2] [(2,.j (w64 (Int.tdiv (w64 ((x0.Sectors.length:Int) - 8)) 8)))] [some ⟨A3 false x0,0⟩] rfl rfl ?_;refine RW.ret ?_;cases h3
  exact RRet.y
theorem M6 {x0:List UInt8} {x1:Int} {r:Int×Int×Bool} (hF:J6 x0 x1=some r):A7 Tryz.prog 103 [.str x0,.j x1] (.tup [.j r.1,.j r.2.1,.bool r.2.2]):=by
 refine A7.q Zy ?_;unfold J6 at hF;refine RW.sf 3 rfl (RW.seq (RW.sr 3 rfl ?_));obtain ⟨v1,e1,h1⟩:=A1 hF;refine rl.call rfl rfl rfl (A6.y (r':=.bool v1) (C9 e1) ?_)
 cases hb:v1
 ·have h2:=A4 h1 hb;refine rl.f 1 rfl (RW.cond_t rfl (RW.sf 3 rfl (RW.ret ?_)));cases h2
  exact RRet.y
 ·have h3:=A5 h1 hb;refine rl.f 1 rfl (RW.cond_f rfl (RW.skip (RW.sf 1 rfl (RW.seq (RW.sf 1 rfl ?_)))));obtain ⟨y8,ey8,h5⟩:=A1 h3
  refine RW.cutq (σ:=Unit) (fun y3=>[]) (fun y3=>[]) (fun y=>y8=.inr y) gg ?_ ?_
  ·refine RW.blk ?_
   refine RW.iter (σ:=Int×Int) ey8 (fun s2=>[(0,.str x0),(1,.j x1),(7,.j s2.1),(8,.j s2.2)]) (fun s2=>[]) (Gh.y0 []) (fun s2 B o hS4 hB4 hE4=>?_)
   unfold Q5 at hS4;refine RW.seq (RW.seq ?_);obtain ⟨y4,ey4,h6⟩:=A1 hS4
   refine RW.cutq (σ:=Bool) (fun y4=>[(0,.str x0),(1,.j x1),(7,.j s2.1),(8,.j s2.2),(24,.bool y4)]) (fun y4=>[]) (fun y=>y4=y) gg ?_ ?_
   ·refine RW.reg ?_;refine rl.run 1 rfl ?_
    refine rl.gen rfl rfl fun b hb=>?_
    cases b
    ·have h7:=A4 ey4 hb;refine rl.f 8 rfl ?_;cases h7
     exact ⟨_,rfl,(Gh.y0 [])⟩
    ·have h8:=A5 ey4 hb;refine rl.run 6 rfl ?_
     refine rl.gen rfl rfl fun b hb=>?_
     cases b
     ·have h9:=A4 h8 hb;refine rl.f 1 rfl ?_;cases h9
      exact ⟨_,rfl,(Gh.y0 [])⟩
     ·have h10:=A5 h8 hb;refine rl.f 1 rfl ?_;cases h10
      exact ⟨_,rfl,(Gh.y0 [])⟩
   ·intro y hC
    subst hC
    cases hb:y4
    ·have h11:=A4 h6 hb;refine RW.cond_f rfl (RW.exit (C4 ?_));cases h11
     exact ⟨_,(hE4 _ rfl).symm,(Gh.y0 [])⟩
    ·have h12:=A5 h6 hb;refine RW.cond_t rfl (RW.skip (RW.seq (RW.blk (RW.sr 4 rfl ?_))));obtain ⟨v5,e5,h13⟩:=A1 h12;refine rl.op (Wl rfl rfl e5) ?_;refine rl.f 2 rfl (RW.sr 5 rfl ?_);obtain ⟨v6,e6,h14⟩:=A1 h13;refine rl.op (Aa4 rfl rfl e6) ?_;refine rl.f 2 rfl ?_;refine RW.kp [0,1,7,8,9] [(0,.str x0),(1,.j x1),(7,.j (orv .i64 s2.1 v6)),(8,.j s2.2),(9,.j (w64 (v5.toNat:Int)))] [] rfl rfl ?_;refine RW.seq (RW.sr 1 rfl ?_)
     refine rl.gen rfl rfl fun b hb=>?_
     cases b
     ·have h15:=A4 h14 hb;refine rl.done (RW.cond_f rfl (RW.skip (RW.seq (RW.seq ?_))));obtain ⟨y7,ey7,h16⟩:=A1 h15
      refine RW.cutq (σ:=Bool) (fun y7=>[(1,.j x1),(7,.j (orv .i64 s2.1 v6)),(8,.j s2.2),(51,.bool y7)]) (fun y7=>[]) (fun y=>y7=y) gg ?_ ?_
      ·refine RW.reg ?_;refine rl.run 1 rfl ?_
       refine rl.gen rfl rfl fun b hb=>?_
       cases b
       ·have h17:=A4 ey7 hb;refine rl.run 6 rfl ?_
        refine rl.gen rfl rfl fun b hb=>?_
        cases b
        ·have h18:=A4 h17 hb;refine rl.f 1 rfl ?_;cases h18
         exact ⟨_,rfl,(Gh.y0 [])⟩
        ·have h19:=A5 h17 hb;refine rl.f 1 rfl ?_;cases h19
         exact ⟨_,rfl,(Gh.y0 [])⟩
       ·have h20:=A5 ey7 hb;refine rl.run 2 rfl ?_
        refine rl.gen rfl rfl fun b hb=>?_
        cases b
        ·have h21:=A4 h20 hb;refine rl.run 3 rfl ?_
         refine rl.gen rfl rfl fun b hb=>?_
         cases b
         ·have h22:=A4 h21 hb;refine rl.f 1 rfl ?_;cases h22
          exact ⟨_,rfl,(Gh.y0 [])⟩
         ·have h23:=A5 h21 hb;refine rl.f 1 rfl ?_;cases h23
          exact ⟨_,rfl,(Gh.y0 [])⟩
        ·have h24:=A5 h20 hb;refine rl.f 5 rfl ?_;cases h24
         exact ⟨_,rfl,(Gh.y0 [])⟩
      ·intro y hC
       subst hC
       cases hb:y7
       ·have h25:=A4 h16 hb;refine RW.cond_f rfl (RW.skip (RW.sf 8 rfl (RW.ret ?_)));cases h25;have h26:=elimL h5 (hE4 _ rfl);cases h26
        exact RRet.y
       ·have h27:=A5 h16 hb;refine RW.cond_t rfl (RW.sf 3 rfl (RW.ret ?_));cases h27;have h28:=elimL h5 (hE4 _ rfl);cases h28
        exact RRet.y
     ·have h29:=A5 h14 hb;refine rl.done (RW.cond_t rfl (RW.exit (C4 (RW.reg (rl.f 3 rfl ?_)))));cases h29
      exact hB4 _ rfl _ _ (Gh.y0 [])
  ·intro y3 hC
   have h5:=elimR h5 hC;refine RW.sf 3 rfl (RW.ret ?_);cases h5
   exact RRet.y
theorem W6 {x0:List UInt8} {x1:Int} {r:(List UInt8)×Int×Bool} (hF:H4 x0 x1=some r):A7 Tryz.prog 101 [.str x0,.j x1] (.tup [.str r.1,.j r.2.1,.bool r.2.2]):=by
 refine A7.q Ul ?_;unfold H4 at hF;refine RW.sf 3 rfl (RW.sr 2 rfl ?_);obtain ⟨v1,e1,h1⟩:=A1 hF;refine rl.call rfl rfl rfl (A6.y (r':=.tup [.j v1.1,.j v1.2.1,.bool v1.2.2]) (M6 e1) ?_);refine rl.f 7 rfl ?_;refine RW.kp [0,7,8,9] [(0,.str x0),(7,.j v1.1),(8,.j v1.2.1),(9,.bool v1.2.2)] [] rfl rfl ?_;refine RW.seq (RW.seq ?_);obtain ⟨y2,ey2,h2⟩:=A1 h1
 refine RW.cutq (σ:=Bool) (fun y2=>[(0,.str x0),(7,.j v1.1),(8,.j v1.2.1),(30,.bool y2)]) (fun y2=>[]) (fun y=>y2=y) gg ?_ ?_
 ·refine RW.reg ?_;refine rl.run 3 rfl ?_
  cases hb:(!v1.2.2)
  ·have h3:=A4 ey2 hb;refine rl.run 1 rfl ?_
   refine rl.gen rfl rfl fun b hb=>?_
   cases b
   ·have h4:=A4 h3 hb;refine rl.run 7 rfl ?_
    refine rl.gen rfl rfl fun b hb=>?_
    cases b
    ·have h5:=A4 h4 hb;refine rl.f 1 rfl ?_;cases h5
     exact ⟨_,rfl,(Gh.y0 [])⟩
    ·have h6:=A5 h4 hb;refine rl.f 1 rfl ?_;cases h6
     exact ⟨_,rfl,(Gh.y0 [])⟩
   ·have h7:=A5 h3 hb;refine rl.f 9 rfl ?_;cases h7
    exact ⟨_,rfl,(Gh.y0 [])⟩
  ·have h8:=A5 ey2 hb;refine rl.f 11 rfl ?_;cases h8
   exact ⟨_,rfl,(Gh.y0 [])⟩
 ·intro y hC
  subst hC
  cases hb:y2
  ·have h9:=A4 h2 hb;refine RW.cond_f rfl (RW.skip (RW.sr 5 rfl ?_));obtain ⟨v3,e3,h10⟩:=A1 h9;refine rl.op (Gj rfl rfl rfl Mc e3) ?_;refine rl.f 6 rfl ?_;refine RW.kp [4,5,6] [(4,.str v3),(5,.j (w64 (v1.2.1+v1.1))),(6,.bool true)] [] rfl rfl ?_;refine RW.ret ?_;cases h10
   exact RRet.y
  ·have h11:=A5 h2 hb;refine RW.cond_t rfl (RW.sf 3 rfl (RW.ret ?_));cases h11
   exact RRet.y
theorem Ff {x0:TFrame} {r:Bool} (hF:W4 x0=some r):A7 Tryz.prog 136 [.agg (C3 false x0)] (.bool r):=by
 refine A7.q Yd ?_;unfold W4 at hF;refine RW.sf 2 rfl (RW.seq ?_);obtain ⟨y1,ey1,h1⟩:=A1 hF
 refine RW.cutq (σ:=Bool) (fun y1=>[(2,.bool y1)]) (fun y1=>[]) (fun y=>y1=y) gg ?_ ?_
 ·refine RW.reg ?_;refine rl.run 2 rfl ?_;obtain ⟨v2,e2,h2⟩:=A1 ey1;refine rl.call rfl rfl rfl (A6.y (r':=.bool v2) (C9 e2) ?_)
  cases hb:v2
  ·have h3:=A4 h2 hb;refine rl.f 12 rfl ?_;cases h3
   exact ⟨_,rfl,(Gh.y0 [])⟩
  ·have h4:=A5 h2 hb;refine rl.run 3 rfl ?_;obtain ⟨v3,e3,h5⟩:=A1 h4;refine rl.call rfl rfl rfl (A6.y (r':=.bool v3) (C9 e3) ?_)
   cases hb:v3
   ·have h6:=A4 h5 hb;refine rl.f 8 rfl ?_;cases h6
    exact ⟨_,rfl,(Gh.y0 [])⟩
   ·have h7:=A5 h5 hb;refine rl.run 5 rfl ?_;obtain ⟨v4,e4,h8⟩:=A1 h7;refine rl.call rfl rfl rfl (A6.y (r':=.bool v4) (C9 e4) ?_);refine rl.f 2 rfl ?_;cases h8
    exact ⟨_,rfl,(Gh.y0 [])⟩
 ·intro y hC
  subst hC;refine RW.ret ?_;cases h1
  exact RRet.y
theorem Uj {x0:Int} {x1:List UInt8} {r:Int} (hF:Cp x0 x1=some r):A7 Tryz.prog 177 [.int .u32 x0,.str x1] (.int .u32 r):=by
 refine A7.q Xt ?_;unfold Cp at hF;refine RW.sf 1 rfl (RW.seq (RW.sf 3 rfl ?_));obtain ⟨y7,ey7,h2⟩:=A1 hF
 refine RW.cutq (σ:=Int) (fun y2=>[(0,.int .u32 y2)]) (fun y2=>[]) (fun y=>y7=y) gg ?_ ?_
 ·refine RW.blk ?_
  refine RW.iter (σ:=Int×Int) ey7 (fun s1=>[(0,.int .u32 s1.1),(1,.str x1),(8,.j (x1.length:Int)),(9,.j s1.2)]) (fun s1=>[]) (Gh.y0 []) (fun s1 B o hS1 hB1 hE1=>?_)
  unfold Ab at hS1;refine RW.sreg ?_
  refine rl.gen rfl rfl fun b hb=>?_
  cases b
  ·have h3:=A4 hS1 hb;refine rl.done (RW.seq (RW.cond_f rfl (RW.exit (C4 ?_))));cases h3
   exact ⟨_,(hE1 _ rfl).symm,(Gh.y0 [])⟩
  ·have h4:=A5 hS1 hb;refine rl.done (RW.seq (RW.cond_t rfl (RW.skip (RW.seq (RW.blk (RW.sf 2 rfl (RW.sr 3 rfl ?_)))))));obtain ⟨v3,e3,h5⟩:=A1 h4;refine rl.op (Wl rfl rfl e3) ?_;refine rl.f 3 rfl (RW.sf 1 rfl ?_);obtain ⟨y6,ey6,h7⟩:=A1 h5
   refine RW.cutq (σ:=Int) (fun y5=>[(0,.int .u32 y5),(1,.str x1),(8,.j (x1.length:Int)),(9,.j s1.2)]) (fun y5=>[]) (fun y=>y6=y) gg ?_ ?_
   ·refine RW.blk ?_
    refine RW.iter (σ:=Int×Int) ey6 (fun s4=>[(0,.int .u32 s4.1),(1,.str x1),(8,.j (x1.length:Int)),(9,.j s1.2),(18,.j s4.2)]) (fun s4=>[]) (Gh.y0 []) (fun s4 B o hS6 hB6 hE6=>?_)
    unfold Ap at hS6;refine RW.sreg ?_
    refine rl.gen rfl rfl fun b hb=>?_
    cases b
    ·have h8:=A4 hS6 hb;refine rl.done (RW.seq (RW.cond_f rfl (RW.exit (C4 ?_))));cases h8
     exact ⟨_,(hE6 _ rfl).symm,(Gh.y0 [])⟩
    ·have h9:=A5 hS6 hb;refine rl.done (RW.seq (RW.cond_t rfl (RW.skip (RW.seq (RW.blk (RW.sr 2 rfl ?_))))))
     refine rl.gen rfl rfl fun b hb=>?_
     cases b
     ·have h10:=A4 h9 hb;refine rl.f 1 rfl (RW.sf 3 rfl (RW.sf 1 rfl (RW.cond_f rfl (RW.skip (RW.reg (rl.run 2 rfl ?_))))));refine rl.done ?_;cases h10
      exact hB6 _ rfl _ _ (Gh.y0 [])
     ·have h11:=A5 h9 hb;refine rl.f 1 rfl (RW.sf 3 rfl (RW.sf 1 rfl (RW.cond_t rfl (RW.reg (rl.f 3 rfl ?_)))));refine RW.reg (rl.f 2 rfl ?_);cases h11
      exact hB6 _ rfl _ _ (Gh.y0 [])
   ·intro y5 hC
    subst hC;refine RW.reg (rl.f 2 rfl ?_);cases h7
    exact hB1 _ rfl _ _ (Gh.y0 [])
 ·intro y2 hC
  subst hC;refine RW.sf 2 rfl (RW.ret ?_);cases h2
  exact RRet.y
theorem Xl {x0:List UInt8} {r:Int} (hF:Fb x0=some r):A7 Tryz.prog 152 [.str x0] (.int .u32 r):=by
 refine A7.q A1k ?_;unfold Fb at hF;refine RW.sf 1 rfl (RW.sr 1 rfl ?_);obtain ⟨v1,e1,h1⟩:=A1 hF;refine rl.call rfl rfl rfl (A6.y (r':=.int .u32 v1) (Uj e1) ?_);refine rl.f 1 rfl (RW.ret ?_);cases h1
 exact RRet.y
theorem Jh {x0:List UInt8} {r:List UInt8} (hF:Cf x0=some r):A7 Tryz.prog 96 [.str x0] (.str r):=by
 refine A7.q A3y ?_;unfold Cf at hF;refine RW.sf 1 rfl (RW.sr 1 rfl ?_);obtain ⟨v1,e1,h1⟩:=A1 hF;refine rl.call rfl rfl rfl (A6.y (r':=.int .u32 v1) (Xl e1) ?_);refine rl.f 1 rfl (RW.sr 12 rfl ?_);refine rl.op (Jl (o:=true) (l:=[IntKind.u8.wrap (shrv .u32 v1 24),IntKind.u8.wrap (shrv .u32 v1 16),IntKind.u8.wrap (shrv .u32 v1 8),IntKind.u8.wrap v1]) rfl rfl) ?_;refine rl.f 1 rfl ?_;refine RW.kp [2] [(2,.str ([IntKind.u8.wrap (shrv .u32 v1 24),IntKind.u8.wrap (shrv .u32 v1 16),IntKind.u8.wrap (shrv .u32 v1 8),IntKind.u8.wrap v1].map ofI))] [some ⟨fl (encB true) [IntKind.u8.wrap (shrv .u32 v1 24),IntKind.u8.wrap (shrv .u32 v1 16),IntKind.u8.wrap (shrv .u32 v1 8),IntKind.u8.wrap v1],1⟩] rfl rfl ?_;refine RW.ret ?_;cases h1
 exact RRet.y
theorem Wr {x0:List UInt8} {r:(List UInt8)×Bool} (hF:Du x0=some r):A7 Tryz.prog 143 [.str x0] (.tup [.str r.1,.bool r.2]):=by
 refine A7.q A0a ?_;unfold Du at hF;refine RW.sf 2 rfl (RW.seq (RW.sr 2 rfl ?_))
 refine rl.gen rfl rfl fun b hb=>?_
 cases b
 ·have h1:=A4 hF hb;refine rl.done (RW.cond_f rfl (RW.skip (RW.sr 2 rfl ?_)));obtain ⟨v1,e1,h2⟩:=A1 h1;refine rl.call rfl rfl rfl (A6.y (r':=.str v1) (Jh e1) ?_);obtain ⟨v2,e2,h3⟩:=A1 h2;refine rl.op (Q3 rfl rfl e2) ?_;refine rl.f 2 rfl (RW.ret ?_);cases h3
  exact RRet.y
 ·have h4:=A5 hF hb;refine rl.done (RW.cond_t rfl (RW.sf 2 rfl (RW.ret ?_)));cases h4
  exact RRet.y
theorem J4 {x0:Int} {r:List UInt8} (hF:G0 x0=some r):A7 Tryz.prog 95 [.j x0] (.str r):=by
 refine A7.q Yq ?_;unfold G0 at hF;refine RW.sf 1 rfl (RW.sf 2 rfl (RW.seq ?_));refine RW.gh (Gh.nil_t 3 1 rfl) ?_;obtain ⟨y4,ey4,h2⟩:=A1 hF
 refine RW.cutq (σ:=Int×(List Int)) (fun y2=>[(0,.j y2.1),(3,.sl 0 0 y2.2.length)]) (fun y2=>[some ⟨fl (encB true) y2.2,1⟩]) (fun y=>y4=y) gg ?_ ?_
 ·refine RW.blk ?_
  refine RW.iter (σ:=Int×(List Int)) ey4 (fun s1=>[(0,.j s1.1),(3,.sl 0 0 s1.2.length)]) (fun s1=>[some ⟨fl (encB true) s1.2,1⟩]) (Gh.y0 [0]) (fun s1 B o hS1 hB1 hE1=>?_)
  unfold U7 at hS1;refine RW.seq (RW.sr 1 rfl ?_)
  refine rl.gen rfl rfl fun b hb=>?_
  cases b
  ·have h3:=A4 hS1 hb;refine rl.done (RW.cond_f rfl (RW.exit (C4 ?_)));cases h3
   exact ⟨_,(hE1 _ rfl).symm,(Gh.y0 [0])⟩
  ·have h4:=A5 hS1 hb;refine rl.done (RW.cond_t rfl (RW.skip (RW.blk (RW.sr 6 rfl ?_))));obtain ⟨v3,e3,h5⟩:=A1 h4;refine rl.op (Ar rfl rfl (Y4 (l:=s1.2) (m:=[IntKind.u8.wrap (orv .i64 (andv .i64 s1.1 127) 128)]) (o:=true) ekB rfl rfl (Q9 (m:=[IntKind.u8.wrap (orv .i64 (andv .i64 s1.1 127) 128)]) (o:=true) fkB rfl rfl) rfl (fkB.fst _ _) e3)) ?_;refine rl.f 1 rfl (RW.reg (rl.f 3 rfl ?_));cases h5
   exact hB1 _ rfl _ _ (Gh.y0 [2])
 ·intro y2 hC
  subst hC;refine RW.sr 4 rfl ?_;obtain ⟨v5,e5,h6⟩:=A1 h2;refine rl.op (Ar rfl rfl (Y4 (l:=y4.2) (m:=[IntKind.u8.wrap y4.1]) (o:=true) ekB rfl rfl (Q9 (m:=[IntKind.u8.wrap y4.1]) (o:=true) fkB rfl rfl) rfl (fkB.fst _ _) e5)) ?_;refine rl.op (Jl (o:=true) (l:=v5) rfl rfl) ?_;refine rl.f 1 rfl (RW.ret ?_);cases h6
  exact RRet.y
theorem Px {x0:TFrame} {r:(List UInt8)×Bool} (hF:Am x0=some r):A7 Tryz.prog 83 [.agg (C3 false x0)] (.tup [.str r.1,.bool r.2]):=by
 refine A7.q Vm ?_;unfold Am at hF;refine RW.sf 3 rfl (RW.seq (RW.sr 1 rfl ?_));obtain ⟨v1,e1,h1⟩:=A1 hF;refine rl.call rfl rfl rfl (A6.y (r':=.bool v1) (Ff e1) ?_)
 cases hb:v1
 ·have h2:=A4 h1 hb;refine rl.f 1 rfl (RW.cond_t rfl (RW.sf 2 rfl (RW.ret ?_)));cases h2
  exact RRet.y
 ·have h3:=A5 h1 hb;refine rl.f 1 rfl (RW.cond_f rfl (RW.skip (RW.sdrw (A0.op rfl rfl (A0.op rfl rfl ?_)))));obtain ⟨v2,e2,h4⟩:=A1 h3;refine A0.call rfl rfl rfl (A6.y (r':=.str v2) (J4 e2) ⟨rfl,?_⟩);refine A0.op rfl rfl (A0.op rfl rfl ?_);obtain ⟨v3,e3,h5⟩:=A1 h4;refine A0.call rfl rfl rfl (A6.y (r':=.str v3) (J4 e3) ⟨rfl,?_⟩);obtain ⟨v4,e4,h6⟩:=A1 h5;refine A0.op rfl (Q3 rfl rfl e4) ?_;refine A0.op rfl rfl (A0.op rfl rfl (A0.op rfl rfl ?_));obtain ⟨v5,e5,h7⟩:=A1 h6;refine A0.call rfl rfl rfl (A6.y (r':=.str v5) (J4 e5) ⟨rfl,?_⟩);obtain ⟨v6,e6,h8⟩:=A1 h7;refine A0.op rfl (Q3 rfl rfl e6) ?_;refine A0.op rfl rfl (A0.op rfl rfl ?_);obtain ⟨v7,e7,h9⟩:=A1 h8;refine A0.op rfl (Q3 rfl rfl e7) ?_;obtain ⟨v8,e8,h10⟩:=A1 h9;refine A0.call rfl rfl rfl (A6.y (r':=.tup [.str v8.1,.bool v8.2]) (Wr e8) ⟨rfl,?_⟩);refine A0.op rfl rfl (A0.op rfl rfl (A0.op rfl rfl (A0.op rfl rfl (A0.done ?_))));refine RW.kp [2,3] [(2,.str v8.1),(3,.bool v8.2)] [some ⟨C3 false x0,0⟩] rfl rfl ?_;refine RW.ret ?_;cases h10
  exact RRet.y
theorem Hn {x0:List UInt8} {x1:Int} {r:TFrame×Int×Bool} (hF:V3 x0 x1=some r):A7 Tryz.prog 129 [.str x0,.j x1] (.tup [.agg (C3 true r.1),.j r.2.1,.bool r.2.2]):=by
 refine A7.q Ux ?_;unfold V3 at hF;refine RW.sf 3 rfl (RW.sr 2 rfl ?_);obtain ⟨v1,e1,h1⟩:=A1 hF;refine rl.call rfl rfl rfl (A6.y (r':=.tup [.j v1.1,.j v1.2.1,.bool v1.2.2]) (M6 e1) ?_);refine rl.f 7 rfl (RW.sr 2 rfl ?_);obtain ⟨v2,e2,h2⟩:=A1 h1;refine rl.call rfl rfl rfl (A6.y (r':=.tup [.j v2.1,.j v2.2.1,.bool v2.2.2]) (M6 e2) ?_);refine rl.f 7 rfl ?_;refine RW.kp [0,1,4,7,8,9,10,11] [(0,.str x0),(1,.j x1),(4,.ptr 0 0),(7,.j v1.1),(8,.j v2.2.1),(9,.bool v1.2.2),(10,.j v2.1),(11,.bool v2.2.2)] [some ⟨[.j 0,.j 0,.str []],0⟩] rfl rfl ?_;refine RW.sr 2 rfl ?_;obtain ⟨v3,e3,h3⟩:=A1 h2;refine rl.call rfl rfl rfl (A6.y (r':=.tup [.str v3.1,.j v3.2.1,.bool v3.2.2]) (W6 e3) ?_);refine rl.f 7 rfl (RW.sf 6 rfl ?_);refine RW.kp [0,1,4,8,9,11,13,14] [(0,.str x0),(1,.j x1),(4,.ptr 0 0),(8,.j v3.2.1),(9,.bool v1.2.2),(11,.bool v2.2.2),(13,.bool v3.2.2),(14,.ptr 1 0)] [some ⟨[.j 0,.j 0,.str []],0⟩,some ⟨[.j v1.1,.j v2.1,.str v3.1],0⟩] rfl rfl ?_;refine RW.seq (RW.seq ?_);obtain ⟨y4,ey4,h4⟩:=A1 h3
 refine RW.cutq (σ:=Bool) (fun y4=>[(0,.str x0),(1,.j x1),(4,.ptr 0 0),(8,.j v3.2.1),(14,.ptr 1 0),(63,.bool y4)]) (fun y4=>[some ⟨[.j 0,.j 0,.str []],0⟩,some ⟨[.j v1.1,.j v2.1,.str v3.1],0⟩]) (fun y=>y4=y) gg ?_ ?_
 ·refine RW.reg ?_;refine rl.run 3 rfl ?_
  cases hb:(!v1.2.2)
  ·have h5:=A4 ey4 hb;refine rl.run 4 rfl ?_
   cases hb:(!v2.2.2)
   ·have h6:=A4 h5 hb;refine rl.run 4 rfl ?_
    cases hb:(!v3.2.2)
    ·have h7:=A4 h6 hb;refine rl.run 1 rfl ?_;obtain ⟨v5,e5,h8⟩:=A1 h7;refine rl.call rfl rfl rfl (A6.y (r':=.bool v5) (Ff e5) ?_)
     cases hb:v5
     ·have h9:=A4 h8 hb;refine rl.f 9 rfl ?_;cases h9
      exact ⟨_,rfl,(Gh.y0 [0,1])⟩
     ·have h10:=A5 h8 hb;refine rl.run 7 rfl ?_
      refine rl.gen rfl rfl fun b hb=>?_
      cases b
      ·have h11:=A4 h10 hb;refine rl.f 1 rfl ?_;cases h11
       exact ⟨_,rfl,(Gh.y0 [0,1])⟩
      ·have h12:=A5 h10 hb;refine rl.f 1 rfl ?_;cases h12
       exact ⟨_,rfl,(Gh.y0 [0,1])⟩
    ·have h13:=A5 h6 hb;refine rl.f 11 rfl ?_;cases h13
     exact ⟨_,rfl,(Gh.y0 [0,1])⟩
   ·have h14:=A5 h5 hb;refine rl.f 15 rfl ?_;cases h14
    exact ⟨_,rfl,(Gh.y0 [0,1])⟩
  ·have h15:=A5 ey4 hb;refine rl.f 19 rfl ?_;cases h15
   exact ⟨_,rfl,(Gh.y0 [0,1])⟩
 ·intro y hC
  subst hC
  cases hb:y4
  ·have h16:=A4 h4 hb;refine RW.cond_f rfl (RW.skip (RW.seq (RW.sr 1 rfl ?_)));obtain ⟨v6,e6,h17⟩:=A1 h16;refine rl.call rfl rfl rfl (A6.y (r':=.tup [.str v6.1,.bool v6.2]) (Px e6) ?_);refine rl.f 5 rfl (RW.sr 4 rfl ?_);obtain ⟨v7,e7,h18⟩:=A1 h17;refine rl.op (Gj rfl rfl rfl Mc e7) ?_;refine rl.run 1 rfl ?_
   refine rl.gen rfl rfl fun b hb=>?_
   cases b
   ·have h19:=A4 h18 hb;refine rl.done ?_;refine RW.kp [4,8,14,76] [(4,.ptr 0 0),(8,.j v3.2.1),(14,.ptr 1 0),(76,.bool false)] [some ⟨[.j 0,.j 0,.str []],0⟩,some ⟨[.j v1.1,.j v2.1,.str v3.1],0⟩] rfl rfl ?_;refine RW.cond_f rfl (RW.skip (RW.sf 6 rfl (RW.ret ?_)));cases h19
    exact RRet.y
   ·have h20:=A5 h18 hb;refine rl.done ?_;refine RW.kp [4,8,14,76] [(4,.ptr 0 0),(8,.j v3.2.1),(14,.ptr 1 0),(76,.bool true)] [some ⟨[.j 0,.j 0,.str []],0⟩,some ⟨[.j v1.1,.j v2.1,.str v3.1],0⟩] rfl rfl ?_;refine RW.cond_t rfl (RW.sf 4 rfl (RW.ret ?_));cases h20
    exact RRet.y
  ·have h21:=A5 h4 hb;refine RW.cond_t rfl (RW.sf 4 rfl (RW.ret ?_));cases h21
   exact RRet.y
theorem Gn {x0:TDisk} {x1:Int} {r:(List UInt8)×Bool} (hF:R8 x0 x1=some r):A7 Tryz.prog 132 [.agg (A3 false x0),.j x1] (.tup [.str r.1,.bool r.2]):=by
 refine A7.q Qs ?_;unfold R8 at hF;refine RW.sf 3 rfl (RW.seq (RW.sr 5 rfl ?_));obtain ⟨v1,e1,h1⟩:=A1 hF;refine rl.call rfl rfl rfl (A6.y (r':=.bool v1) (C9 e1) ?_)
 cases hb:v1
 ·have h2:=A4 h1 hb;refine rl.f 1 rfl (RW.cond_t rfl (RW.sf 2 rfl (RW.ret ?_)));cases h2
  exact RRet.y
 ·have h3:=A5 h1 hb;refine rl.f 1 rfl (RW.cond_f rfl (RW.skip (RW.sr 3 rfl ?_)));obtain ⟨v2,e2,h4⟩:=A1 h3;refine rl.op (C0 (enc:=encS) (o:=false) rfl rfl rfl e2) ?_;refine rl.op (H7 (off':=0) ekS rfl e2 rfl rfl rfl) ?_;refine rl.f 1 rfl ?_;refine RW.kp [1,2,6] [(1,.j x1),(2,.ptr 0 0),(6,.str v2)] [some ⟨A3 false x0,0⟩] rfl rfl ?_;refine RW.seq (RW.sf 4 rfl ?_);obtain ⟨y6,ey6,h6⟩:=A1 h4
  refine RW.cutq (σ:=(List UInt8)) (fun y4=>[(6,.str y4)]) (fun y4=>[]) (fun y=>y6=y) gg ?_ ?_
  ·refine RW.blk ?_
   refine RW.iter (σ:=(List UInt8)×Int) ey6 (fun s3=>[(1,.j x1),(6,.str s3.1),(22,Jk x0.Cache),(23,.j (x0.Cache.length:Int)),(24,.j s3.2)]) (fun s3=>[]) (Gh.y0 []) (fun s3 B o hS5 hB5 hE5=>?_)
   unfold T4 at hS5;refine RW.sreg ?_
   refine rl.gen rfl rfl fun b hb=>?_
   cases b
   ·have h7:=A4 hS5 hb;refine rl.done (RW.seq (RW.cond_f rfl (RW.exit (C4 ?_))));cases h7
    exact ⟨_,(hE5 _ rfl).symm,(Gh.y0 [])⟩
   ·have h8:=A5 hS5 hb;refine rl.done (RW.seq (RW.cond_t rfl (RW.skip (RW.seq (RW.blk (RW.sreg ?_))))));obtain ⟨v5,e5,h9⟩:=A1 h8;refine rl.op (C0 (enc:=A2) (o:=false) rfl rfl rfl e5) ?_;refine rl.op (K2 (off':=0) (vs:=(A2 false v5)) B2 rfl e5 rfl rfl rfl) ?_;refine rl.f 2 rfl (RW.sr 3 rfl ?_)
    refine rl.gen rfl rfl fun b hb=>?_
    cases b
    ·have h10:=A4 h9 hb;refine rl.done (RW.cond_f rfl (RW.skip (RW.reg (rl.f 2 rfl ?_))));cases h10
     exact hB5 _ rfl _ _ (Gh.y0 [])
    ·have h11:=A5 h9 hb;refine rl.done (RW.cond_t rfl (RW.reg (rl.f 3 rfl (RW.reg (rl.f 2 rfl ?_)))));cases h11
     exact hB5 _ rfl _ _ (Gh.y0 [])
  ·intro y4 hC
   subst hC;refine RW.sf 3 rfl (RW.ret ?_);cases h6
   exact RRet.y
theorem Gq {x0:TDisk} {x1:Int} {x2:Int} {r:(List UInt8)×Bool} (hF:R5 x0 x1 x2=some r):A7 Tryz.prog 126 [.agg (A3 false x0),.j x1,.j x2] (.tup [.str r.1,.bool r.2]):=by
 refine A7.q Qn ?_;unfold R5 at hF;refine RW.sf 3 rfl (RW.seq (RW.sr 1 rfl ?_));obtain ⟨v1,e1,h1⟩:=A1 hF;refine rl.call rfl rfl rfl (A6.y (r':=.bool v1) (C9 e1) ?_)
 cases hb:v1
 ·have h2:=A4 h1 hb;refine rl.f 1 rfl (RW.cond_t rfl (RW.sf 2 rfl (RW.ret ?_)));cases h2
  exact RRet.y
 ·have h3:=A5 h1 hb;refine rl.f 1 rfl (RW.cond_f rfl (RW.skip (RW.sf 1 rfl (RW.seq (RW.sf 2 rfl ?_)))));obtain ⟨y6,ey6,h5⟩:=A1 h3
  refine RW.cutq (σ:=(List UInt8)) (fun y3=>[(8,.str y3)]) (fun y3=>[]) (fun y=>y6=.inr y) gg ?_ ?_
  ·refine RW.blk ?_
   refine RW.iter (σ:=(List UInt8)×Int) ey6 (fun s2=>[(1,.j x1),(3,.ptr 0 0),(8,.str s2.1),(15,.j x2),(16,.j s2.2)]) (fun s2=>[some ⟨A3 false x0,0⟩]) (Gh.y0 [0]) (fun s2 B o hS4 hB4 hE4=>?_)
   unfold T9 at hS4;refine RW.sreg ?_
   refine rl.gen rfl rfl fun b hb=>?_
   cases b
   ·have h6:=A4 hS4 hb;refine rl.done (RW.seq (RW.cond_f rfl (RW.exit (C4 ?_))));cases h6
    exact ⟨_,(hE4 _ rfl).symm,(Gh.y0 [])⟩
   ·have h7:=A5 hS4 hb;refine rl.done (RW.seq (RW.cond_t rfl (RW.skip (RW.seq (RW.blk (RW.sf 2 rfl (RW.sr 4 rfl ?_)))))));obtain ⟨v4,e4,h8⟩:=A1 h7;refine rl.call rfl rfl rfl (A6.y (r':=.tup [.str v4.1,.bool v4.2]) (Gn e4) ?_);refine rl.f 5 rfl ?_;refine RW.kp [1,3,8,10,11,15,16] [(1,.j x1),(3,.ptr 0 0),(8,.str s2.1),(10,.str v4.1),(11,.bool v4.2),(15,.j x2),(16,.j s2.2)] [some ⟨A3 false x0,0⟩] rfl rfl ?_;refine RW.seq (RW.sf 2 rfl ?_)
    cases hb:(!v4.2)
    ·have h9:=A4 h8 hb;refine RW.cond_f rfl (RW.skip (RW.reg (rl.run 2 rfl ?_)));obtain ⟨v5,e5,h10⟩:=A1 h9;refine rl.op (Q3 rfl rfl e5) ?_;refine rl.f 1 rfl (RW.reg (rl.f 2 rfl ?_));cases h10
     exact hB4 _ rfl _ _ (Gh.y0 [0])
    ·have h11:=A5 h8 hb;refine RW.cond_t rfl (RW.sf 2 rfl (RW.ret ?_));cases h11;have h12:=elimL h5 (hE4 _ rfl);cases h12
     exact RRet.y
  ·intro y3 hC
   have h5:=elimR h5 hC;refine RW.sf 3 rfl (RW.ret ?_);cases h5
   exact RRet.y
theorem Te {x0:Int} {r:Int} (hF:Dx x0=some r):A7 Tryz.prog 144 [.j x0] (.j r):=by
 refine A7.q Wy ?_;unfold Dx at hF;refine RW.sf 1 rfl (RW.seq (RW.sr 1 rfl ?_));obtain ⟨v1,e1,h1⟩:=A1 hF;refine rl.call rfl rfl rfl (A6.y (r':=.bool v1) (C9 e1) ?_)
 cases hb:v1
 ·have h2:=A4 h1 hb;refine rl.f 1 rfl (RW.cond_t rfl (RW.sf 1 rfl (RW.ret ?_)));cases h2
  exact RRet.y
 ·have h3:=A5 h1 hb;refine rl.f 1 rfl (RW.cond_f rfl (RW.skip (RW.sf 4 rfl (RW.ret ?_))));cases h3
  exact RRet.y
theorem Jv {x0:TDisk} {x1:Int} {r:List UInt8} (hF:Z2 x0 x1=some r):A7 Tryz.prog 130 [.agg (A3 false x0),.j x1] (.str r):=by
 refine A7.q Ym ?_;unfold Z2 at hF;refine RW.sf 2 rfl (RW.seq (RW.sr 1 rfl ?_));obtain ⟨v1,e1,h1⟩:=A1 hF;refine rl.call rfl rfl rfl (A6.y (r':=.bool v1) (C9 e1) ?_)
 cases hb:v1
 ·have h2:=A4 h1 hb;refine rl.f 1 rfl (RW.cond_t rfl (RW.sf 1 rfl (RW.ret ?_)));cases h2
  exact RRet.y
 ·have h3:=A5 h1 hb;refine rl.f 1 rfl (RW.cond_f rfl (RW.skip (RW.sdrw (A0.op rfl rfl (A0.op rfl rfl ?_)))));obtain ⟨v2,e2,h4⟩:=A1 h3;refine A0.call rfl rfl rfl (A6.y (r':=.j v2) (Te e2) ⟨rfl,?_⟩);obtain ⟨v3,e3,h5⟩:=A1 h4;refine A0.call rfl rfl rfl (A6.y (r':=.tup [.str v3.1,.bool v3.2]) (Gq e3) ⟨rfl,?_⟩);refine A0.op rfl rfl (A0.op rfl rfl (A0.op rfl rfl (A0.op rfl rfl (A0.op rfl rfl (A0.done ?_)))));refine RW.kp [5] [(5,.str v3.1)] [some ⟨A3 false x0,0⟩] rfl rfl ?_;refine RW.sf 2 rfl (RW.ret ?_);cases h5
  exact RRet.y
theorem Bi {x0:TDisk} {x1:Int} {r:Int} (hF:P1 x0 x1=some r):A7 Tryz.prog 65 [.agg (A3 false x0),.j x1] (.j r):=by
 refine A7.q A0c ?_;unfold P1 at hF;refine RW.sf 2 rfl (RW.sr 2 rfl ?_);obtain ⟨v1,e1,h1⟩:=A1 hF;refine rl.call rfl rfl rfl (A6.y (r':=.str v1) (Jv e1) ?_);obtain ⟨v2,e2,h2⟩:=A1 h1;refine rl.call rfl rfl rfl (A6.y (r':=.tup [.agg (C3 false v2.1),.j v2.2.1,.bool v2.2.2]) (Hn e2) ?_);refine rl.f 8 rfl ?_;refine RW.kp [5] [(5,.ptr 1 0)] [some ⟨A3 false x0,0⟩,some ⟨C3 false v2.1,0⟩] rfl rfl ?_;refine RW.seq (RW.sr 2 rfl ?_)
 refine rl.gen rfl rfl fun b hb=>?_
 cases b
 ·have h3:=A4 h2 hb;refine rl.done (RW.cond_f rfl (RW.skip (RW.sf 3 rfl (RW.ret ?_))));cases h3
  exact RRet.y
 ·have h4:=A5 h2 hb;refine rl.done (RW.cond_t rfl (RW.sf 1 rfl (RW.ret ?_)));cases h4
  exact RRet.y
theorem Mv {x0:List UInt8} {x1:Int} {r:(List TFrame)×Int} (hF:X9 x0 x1=some r):A7 Tryz.prog 134 [.str x0,.j x1] (.tup [.lst true 3 (fl (C3 true) r.1) r.1.length,.j r.2]):=by
 refine A7.q Qo ?_;unfold X9 at hF;refine RW.sf 2 rfl (RW.sf 2 rfl (RW.sf 1 rfl ?_));refine RW.gh (Gh.nil_t 6 3 rfl) ?_;obtain ⟨y6,ey6,h2⟩:=A1 hF
 refine RW.cutE (fun y2=>[]) (fun y2=>[]) (fun y=>y6=.inr y) ?_ ?_
 ·refine RW.blk ?_
  refine RW.iter (σ:=Int×(List TFrame)) ey6 (fun s1=>[(0,.str x0),(1,.j x1),(6,.sl 0 0 s1.2.length),(7,.j s1.1)]) (fun s1=>[some ⟨fl (C3 true) s1.2,3⟩]) (Gh.y0 [0]) (fun s1 B o hS1 hB1 hE1=>?_)
  unfold Y9 at hS1;refine RW.blk (RW.sr 2 rfl ?_);obtain ⟨v3,e3,h3⟩:=A1 hS1;refine rl.call rfl rfl rfl (A6.y (r':=.tup [.agg (C3 false v3.1),.j v3.2.1,.bool v3.2.2]) (Hn e3) ?_);refine rl.f 8 rfl (RW.seq (RW.seq ?_));obtain ⟨y4,ey4,h4⟩:=A1 h3
  refine RW.cutq (σ:=Bool) (fun y4=>[(0,.str x0),(1,.j x1),(6,.sl 0 0 s1.2.length),(7,.j s1.1),(8,.ptr 1 0),(9,.j v3.2.1),(26,.bool y4)]) (fun y4=>[some ⟨fl (C3 true) s1.2,3⟩,some ⟨C3 false v3.1,0⟩]) (fun y=>y4=y) gg ?_ ?_
  ·refine RW.reg ?_;refine rl.run 3 rfl ?_
   cases hb:(!v3.2.2)
   ·have h5:=A4 ey4 hb;refine rl.run 3 rfl ?_
    refine rl.gen rfl rfl fun b hb=>?_
    cases b
    ·have h6:=A4 h5 hb;refine rl.f 1 rfl ?_;cases h6
     exact ⟨_,rfl,(Gh.y0 [0,1])⟩
    ·have h7:=A5 h5 hb;refine rl.f 1 rfl ?_;cases h7
     exact ⟨_,rfl,(Gh.y0 [0,1])⟩
   ·have h8:=A5 ey4 hb;refine rl.f 5 rfl ?_;cases h8
    exact ⟨_,rfl,(Gh.y0 [0,1])⟩
  ·intro y hC
   subst hC
   cases hb:y4
   ·have h9:=A4 h4 hb;refine RW.cond_f rfl (RW.skip (RW.sr 3 rfl ?_));obtain ⟨v5,e5,h10⟩:=A1 h9;refine rl.op (Ar rfl rfl (Y4 (l:=s1.2) (m:=[v3.1]) (o:=true) Mq rfl rfl (Q9 (m:=[v3.1]) (o:=true) Mg rfl rfl) rfl (Mg.fst _ _) e5)) ?_;refine rl.f 1 rfl (RW.reg (rl.f 2 rfl ?_));cases h10
    exact hB1 _ rfl _ _ (Gh.y0 [3])
   ·have h11:=A5 h4 hb;refine RW.cond_t rfl (RW.sf 4 rfl (RW.ret ?_));cases h11;have h12:=elimL h2 (hE1 _ rfl);cases h12
    exact RRet.y
 ·exact fun y=>y.elim
theorem Hj {x0:TDisk} {x1:Int} {r:(List TFrame)×Int} (hF:U4 x0 x1=some r):A7 Tryz.prog 71 [.agg (A3 false x0),.j x1] (.tup [Ft r.1,.j r.2]):=by
 refine A7.q Vu ?_;unfold U4 at hF;refine RW.sf 3 rfl (RW.sr 2 rfl ?_);obtain ⟨v1,e1,h1⟩:=A1 hF;refine rl.call rfl rfl rfl (A6.y (r':=.j v1) (Bi e1) ?_);refine rl.f 1 rfl (RW.seq (RW.sr 1 rfl ?_))
 refine rl.gen rfl rfl fun b hb=>?_
 cases b
 ·have h2:=A4 h1 hb;refine rl.done (RW.cond_f rfl (RW.skip (RW.sr 2 rfl ?_)));obtain ⟨v2,e2,h3⟩:=A1 h2;refine rl.call rfl rfl rfl (A6.y (r':=.str v2) (Jv e2) ?_);refine rl.run 1 rfl ?_;obtain ⟨v3,e3,h4⟩:=A1 h3;refine rl.call rfl rfl rfl (A6.z (r':=.tup [.sl 1 0 v3.1.length,.j v3.2]) (H':=[some ⟨A3 false x0,0⟩,some ⟨fl (C3 true) v3.1,3⟩]) (Mv e3) ?_);refine rl.f 5 rfl ?_;refine RW.kp [7,8] [(7,.sl 1 0 v3.1.length),(8,.j v3.2)] [some ⟨A3 false x0,0⟩,some ⟨fl (C3 true) v3.1,3⟩] rfl rfl ?_;refine RW.sr 1 rfl ?_;obtain ⟨v4,e4,h5⟩:=A1 h4;refine rl.op (A77 (i:=1) rfl rfl rfl rfl rfl Md e4) ?_;refine rl.f 3 rfl (RW.ret ?_);cases h5
  exact RRet.m rfl (OutT.tup (.cons (OutR.viewq Mg rfl e4) (.cons .int .nil)))
 ·have h6:=A5 h1 hb;refine rl.done (RW.cond_t rfl (RW.sf 2 rfl (RW.ret ?_)));cases h6
  exact RRet.m rfl (OutT.tup (.cons .nilsv (.cons .int .nil)))
theorem Ks {x0:List UInt8} {r:Bool} (hF:Bj x0=some r):A7 Tryz.prog 166 [.str x0] (.bool r):=by
 refine A7.q A08 ?_;unfold Bj at hF;refine RW.sf 1 rfl (RW.seq (RW.sr 2 rfl ?_));obtain ⟨v1,e1,h1⟩:=A1 hF;refine rl.call rfl rfl rfl (A6.y (r':=.bool v1) (C9 e1) ?_)
 cases hb:v1
 ·have h2:=A4 h1 hb;refine rl.f 1 rfl (RW.cond_t rfl (RW.sf 1 rfl (RW.ret ?_)));cases h2
  exact RRet.y
 ·have h3:=A5 h1 hb;refine rl.f 1 rfl (RW.cond_f rfl (RW.skip (RW.seq (RW.sf 3 rfl ?_))));obtain ⟨y7,ey7,h5⟩:=A1 h3
  refine RW.cutq (σ:=Unit) (fun y3=>[]) (fun y3=>[]) (fun y=>y7=.inr y) gg ?_ ?_
  ·refine RW.blk ?_
   refine RW.iter (σ:=Int) ey7 (fun s2=>[(0,.str x0),(9,.j (x0.length:Int)),(10,.j s2)]) (fun s2=>[]) (Gh.y0 []) (fun s2 B o hS4 hB4 hE4=>?_)
   unfold X0 at hS4;refine RW.sreg ?_
   refine rl.gen rfl rfl fun b hb=>?_
   cases b
   ·have h6:=A4 hS4 hb;refine rl.done (RW.seq (RW.cond_f rfl (RW.exit (C4 ?_))));cases h6
    exact ⟨_,(hE4 _ rfl).symm,(Gh.y0 [])⟩
   ·have h7:=A5 hS4 hb;refine rl.done (RW.seq (RW.cond_t rfl (RW.skip (RW.seq (RW.blk (RW.sf 2 rfl (RW.seq ?_)))))));obtain ⟨y4,ey4,h8⟩:=A1 h7
    refine RW.cutq (σ:=Bool) (fun y4=>[(0,.str x0),(9,.j (x0.length:Int)),(10,.j s2),(22,.bool y4)]) (fun y4=>[]) (fun y=>y4=y) gg ?_ ?_
    ·refine RW.reg ?_;refine rl.run 2 rfl ?_;obtain ⟨v5,e5,h9⟩:=A1 ey4;refine rl.op (Wl rfl rfl e5) ?_
     refine rl.gen rfl rfl fun b hb=>?_
     cases b
     ·have h10:=A4 h9 hb;refine rl.run 3 rfl ?_;obtain ⟨v6,e6,h11⟩:=A1 h10;refine rl.gop rfl (Wl rfl rfl e6) ?_
      refine rl.gen rfl rfl fun b hb=>?_
      cases b
      ·have h12:=A4 h11 hb;refine rl.f 1 rfl ?_;cases h12
       exact ⟨_,rfl,(Gh.y0 [])⟩
      ·have h13:=A5 h11 hb;refine rl.f 1 rfl ?_;cases h13
       exact ⟨_,rfl,(Gh.y0 [])⟩
     ·have h14:=A5 h9 hb;refine rl.f 6 rfl ?_;cases h14
      exact ⟨_,rfl,(Gh.y0 [])⟩
    ·intro y hC
     subst hC
     cases hb:y4
     ·have h15:=A4 h8 hb;refine RW.cond_f rfl (RW.skip (RW.reg (rl.f 2 rfl ?_)));cases h15
      exact hB4 _ rfl _ _ (Gh.y0 [])
     ·have h16:=A5 h8 hb;refine RW.cond_t rfl (RW.sf 1 rfl (RW.ret ?_));cases h16;have h17:=elimL h5 (hE4 _ rfl);cases h17
      exact RRet.y
  ·intro y3 hC
   have h5:=elimR h5 hC;refine RW.sf 1 rfl (RW.ret ?_);cases h5
   exact RRet.y
theorem Lq {x0:TRec} {r:Bool} (hF:Df x0=some r):A7 Tryz.prog 124 [.agg (G6 false x0)] (.bool r):=by
 refine A7.q A2m ?_;unfold Df at hF;refine RW.sf 2 rfl (RW.seq (RW.sr 2 rfl ?_));obtain ⟨v1,e1,h1⟩:=A1 hF;refine rl.call rfl rfl rfl (A6.y (r':=.bool v1) (C9 e1) ?_)
 cases hb:v1
 ·have h2:=A4 h1 hb;refine rl.f 1 rfl (RW.cond_t rfl (RW.sf 1 rfl (RW.ret ?_)));cases h2
  exact RRet.y
 ·have h3:=A5 h1 hb;refine rl.f 1 rfl (RW.cond_f rfl (RW.skip (RW.sf 3 rfl (RW.sf 4 rfl (RW.sr 1 rfl ?_)))));refine rl.done (RW.seq (RW.seq ?_));obtain ⟨y2,ey2,h4⟩:=A1 h3
  refine RW.cutq (σ:=Bool) (fun y2=>[(1,.ptr 0 0),(3,.ptr 1 0),(4,.bool true),(24,.bool y2)]) (fun y2=>[some ⟨G6 false x0,0⟩,some ⟨[.j 0,.j 0,.j x0.Uid,.j x0.Next,.j x0.Flags,.str x0.User,.str x0.Name,.str x0.Text],0⟩]) (fun y=>y2=y) gg ?_ ?_
  ·refine RW.reg ?_;refine rl.run 2 rfl ?_
   refine rl.gen rfl rfl fun b hb=>?_
   cases b
   ·have h5:=A4 ey2 hb;refine rl.run 3 rfl ?_
    refine rl.gen rfl rfl fun b hb=>?_
    cases b
    ·have h6:=A4 h5 hb;refine rl.run 4 rfl ?_
     refine rl.gen rfl rfl fun b hb=>?_
     cases b
     ·have h7:=A4 h6 hb;refine rl.f 1 rfl ?_;cases h7
      exact ⟨_,rfl,(Gh.y0 [0,1])⟩
     ·have h8:=A5 h6 hb;refine rl.f 1 rfl ?_;cases h8
      exact ⟨_,rfl,(Gh.y0 [0,1])⟩
    ·have h9:=A5 h5 hb;refine rl.f 6 rfl ?_;cases h9
     exact ⟨_,rfl,(Gh.y0 [0,1])⟩
   ·have h10:=A5 ey2 hb;refine rl.f 10 rfl ?_;cases h10
    exact ⟨_,rfl,(Gh.y0 [0,1])⟩
  ·intro y hC
   subst hC;obtain ⟨y3,ey3,h11⟩:=A1 h4
   refine RW.cutq (σ:=Bool×Int) (fun y3=>[(1,.ptr 0 0),(3,.ptr 1 0),(4,.bool y3.1)]) (fun y3=>[some ⟨G6 false x0,0⟩,some ⟨[.j 0,.j 0,.j y3.2,.j x0.Next,.j x0.Flags,.str x0.User,.str x0.Name,.str x0.Text],0⟩]) (fun y=>y3=y) gg ?_ ?_
   ·cases hb:y2
    ·have h12:=A4 ey3 hb;refine RW.cond_f rfl (RW.skip ?_);cases h12
     exact ⟨_,rfl,(Gh.y0 [0,1])⟩
    ·have h13:=A5 ey3 hb;refine RW.cond_t rfl (RW.sr 2 rfl ?_);obtain ⟨v4,e4,h14⟩:=A1 h13;refine rl.call rfl rfl rfl (A6.y (r':=.bool v4) (C9 e4) ?_)
     cases hb:v4
     ·have h15:=A4 h14 hb;refine rl.f 1 rfl (RW.reg (rl.f 2 rfl ?_));cases h15
      exact ⟨_,rfl,(Gh.y0 [0,1])⟩
     ·have h16:=A5 h14 hb;refine rl.f 1 rfl (RW.reg (rl.f 2 rfl ?_));cases h16
      exact ⟨_,rfl,(Gh.y0 [0,1])⟩
   ·intro y hC
    subst hC;refine RW.seq (RW.seq ?_);obtain ⟨y5,ey5,h17⟩:=A1 h11
    refine RW.cutq (σ:=Bool) (fun y5=>[(1,.ptr 0 0),(3,.ptr 1 0),(4,.bool y3.1),(36,.bool y5)]) (fun y5=>[some ⟨G6 false x0,0⟩,some ⟨[.j 0,.j 0,.j y3.2,.j x0.Next,.j x0.Flags,.str x0.User,.str x0.Name,.str x0.Text],0⟩]) (fun y=>y5=y) gg ?_ ?_
    ·refine RW.reg ?_;refine rl.run 2 rfl ?_
     refine rl.gen rfl rfl fun b hb=>?_
     cases b
     ·have h18:=A4 ey5 hb;refine rl.run 3 rfl ?_
      refine rl.gen rfl rfl fun b hb=>?_
      cases b
      ·have h19:=A4 h18 hb;refine rl.f 1 rfl ?_;cases h19
       exact ⟨_,rfl,(Gh.y0 [0,1])⟩
      ·have h20:=A5 h18 hb;refine rl.f 1 rfl ?_;cases h20
       exact ⟨_,rfl,(Gh.y0 [0,1])⟩
     ·have h21:=A5 ey5 hb;refine rl.f 5 rfl ?_;cases h21
      exact ⟨_,rfl,(Gh.y0 [0,1])⟩
    ·intro y hC
     subst hC;obtain ⟨y6,ey6,h22⟩:=A1 h17
     refine RW.cutq (σ:=Bool×Int) (fun y6=>[(1,.ptr 0 0),(3,.ptr 1 0),(4,.bool y6.1)]) (fun y6=>[some ⟨G6 false x0,0⟩,some ⟨[.j 0,.j 0,.j y3.2,.j x0.Next,.j y6.2,.str x0.User,.str x0.Name,.str x0.Text],0⟩]) (fun y=>y6=y) gg ?_ ?_
     ·cases hb:y5
      ·have h23:=A4 ey6 hb;refine RW.cond_f rfl (RW.skip ?_);cases h23
       exact ⟨_,rfl,(Gh.y0 [0,1])⟩
      ·have h24:=A5 ey6 hb;refine RW.cond_t rfl (RW.seq ?_);obtain ⟨y7,ey7,h25⟩:=A1 h24
       refine RW.cutq (σ:=Bool) (fun y7=>[(1,.ptr 0 0),(3,.ptr 1 0),(4,.bool y7)]) (fun y7=>[some ⟨G6 false x0,0⟩,some ⟨[.j 0,.j 0,.j y3.2,.j x0.Next,.j x0.Flags,.str x0.User,.str x0.Name,.str x0.Text],0⟩]) (fun y=>y7=y) gg ?_ ?_
       ·refine RW.reg ?_;refine rl.run 2 rfl ?_
        cases hb:y3.1
        ·have h26:=A4 ey7 hb;refine rl.f 5 rfl ?_;cases h26
         exact ⟨_,rfl,(Gh.y0 [0,1])⟩
        ·have h27:=A5 ey7 hb;refine rl.run 2 rfl ?_;obtain ⟨v8,e8,h28⟩:=A1 h27;refine rl.call rfl rfl rfl (A6.y (r':=.bool v8) (C9 e8) ?_)
         cases hb:v8
         ·have h29:=A4 h28 hb;refine rl.f 2 rfl ?_;cases h29
          exact ⟨_,rfl,(Gh.y0 [0,1])⟩
         ·have h30:=A5 h28 hb;refine rl.f 2 rfl ?_;cases h30
          exact ⟨_,rfl,(Gh.y0 [0,1])⟩
       ·intro y hC
        subst hC;refine RW.reg (rl.f 2 rfl ?_);cases h25
        exact ⟨_,rfl,(Gh.y0 [0,1])⟩
     ·intro y hC
      subst hC;refine RW.seq (RW.sf 2 rfl ?_);obtain ⟨y9,ey9,h31⟩:=A1 h22
      refine RW.cutq (σ:=Bool×Int×(List UInt8)×(List UInt8)×(List UInt8)) (fun y9=>[(3,.ptr 0 0),(4,.bool y9.1)]) (fun y9=>[some ⟨[.j 0,.j 0,.j y3.2,.j y9.2.1,.j y6.2,.str y9.2.2.1,.str y9.2.2.2.1,.str y9.2.2.2.2],0⟩]) (fun y=>y9=.inr y) gg ?_ ?_
      ·refine RW.blk ?_;refine RW.sreg ?_
       refine rl.gen rfl rfl fun b hb=>?_
       cases b
       ·have h32:=A4 ey9 hb;refine rl.f 1 rfl (RW.cond_f rfl (RW.sreg ?_))
        refine rl.gen rfl rfl fun b hb=>?_
        cases b
        ·have h33:=A4 h32 hb;refine rl.f 1 rfl (RW.cond_f rfl (RW.seq (RW.sreg ?_)))
         refine rl.gen rfl rfl fun b hb=>?_
         cases b
         ·have h34:=A4 h33 hb;refine rl.f 1 rfl (RW.cond_f rfl (RW.sreg ?_))
          refine rl.gen rfl rfl fun b hb=>?_
          cases b
          ·have h35:=A4 h34 hb;refine rl.f 1 rfl (RW.cond_f rfl (RW.reg ?_))
           refine rl.gen rfl rfl fun b hb=>?_
           cases b
           ·have h36:=A4 h35 hb;refine rl.f 1 rfl (RW.cond_f rfl (RW.sf 1 rfl ?_));refine RW.kp [2] [(2,.bool false)] [some ⟨G6 false x0,0⟩,some ⟨[.j 0,.j 0,.j y3.2,.j x0.Next,.j y6.2,.str x0.User,.str x0.Name,.str x0.Text],0⟩] rfl rfl ?_;refine RW.ret ?_;cases h36;have h37:=elimL h31 rfl;cases h37
            exact RRet.y
           ·have h38:=A5 h35 hb;refine rl.f 1 rfl (RW.cond_t rfl (RW.skip ?_));cases h38
            exact ⟨_,rfl,(Gh.y0 [1])⟩
          ·have h39:=A5 h34 hb;refine rl.f 1 rfl (RW.cond_t rfl (RW.skip (RW.cond_t rfl (RW.skip ?_))));cases h39
           exact ⟨_,rfl,(Gh.y0 [1])⟩
         ·have h40:=A5 h33 hb;refine rl.f 1 rfl (RW.cond_t rfl (RW.skip (RW.cond_t rfl (RW.skip ?_))));cases h40
          exact ⟨_,rfl,(Gh.y0 [1])⟩
        ·have h41:=A5 h32 hb;refine rl.f 1 rfl (RW.cond_t rfl (RW.seq ?_));obtain ⟨y10,ey10,h42⟩:=A1 h41
         refine RW.cutq (σ:=Bool) (fun y10=>[(3,.ptr 0 0),(4,.bool y10)]) (fun y10=>[some ⟨[.j 0,.j 0,.j y3.2,.j x0.Next,.j y6.2,.str x0.User,.str x0.Name,.str x0.Text],0⟩]) (fun y=>y10=y) gg ?_ ?_
         ·refine RW.reg ?_;refine rl.run 2 rfl ?_
          cases hb:y6.1
          ·have h43:=A4 ey10 hb;refine rl.f 6 rfl ?_;cases h43
           exact ⟨_,rfl,(Gh.y0 [1])⟩
          ·have h44:=A5 ey10 hb;refine rl.run 3 rfl ?_
           refine rl.gen rfl rfl fun b hb=>?_
           cases b
           ·have h45:=A4 h44 hb;refine rl.f 2 rfl ?_;cases h45
            exact ⟨_,rfl,(Gh.y0 [1])⟩
           ·have h46:=A5 h44 hb;refine rl.f 2 rfl ?_;cases h46
            exact ⟨_,rfl,(Gh.y0 [1])⟩
         ·intro y hC
          subst hC;refine RW.reg (rl.f 2 rfl ?_);cases h42
          exact ⟨_,rfl,(Gh.y0 [0])⟩
       ·have h47:=A5 ey9 hb;refine rl.f 1 rfl (RW.cond_t rfl (RW.seq ?_));obtain ⟨y11,ey11,h48⟩:=A1 h47
        refine RW.cutq (σ:=Bool) (fun y11=>[(3,.ptr 0 0),(4,.bool y11)]) (fun y11=>[some ⟨[.j 0,.j 0,.j y3.2,.j x0.Next,.j y6.2,.str x0.User,.str x0.Name,.str x0.Text],0⟩]) (fun y=>y11=y) gg ?_ ?_
        ·refine RW.reg ?_;refine rl.run 2 rfl ?_;obtain ⟨v12,e12,h49⟩:=A1 ey11;refine rl.call rfl rfl rfl (A6.y (r':=.bool v12) (Ks e12) ?_)
         cases hb:v12
         ·have h50:=A4 h49 hb;refine rl.f 11 rfl ?_;cases h50
          exact ⟨_,rfl,(Gh.y0 [1])⟩
         ·have h51:=A5 h49 hb;refine rl.run 3 rfl ?_;obtain ⟨v13,e13,h52⟩:=A1 h51;refine rl.call rfl rfl rfl (A6.y (r':=.bool v13) (Ks e13) ?_)
          cases hb:v13
          ·have h53:=A4 h52 hb;refine rl.f 7 rfl ?_;cases h53
           exact ⟨_,rfl,(Gh.y0 [1])⟩
          ·have h54:=A5 h52 hb;refine rl.run 4 rfl ?_;obtain ⟨v14,e14,h55⟩:=A1 h54;refine rl.call rfl rfl rfl (A6.y (r':=.bool v14) (C9 e14) ?_)
           cases hb:v14
           ·have h56:=A4 h55 hb;refine rl.f 2 rfl ?_;cases h56
            exact ⟨_,rfl,(Gh.y0 [1])⟩
           ·have h57:=A5 h55 hb;refine rl.f 2 rfl ?_;cases h57
            exact ⟨_,rfl,(Gh.y0 [1])⟩
        ·intro y hC
         subst hC;refine RW.reg (rl.f 6 rfl ?_);cases h48
         exact ⟨_,rfl,(Gh.y0 [0])⟩
      ·intro y9_ hC
       have h31:=elimR h31 hC;refine RW.sr 2 rfl ?_
       cases hb:y9_.1
       ·have h58:=A4 h31 hb;refine rl.f 5 rfl (RW.ret ?_);cases h58
        exact RRet.y
       ·have h59:=A5 h31 hb;refine rl.f 5 rfl (RW.ret ?_);cases h59
        exact RRet.y
theorem Tz {x0:List UInt8} {r:TRec×Bool} (hF:R3 x0=some r):A7 Tryz.prog 135 [.str x0] (.tup [.agg (G6 true r.1),.bool r.2]):=by
 refine A7.q Xs ?_;unfold R3 at hF;refine RW.sf 2 rfl (RW.seq (RW.sr 1 rfl ?_))
 refine rl.gen rfl rfl fun b hb=>?_
 cases b
 ·have h1:=A4 hF hb;refine rl.done (RW.cond_f rfl (RW.skip (RW.sr 1 rfl ?_)));obtain ⟨v1,e1,h2⟩:=A1 h1;refine rl.op (Wl rfl rfl e1) ?_;refine rl.f 4 rfl (RW.sf 1 rfl (RW.seq (RW.sf 7 rfl (RW.blk ?_))));refine RW.loopIn ?_;refine RWIn.round ?_;refine RW.sf 1 rfl ?_;refine RW.kp [0,2,4,5,27,28,29,30] [(0,.str x0),(2,.ptr 0 0),(4,.ptr 1 0),(5,.j 1),(27,.sl 2 0 4),(28,.j 4),(29,.j 0),(30,.bool true)] [some ⟨[.j 0,.j 0,.j 0,.j 0,.j 0,.str [],.str [],.str []],0⟩,some ⟨[.j (w64 (v1.toNat:Int)),.j 0,.j 0,.j 0,.j 0,.str [],.str [],.str []],0⟩,some ⟨[.ptr 1 1,.ptr 1 2,.ptr 1 3,.ptr 1 4],1⟩] rfl rfl ?_;refine RW.seq (RW.cond_t rfl (RW.skip (RW.seq (RW.blk (RW.sf 3 rfl (RW.sr 2 rfl ?_))))));obtain ⟨v2,e2,h3⟩:=A1 h2;refine rl.call rfl rfl rfl (A6.y (r':=.tup [.j v2.1,.j v2.2.1,.bool v2.2.2]) (M6 e2) ?_);refine rl.f 7 rfl ?_;refine RW.kp [0,2,4,7,8,9,10,27,28,29] [(0,.str x0),(2,.ptr 0 0),(4,.ptr 1 0),(7,.ptr 1 1),(8,.j v2.1),(9,.j v2.2.1),(10,.bool v2.2.2),(27,.sl 2 0 4),(28,.j 4),(29,.j 0)] [some ⟨[.j 0,.j 0,.j 0,.j 0,.j 0,.str [],.str [],.str []],0⟩,some ⟨[.j (w64 (v1.toNat:Int)),.j 0,.j 0,.j 0,.j 0,.str [],.str [],.str []],0⟩,some ⟨[.ptr 1 1,.ptr 1 2,.ptr 1 3,.ptr 1 4],1⟩] rfl rfl ?_;refine RW.seq (RW.sf 2 rfl ?_)
  cases hb:(!v2.2.2)
  ·have h4:=A4 h3 hb;refine RW.cond_f rfl (RW.skip (RW.sf 4 rfl ?_));refine RW.kp [0,2,4,9,27,28,29] [(0,.str x0),(2,.ptr 0 0),(4,.ptr 1 0),(9,.j v2.2.1),(27,.sl 2 0 4),(28,.j 4),(29,.j 0)] [some ⟨[.j 0,.j 0,.j 0,.j 0,.j 0,.str [],.str [],.str []],0⟩,some ⟨[.j (w64 (v1.toNat:Int)),.j v2.1,.j 0,.j 0,.j 0,.str [],.str [],.str []],0⟩,some ⟨[.ptr 1 1,.ptr 1 2,.ptr 1 3,.ptr 1 4],1⟩] rfl rfl ?_;refine RW.reg (rl.f 2 rfl (RW.reg (rl.f 2 rfl ?_)));refine RWIn.round ?_;refine RW.sf 1 rfl (RW.seq (RW.cond_t rfl (RW.skip (RW.seq (RW.blk (RW.sf 3 rfl ?_))))));refine RW.kp [0,2,4,5,7,27,28,29] [(0,.str x0),(2,.ptr 0 0),(4,.ptr 1 0),(5,.j v2.2.1),(7,.ptr 1 2),(27,.sl 2 0 4),(28,.j 4),(29,.j 1)] [some ⟨[.j 0,.j 0,.j 0,.j 0,.j 0,.str [],.str [],.str []],0⟩,some ⟨[.j (w64 (v1.toNat:Int)),.j v2.1,.j 0,.j 0,.j 0,.str [],.str [],.str []],0⟩,some ⟨[.ptr 1 1,.ptr 1 2,.ptr 1 3,.ptr 1 4],1⟩] rfl rfl ?_;refine RW.sr 2 rfl ?_;obtain ⟨v3,e3,h5⟩:=A1 h4;refine rl.call rfl rfl rfl (A6.y (r':=.tup [.j v3.1,.j v3.2.1,.bool v3.2.2]) (M6 e3) ?_);refine rl.f 7 rfl ?_;refine RW.kp [0,2,4,7,8,9,10,27,28,29] [(0,.str x0),(2,.ptr 0 0),(4,.ptr 1 0),(7,.ptr 1 2),(8,.j v3.1),(9,.j v3.2.1),(10,.bool v3.2.2),(27,.sl 2 0 4),(28,.j 4),(29,.j 1)] [some ⟨[.j 0,.j 0,.j 0,.j 0,.j 0,.str [],.str [],.str []],0⟩,some ⟨[.j (w64 (v1.toNat:Int)),.j v2.1,.j 0,.j 0,.j 0,.str [],.str [],.str []],0⟩,some ⟨[.ptr 1 1,.ptr 1 2,.ptr 1 3,.ptr 1 4],1⟩] rfl rfl ?_;refine RW.seq (RW.sf 2 rfl ?_)
   cases hb:(!v3.2.2)
   ·have h6:=A4 h5 hb;refine RW.cond_f rfl (RW.skip (RW.sf 4 rfl ?_));refine RW.kp [0,2,4,9,27,28,29] [(0,.str x0),(2,.ptr 0 0),(4,.ptr 1 0),(9,.j v3.2.1),(27,.sl 2 0 4),(28,.j 4),(29,.j 1)] [some ⟨[.j 0,.j 0,.j 0,.j 0,.j 0,.str [],.str [],.str []],0⟩,some ⟨[.j (w64 (v1.toNat:Int)),.j v2.1,.j v3.1,.j 0,.j 0,.str [],.str [],.str []],0⟩,some ⟨[.ptr 1 1,.ptr 1 2,.ptr 1 3,.ptr 1 4],1⟩] rfl rfl ?_;refine RW.reg (rl.f 2 rfl (RW.reg (rl.f 2 rfl ?_)));refine RWIn.round ?_;refine RW.sf 1 rfl (RW.seq (RW.cond_t rfl (RW.skip (RW.seq (RW.blk (RW.sf 3 rfl ?_))))));refine RW.kp [0,2,4,5,7,27,28,29] [(0,.str x0),(2,.ptr 0 0),(4,.ptr 1 0),(5,.j v3.2.1),(7,.ptr 1 3),(27,.sl 2 0 4),(28,.j 4),(29,.j 2)] [some ⟨[.j 0,.j 0,.j 0,.j 0,.j 0,.str [],.str [],.str []],0⟩,some ⟨[.j (w64 (v1.toNat:Int)),.j v2.1,.j v3.1,.j 0,.j 0,.str [],.str [],.str []],0⟩,some ⟨[.ptr 1 1,.ptr 1 2,.ptr 1 3,.ptr 1 4],1⟩] rfl rfl ?_;refine RW.sr 2 rfl ?_;obtain ⟨v4,e4,h7⟩:=A1 h6;refine rl.call rfl rfl rfl (A6.y (r':=.tup [.j v4.1,.j v4.2.1,.bool v4.2.2]) (M6 e4) ?_);refine rl.f 7 rfl ?_;refine RW.kp [0,2,4,7,8,9,10,27,28,29] [(0,.str x0),(2,.ptr 0 0),(4,.ptr 1 0),(7,.ptr 1 3),(8,.j v4.1),(9,.j v4.2.1),(10,.bool v4.2.2),(27,.sl 2 0 4),(28,.j 4),(29,.j 2)] [some ⟨[.j 0,.j 0,.j 0,.j 0,.j 0,.str [],.str [],.str []],0⟩,some ⟨[.j (w64 (v1.toNat:Int)),.j v2.1,.j v3.1,.j 0,.j 0,.str [],.str [],.str []],0⟩,some ⟨[.ptr 1 1,.ptr 1 2,.ptr 1 3,.ptr 1 4],1⟩] rfl rfl ?_;refine RW.seq (RW.sf 2 rfl ?_)
    cases hb:(!v4.2.2)
    ·have h8:=A4 h7 hb;refine RW.cond_f rfl (RW.skip (RW.sf 4 rfl ?_));refine RW.kp [0,2,4,9,27,28,29] [(0,.str x0),(2,.ptr 0 0),(4,.ptr 1 0),(9,.j v4.2.1),(27,.sl 2 0 4),(28,.j 4),(29,.j 2)] [some ⟨[.j 0,.j 0,.j 0,.j 0,.j 0,.str [],.str [],.str []],0⟩,some ⟨[.j (w64 (v1.toNat:Int)),.j v2.1,.j v3.1,.j v4.1,.j 0,.str [],.str [],.str []],0⟩,some ⟨[.ptr 1 1,.ptr 1 2,.ptr 1 3,.ptr 1 4],1⟩] rfl rfl ?_;refine RW.reg (rl.f 2 rfl (RW.reg (rl.f 2 rfl ?_)));refine RWIn.round ?_;refine RW.sf 1 rfl (RW.seq (RW.cond_t rfl (RW.skip (RW.seq (RW.blk (RW.sf 3 rfl ?_))))));refine RW.kp [0,2,4,5,7,27,28,29] [(0,.str x0),(2,.ptr 0 0),(4,.ptr 1 0),(5,.j v4.2.1),(7,.ptr 1 4),(27,.sl 2 0 4),(28,.j 4),(29,.j 3)] [some ⟨[.j 0,.j 0,.j 0,.j 0,.j 0,.str [],.str [],.str []],0⟩,some ⟨[.j (w64 (v1.toNat:Int)),.j v2.1,.j v3.1,.j v4.1,.j 0,.str [],.str [],.str []],0⟩,some ⟨[.ptr 1 1,.ptr 1 2,.ptr 1 3,.ptr 1 4],1⟩] rfl rfl ?_;refine RW.sr 2 rfl ?_;obtain ⟨v5,e5,h9⟩:=A1 h8;refine rl.call rfl rfl rfl (A6.y (r':=.tup [.j v5.1,.j v5.2.1,.bool v5.2.2]) (M6 e5) ?_);refine rl.f 7 rfl ?_;refine RW.kp [0,2,4,7,8,9,10,27,28,29] [(0,.str x0),(2,.ptr 0 0),(4,.ptr 1 0),(7,.ptr 1 4),(8,.j v5.1),(9,.j v5.2.1),(10,.bool v5.2.2),(27,.sl 2 0 4),(28,.j 4),(29,.j 3)] [some ⟨[.j 0,.j 0,.j 0,.j 0,.j 0,.str [],.str [],.str []],0⟩,some ⟨[.j (w64 (v1.toNat:Int)),.j v2.1,.j v3.1,.j v4.1,.j 0,.str [],.str [],.str []],0⟩,some ⟨[.ptr 1 1,.ptr 1 2,.ptr 1 3,.ptr 1 4],1⟩] rfl rfl ?_;refine RW.seq (RW.sf 2 rfl ?_)
     cases hb:(!v5.2.2)
     ·have h10:=A4 h9 hb;refine RW.cond_f rfl (RW.skip (RW.sf 4 rfl ?_));refine RW.kp [0,2,4,9,27,28,29] [(0,.str x0),(2,.ptr 0 0),(4,.ptr 1 0),(9,.j v5.2.1),(27,.sl 2 0 4),(28,.j 4),(29,.j 3)] [some ⟨[.j 0,.j 0,.j 0,.j 0,.j 0,.str [],.str [],.str []],0⟩,some ⟨[.j (w64 (v1.toNat:Int)),.j v2.1,.j v3.1,.j v4.1,.j v5.1,.str [],.str [],.str []],0⟩,some ⟨[.ptr 1 1,.ptr 1 2,.ptr 1 3,.ptr 1 4],1⟩] rfl rfl ?_;refine RW.reg (rl.f 2 rfl (RW.reg (rl.f 2 rfl ?_)));refine RWIn.round ?_;refine RW.sf 1 rfl (RW.seq (RW.cond_f rfl (RW.exit (C4 (RW.seq (RW.sf 6 rfl ?_))))));refine RW.kp [0,2,4,5,51,52,53] [(0,.str x0),(2,.ptr 0 0),(4,.ptr 1 0),(5,.j v5.2.1),(51,.sl 3 0 3),(52,.j 3),(53,.j 0)] [some ⟨[.j 0,.j 0,.j 0,.j 0,.j 0,.str [],.str [],.str []],0⟩,some ⟨[.j (w64 (v1.toNat:Int)),.j v2.1,.j v3.1,.j v4.1,.j v5.1,.str [],.str [],.str []],0⟩,some ⟨[.ptr 1 1,.ptr 1 2,.ptr 1 3,.ptr 1 4],1⟩,some ⟨[.ptr 1 5,.ptr 1 6,.ptr 1 7],1⟩] rfl rfl ?_;refine RW.blk ?_;refine RW.loopIn ?_;refine RWIn.round ?_;refine RW.sf 1 rfl (RW.seq (RW.cond_t rfl (RW.skip (RW.seq (RW.blk (RW.sf 3 rfl (RW.sreg ?_)))))));refine rl.run 2 rfl ?_;obtain ⟨v6,e6,h11⟩:=A1 h10;refine rl.call rfl rfl rfl (A6.y (r':=.tup [.str v6.1,.j v6.2.1,.bool v6.2.2]) (W6 e6) ?_);refine rl.f 7 rfl ?_;refine RW.kp [0,2,4,12,13,14,15,51,52,53] [(0,.str x0),(2,.ptr 0 0),(4,.ptr 1 0),(12,.ptr 1 5),(13,.str v6.1),(14,.j v6.2.1),(15,.bool v6.2.2),(51,.sl 3 0 3),(52,.j 3),(53,.j 0)] [some ⟨[.j 0,.j 0,.j 0,.j 0,.j 0,.str [],.str [],.str []],0⟩,some ⟨[.j (w64 (v1.toNat:Int)),.j v2.1,.j v3.1,.j v4.1,.j v5.1,.str [],.str [],.str []],0⟩,some ⟨[.ptr 1 1,.ptr 1 2,.ptr 1 3,.ptr 1 4],1⟩,some ⟨[.ptr 1 5,.ptr 1 6,.ptr 1 7],1⟩] rfl rfl ?_;refine RW.seq (RW.sf 2 rfl ?_)
      cases hb:(!v6.2.2)
      ·have h12:=A4 h11 hb;refine RW.cond_f rfl (RW.skip (RW.sf 4 rfl ?_));refine RW.kp [0,2,4,14,51,52,53] [(0,.str x0),(2,.ptr 0 0),(4,.ptr 1 0),(14,.j v6.2.1),(51,.sl 3 0 3),(52,.j 3),(53,.j 0)] [some ⟨[.j 0,.j 0,.j 0,.j 0,.j 0,.str [],.str [],.str []],0⟩,some ⟨[.j (w64 (v1.toNat:Int)),.j v2.1,.j v3.1,.j v4.1,.j v5.1,.str v6.1,.str [],.str []],0⟩,some ⟨[.ptr 1 1,.ptr 1 2,.ptr 1 3,.ptr 1 4],1⟩,some ⟨[.ptr 1 5,.ptr 1 6,.ptr 1 7],1⟩] rfl rfl ?_;refine RW.reg (rl.f 2 rfl (RW.reg (rl.f 2 rfl ?_)));refine RWIn.round ?_;refine RW.sf 1 rfl (RW.seq (RW.cond_t rfl (RW.skip (RW.seq (RW.blk (RW.sf 3 rfl ?_))))));refine RW.kp [0,2,4,5,12,51,52,53] [(0,.str x0),(2,.ptr 0 0),(4,.ptr 1 0),(5,.j v6.2.1),(12,.ptr 1 6),(51,.sl 3 0 3),(52,.j 3),(53,.j 1)] [some ⟨[.j 0,.j 0,.j 0,.j 0,.j 0,.str [],.str [],.str []],0⟩,some ⟨[.j (w64 (v1.toNat:Int)),.j v2.1,.j v3.1,.j v4.1,.j v5.1,.str v6.1,.str [],.str []],0⟩,some ⟨[.ptr 1 1,.ptr 1 2,.ptr 1 3,.ptr 1 4],1⟩,some ⟨[.ptr 1 5,.ptr 1 6,.ptr 1 7],1⟩] rfl rfl ?_;refine RW.sr 2 rfl ?_;obtain ⟨v7,e7,h13⟩:=A1 h12;refine rl.call rfl rfl rfl (A6.y (r':=.tup [.str v7.1,.j v7.2.1,.bool v7.2.2]) (W6 e7) ?_);refine rl.f 7 rfl ?_;refine RW.kp [0,2,4,12,13,14,15,51,52,53] [(0,.str x0),(2,.ptr 0 0),(4,.ptr 1 0),(12,.ptr 1 6),(13,.str v7.1),(14,.j v7.2.1),(15,.bool v7.2.2),(51,.sl 3 0 3),(52,.j 3),(53,.j 1)] [some ⟨[.j 0,.j 0,.j 0,.j 0,.j 0,.str [],.str [],.str []],0⟩,some ⟨[.j (w64 (v1.toNat:Int)),.j v2.1,.j v3.1,.j v4.1,.j v5.1,.str v6.1,.str [],.str []],0⟩,some ⟨[.ptr 1 1,.ptr 1 2,.ptr 1 3,.ptr 1 4],1⟩,some ⟨[.ptr 1 5,.ptr 1 6,.ptr 1 7],1⟩] rfl rfl ?_;refine RW.seq (RW.sf 2 rfl ?_)
       cases hb:(!v7.2.2)
       ·have h14:=A4 h13 hb;refine RW.cond_f rfl (RW.skip (RW.sf 4 rfl ?_));refine RW.kp [0,2,4,14,51,52,53] [(0,.str x0),(2,.ptr 0 0),(4,.ptr 1 0),(14,.j v7.2.1),(51,.sl 3 0 3),(52,.j 3),(53,.j 1)] [some ⟨[.j 0,.j 0,.j 0,.j 0,.j 0,.str [],.str [],.str []],0⟩,some ⟨[.j (w64 (v1.toNat:Int)),.j v2.1,.j v3.1,.j v4.1,.j v5.1,.str v6.1,.str v7.1,.str []],0⟩,some ⟨[.ptr 1 1,.ptr 1 2,.ptr 1 3,.ptr 1 4],1⟩,some ⟨[.ptr 1 5,.ptr 1 6,.ptr 1 7],1⟩] rfl rfl ?_;refine RW.reg (rl.f 2 rfl (RW.reg (rl.f 2 rfl ?_)));refine RWIn.round ?_;refine RW.sf 1 rfl (RW.seq (RW.cond_t rfl (RW.skip (RW.seq (RW.blk (RW.sf 3 rfl ?_))))));refine RW.kp [0,2,4,5,12,51,52,53] [(0,.str x0),(2,.ptr 0 0),(4,.ptr 1 0),(5,.j v7.2.1),(12,.ptr 1 7),(51,.sl 3 0 3),(52,.j 3),(53,.j 2)] [some ⟨[.j 0,.j 0,.j 0,.j 0,.j 0,.str [],.str [],.str []],0⟩,some ⟨[.j (w64 (v1.toNat:Int)),.j v2.1,.j v3.1,.j v4.1,.j v5.1,.str v6.1,.str v7.1,.str []],0⟩,some ⟨[.ptr 1 1,.ptr 1 2,.ptr 1 3,.ptr 1 4],1⟩,some ⟨[.ptr 1 5,.ptr 1 6,.ptr 1 7],1⟩] rfl rfl ?_;refine RW.sr 2 rfl ?_;obtain ⟨v8,e8,h15⟩:=A1 h14;refine rl.call rfl rfl rfl (A6.y (r':=.tup [.str v8.1,.j v8.2.1,.bool v8.2.2]) (W6 e8) ?_);refine rl.f 7 rfl ?_;refine RW.kp [0,2,4,12,13,14,15,51,52,53] [(0,.str x0),(2,.ptr 0 0),(4,.ptr 1 0),(12,.ptr 1 7),(13,.str v8.1),(14,.j v8.2.1),(15,.bool v8.2.2),(51,.sl 3 0 3),(52,.j 3),(53,.j 2)] [some ⟨[.j 0,.j 0,.j 0,.j 0,.j 0,.str [],.str [],.str []],0⟩,some ⟨[.j (w64 (v1.toNat:Int)),.j v2.1,.j v3.1,.j v4.1,.j v5.1,.str v6.1,.str v7.1,.str []],0⟩,some ⟨[.ptr 1 1,.ptr 1 2,.ptr 1 3,.ptr 1 4],1⟩,some ⟨[.ptr 1 5,.ptr 1 6,.ptr 1 7],1⟩] rfl rfl ?_;refine RW.seq (RW.sf 2 rfl ?_)
        cases hb:(!v8.2.2)
        ·have h16:=A4 h15 hb;refine RW.cond_f rfl (RW.skip (RW.sf 4 rfl ?_));refine RW.kp [0,2,4,14,51,52,53] [(0,.str x0),(2,.ptr 0 0),(4,.ptr 1 0),(14,.j v8.2.1),(51,.sl 3 0 3),(52,.j 3),(53,.j 2)] [some ⟨[.j 0,.j 0,.j 0,.j 0,.j 0,.str [],.str [],.str []],0⟩,some ⟨[.j (w64 (v1.toNat:Int)),.j v2.1,.j v3.1,.j v4.1,.j v5.1,.str v6.1,.str v7.1,.str v8.1],0⟩,some ⟨[.ptr 1 1,.ptr 1 2,.ptr 1 3,.ptr 1 4],1⟩,some ⟨[.ptr 1 5,.ptr 1 6,.ptr 1 7],1⟩] rfl rfl ?_;refine RW.reg (rl.f 2 rfl (RW.reg (rl.f 2 rfl ?_)));refine RWIn.round ?_;refine RW.sf 1 rfl (RW.seq (RW.cond_f rfl (RW.exit (C4 (RW.seq (RW.seq ?_))))));obtain ⟨y9,ey9,h17⟩:=A1 h16
         refine RW.cutq (σ:=Bool) (fun y9=>[(2,.ptr 0 0),(4,.ptr 1 0),(80,.bool y9)]) (fun y9=>[some ⟨[.j 0,.j 0,.j 0,.j 0,.j 0,.str [],.str [],.str []],0⟩,some ⟨[.j (w64 (v1.toNat:Int)),.j v2.1,.j v3.1,.j v4.1,.j v5.1,.str v6.1,.str v7.1,.str v8.1],0⟩]) (fun y=>y9=y) gg ?_ ?_
         ·refine RW.reg ?_;refine rl.run 3 rfl ?_
          refine rl.gen rfl rfl fun b hb=>?_
          cases b
          ·have h18:=A4 ey9 hb;refine rl.run 2 rfl ?_;obtain ⟨v10,e10,h19⟩:=A1 h18;refine rl.call rfl rfl rfl (A6.y (r':=.bool v10) (Lq e10) ?_)
           cases hb:v10
           ·have h20:=A4 h19 hb;refine rl.f 2 rfl ?_;cases h20
            exact ⟨_,rfl,(Gh.y0 [0,1])⟩
           ·have h21:=A5 h19 hb;refine rl.f 2 rfl ?_;cases h21
            exact ⟨_,rfl,(Gh.y0 [0,1])⟩
          ·have h22:=A5 ey9 hb;refine rl.f 5 rfl ?_;cases h22
           exact ⟨_,rfl,(Gh.y0 [0,1])⟩
         ·intro y hC
          subst hC
          cases hb:y9
          ·have h23:=A4 h17 hb;refine RW.cond_f rfl (RW.skip (RW.sf 3 rfl (RW.ret ?_)));cases h23
           exact RRet.y
          ·have h24:=A5 h17 hb;refine RW.cond_t rfl (RW.sf 3 rfl (RW.ret ?_));cases h24
           exact RRet.y
        ·have h25:=A5 h15 hb;refine RW.cond_t rfl (RW.sf 3 rfl ?_);refine RW.kp [2,3] [(2,.ptr 0 0),(3,.bool false)] [some ⟨[.j 0,.j 0,.j 0,.j 0,.j 0,.str [],.str [],.str []],0⟩,some ⟨[.j (w64 (v1.toNat:Int)),.j v2.1,.j v3.1,.j v4.1,.j v5.1,.str v6.1,.str v7.1,.str []],0⟩,some ⟨[.ptr 1 1,.ptr 1 2,.ptr 1 3,.ptr 1 4],1⟩,some ⟨[.ptr 1 5,.ptr 1 6,.ptr 1 7],1⟩] rfl rfl ?_;refine RW.ret ?_;cases h25
         exact RRet.y
       ·have h26:=A5 h13 hb;refine RW.cond_t rfl (RW.sf 3 rfl ?_);refine RW.kp [2,3] [(2,.ptr 0 0),(3,.bool false)] [some ⟨[.j 0,.j 0,.j 0,.j 0,.j 0,.str [],.str [],.str []],0⟩,some ⟨[.j (w64 (v1.toNat:Int)),.j v2.1,.j v3.1,.j v4.1,.j v5.1,.str v6.1,.str [],.str []],0⟩,some ⟨[.ptr 1 1,.ptr 1 2,.ptr 1 3,.ptr 1 4],1⟩,some ⟨[.ptr 1 5,.ptr 1 6,.ptr 1 7],1⟩] rfl rfl ?_;refine RW.ret ?_;cases h26
        exact RRet.y
      ·have h27:=A5 h11 hb;refine RW.cond_t rfl (RW.sf 3 rfl ?_);refine RW.kp [2,3] [(2,.ptr 0 0),(3,.bool false)] [some ⟨[.j 0,.j 0,.j 0,.j 0,.j 0,.str [],.str [],.str []],0⟩,some ⟨[.j (w64 (v1.toNat:Int)),.j v2.1,.j v3.1,.j v4.1,.j v5.1,.str [],.str [],.str []],0⟩,some ⟨[.ptr 1 1,.ptr 1 2,.ptr 1 3,.ptr 1 4],1⟩,some ⟨[.ptr 1 5,.ptr 1 6,.ptr 1 7],1⟩] rfl rfl ?_;refine RW.ret ?_;cases h27
       exact RRet.y
     ·have h28:=A5 h9 hb;refine RW.cond_t rfl (RW.sf 3 rfl ?_);refine RW.kp [2,3] [(2,.ptr 0 0),(3,.bool false)] [some ⟨[.j 0,.j 0,.j 0,.j 0,.j 0,.str [],.str [],.str []],0⟩,some ⟨[.j (w64 (v1.toNat:Int)),.j v2.1,.j v3.1,.j v4.1,.j 0,.str [],.str [],.str []],0⟩,some ⟨[.ptr 1 1,.ptr 1 2,.ptr 1 3,.ptr 1 4],1⟩] rfl rfl ?_;refine RW.ret ?_;cases h28
      exact RRet.y
    ·have h29:=A5 h7 hb;refine RW.cond_t rfl (RW.sf 3 rfl ?_);refine RW.kp [2,3] [(2,.ptr 0 0),(3,.bool false)] [some ⟨[.j 0,.j 0,.j 0,.j 0,.j 0,.str [],.str [],.str []],0⟩,some ⟨[.j (w64 (v1.toNat:Int)),.j v2.1,.j v3.1,.j 0,.j 0,.str [],.str [],.str []],0⟩,some ⟨[.ptr 1 1,.ptr 1 2,.ptr 1 3,.ptr 1 4],1⟩] rfl rfl ?_;refine RW.ret ?_;cases h29
     exact RRet.y
   ·have h30:=A5 h5 hb;refine RW.cond_t rfl (RW.sf 3 rfl ?_);refine RW.kp [2,3] [(2,.ptr 0 0),(3,.bool false)] [some ⟨[.j 0,.j 0,.j 0,.j 0,.j 0,.str [],.str [],.str []],0⟩,some ⟨[.j (w64 (v1.toNat:Int)),.j v2.1,.j 0,.j 0,.j 0,.str [],.str [],.str []],0⟩,some ⟨[.ptr 1 1,.ptr 1 2,.ptr 1 3,.ptr 1 4],1⟩] rfl rfl ?_;refine RW.ret ?_;cases h30
    exact RRet.y
  ·have h31:=A5 h3 hb;refine RW.cond_t rfl (RW.sf 3 rfl ?_);refine RW.kp [2,3] [(2,.ptr 0 0),(3,.bool false)] [some ⟨[.j 0,.j 0,.j 0,.j 0,.j 0,.str [],.str [],.str []],0⟩,some ⟨[.j (w64 (v1.toNat:Int)),.j 0,.j 0,.j 0,.j 0,.str [],.str [],.str []],0⟩,some ⟨[.ptr 1 1,.ptr 1 2,.ptr 1 3,.ptr 1 4],1⟩] rfl rfl ?_;refine RW.ret ?_;cases h31
   exact RRet.y
 ·have h32:=A5 hF hb;refine rl.done (RW.cond_t rfl (RW.sf 3 rfl (RW.ret ?_)));cases h32
  exact RRet.y
theorem Ht {x0:TFrame} {r:TItem×Bool} (hF:U6 x0=some r):A7 Tryz.prog 72 [.agg (C3 false x0)] (.tup [.agg (A9 true r.1),.bool r.2]):=by
 refine A7.q Vo ?_;unfold U6 at hF;refine RW.sf 3 rfl (RW.sr 2 rfl ?_);obtain ⟨v1,e1,h1⟩:=A1 hF;refine rl.call rfl rfl rfl (A6.y (r':=.tup [.agg (G6 false v1.1),.bool v1.2]) (Tz e1) ?_);refine rl.f 6 rfl (RW.seq (RW.seq ?_));obtain ⟨y2,ey2,h2⟩:=A1 h1
 refine RW.cutq (σ:=Bool) (fun y2=>[(1,.ptr 0 0),(2,.ptr 1 0),(4,.ptr 2 0),(18,.bool y2)]) (fun y2=>[some ⟨C3 false x0,0⟩,some ⟨[.j 0,.j 0,.j 0,.j 0,.j 0,.j 0,.str [],.str [],.str []],0⟩,some ⟨G6 false v1.1,0⟩]) (fun y=>y2=y) gg ?_ ?_
 ·refine RW.reg ?_;refine rl.run 3 rfl ?_
  cases hb:(!v1.2)
  ·have h3:=A4 ey2 hb;refine rl.run 1 rfl ?_;obtain ⟨v3,e3,h4⟩:=A1 h3;refine rl.call rfl rfl rfl (A6.y (r':=.bool v3) (Ff e3) ?_)
   cases hb:v3
   ·have h5:=A4 h4 hb;refine rl.f 2 rfl ?_;cases h5
    exact ⟨_,rfl,(Gh.y0 [0,1,2])⟩
   ·have h6:=A5 h4 hb;refine rl.f 2 rfl ?_;cases h6
    exact ⟨_,rfl,(Gh.y0 [0,1,2])⟩
  ·have h7:=A5 ey2 hb;refine rl.f 4 rfl ?_;cases h7
   exact ⟨_,rfl,(Gh.y0 [0,1,2])⟩
 ·intro y hC
  subst hC
  cases hb:y2
  ·have h8:=A4 h2 hb;refine RW.cond_f rfl (RW.skip (RW.sf 6 rfl (RW.ret ?_)));cases h8
   exact RRet.y
  ·have h9:=A5 h2 hb;refine RW.cond_t rfl (RW.sf 3 rfl (RW.ret ?_));cases h9
   exact RRet.y
theorem Kw {x0:TDisk} {x1:TSeg} {r:Bool} (hF:Bo x0 x1=some r):A7 Tryz.prog 58 [.agg (A3 false x0),.agg (A8 false x1)] (.bool r):=by
 refine A7.q A0f ?_;unfold Bo at hF;refine RW.sf 3 rfl (RW.sr 3 rfl ?_);obtain ⟨v1,e1,h1⟩:=A1 hF;refine rl.call rfl rfl rfl (A6.y (r':=.tup [Ft v1.1,.j v1.2]) (Hj e1) ?_);refine rl.f 5 rfl (RW.seq (RW.seq ?_));obtain ⟨y2,ey2,h2⟩:=A1 h1
 refine RW.cutq (σ:=Bool) (fun y2=>[(3,.ptr 0 0),(5,Ft v1.1),(43,.bool y2)]) (fun y2=>[some ⟨A8 false x1,0⟩]) (fun y=>y2=y) gg ?_ ?_
 ·refine RW.drw ?_;refine A0.op rfl rfl (A0.op rfl rfl (A0.op rfl rfl ?_));obtain ⟨v3,e3,h3⟩:=A1 ey2;refine A0.call rfl rfl rfl (A6.y (r':=.j v3) (Bi e3) ⟨rfl,?_⟩);refine A0.op rfl rfl (A0.op rfl rfl ?_)
  refine A0.gen rfl rfl fun b hb=>?_
  cases b
  ·have h4:=A4 h3 hb;refine A0.op rfl rfl (A0.op rfl rfl (A0.op rfl rfl ?_))
   refine A0.gen rfl rfl fun b hb=>?_
   cases b
   ·have h5:=A4 h4 hb;refine A0.op rfl rfl (A0.op rfl rfl (A0.op rfl rfl (A0.op rfl rfl (A0.op rfl rfl ?_))))
    refine A0.gen rfl rfl fun b hb=>?_
    cases b
    ·have h6:=A4 h5 hb;refine A0.op rfl rfl (A0.op rfl rfl (A0.op rfl rfl (A0.op rfl rfl (A0.op rfl rfl (A0.op rfl rfl (A0.op rfl rfl ?_))))))
     refine A0.gen rfl rfl fun b hb=>?_
     cases b
     ·have h7:=A4 h6 hb;refine A0.op rfl rfl (A0.done ?_);cases h7
      exact ⟨_,rfl,(Gh.y0 [1])⟩
     ·have h8:=A5 h6 hb;refine A0.op rfl rfl (A0.done ?_);cases h8
      exact ⟨_,rfl,(Gh.y0 [1])⟩
    ·have h9:=A5 h5 hb;refine A0.op rfl rfl (A0.op rfl rfl (A0.off rfl (A0.off rfl (A0.off rfl (A0.off rfl (A0.off rfl (A0.off rfl (A0.op rfl rfl (A0.done ?_)))))))));cases h9
     exact ⟨_,rfl,(Gh.y0 [1])⟩
   ·have h10:=A5 h4 hb;refine A0.op rfl rfl (A0.op rfl rfl (A0.off rfl (A0.off rfl (A0.off rfl (A0.off rfl (A0.op rfl rfl (A0.op rfl rfl (A0.off rfl (A0.off rfl (A0.off rfl (A0.off rfl ?_)))))))))));refine A0.off rfl (A0.off rfl (A0.op rfl rfl (A0.done ?_)));cases h10
    exact ⟨_,rfl,(Gh.y0 [1])⟩
  ·have h11:=A5 h3 hb;refine A0.op rfl rfl (A0.off rfl (A0.off rfl (A0.off rfl (A0.op rfl rfl (A0.op rfl rfl (A0.off rfl (A0.off rfl (A0.off rfl (A0.off rfl (A0.op rfl rfl (A0.op rfl rfl ?_)))))))))));refine A0.off rfl (A0.off rfl (A0.off rfl (A0.off rfl (A0.off rfl (A0.off rfl (A0.op rfl rfl (A0.done ?_)))))));cases h11
   exact ⟨_,rfl,(Gh.y0 [1])⟩
 ·intro y hC
  subst hC
  cases hb:y2
  ·have h12:=A4 h2 hb;refine RW.cond_f rfl (RW.skip (RW.seq (RW.sf 3 rfl ?_)));obtain ⟨y10,ey10,h14⟩:=A1 h12
   refine RW.cutq (σ:=Unit) (fun y5=>[]) (fun y5=>[]) (fun y=>y10=.inr y) gg ?_ ?_
   ·refine RW.blk ?_
    refine RW.iter (σ:=Int) ey10 (fun s4=>[(3,.ptr 0 0),(44,Ft v1.1),(45,.j (v1.1.length:Int)),(46,.j s4)]) (fun s4=>[some ⟨A8 false x1,0⟩]) (Gh.y0 [0]) (fun s4 B o hS13 hB13 hE13=>?_)
    unfold Dy at hS13;refine RW.sreg ?_
    refine rl.gen rfl rfl fun b hb=>?_
    cases b
    ·have h15:=A4 hS13 hb;refine rl.done (RW.seq (RW.cond_f rfl (RW.exit (C4 ?_))));cases h15
     exact ⟨_,(hE13 _ rfl).symm,(Gh.y0 [])⟩
    ·have h16:=A5 hS13 hb;refine rl.done (RW.seq (RW.cond_t rfl (RW.skip (RW.seq (RW.blk (RW.sr 1 rfl ?_))))));obtain ⟨v6,e6,h17⟩:=A1 h16;refine rl.op (C0 (enc:=C3) (o:=false) rfl rfl rfl e6) ?_;refine rl.op (K2 (off':=0) (vs:=(C3 false v6)) Mq rfl e6 rfl rfl rfl) ?_;refine rl.f 3 rfl (RW.sr 1 rfl ?_);obtain ⟨v7,e7,h18⟩:=A1 h17;refine rl.call rfl rfl rfl (A6.y (r':=.tup [.agg (A9 false v7.1),.bool v7.2]) (Ht e7) ?_);refine rl.f 6 rfl (RW.seq ?_);obtain ⟨y8,ey8,h19⟩:=A1 h18
     refine RW.cutq (σ:=Bool) (fun y8=>[(3,.ptr 0 0),(44,Ft v1.1),(45,.j (v1.1.length:Int)),(46,.j s4),(66,.bool y8)]) (fun y8=>[some ⟨A8 false x1,0⟩]) (fun y=>y8=y) gg ?_ ?_
     ·refine RW.drw ?_;refine A0.op rfl rfl (A0.op rfl rfl (A0.op rfl rfl ?_))
      cases hb:(!v7.2)
      ·have h20:=A4 ey8 hb;refine A0.op rfl rfl (A0.op rfl rfl (A0.op rfl rfl (A0.op rfl rfl ?_)));obtain ⟨v9,e9,h21⟩:=A1 h20;refine A0.op rfl (C0 (enc:=A9) (o:=false) rfl rfl rfl e9) ?_;refine A0.op rfl (K2 (off':=0) (vs:=(A9 false v9)) C7 rfl e9 rfl rfl rfl) ?_
       refine A0.gen rfl rfl fun b hb=>?_
       cases b
       ·have h22:=A4 h21 hb;refine A0.op rfl rfl (A0.done ?_);cases h22
        exact ⟨_,rfl,(Gh.y0 [0])⟩
       ·have h23:=A5 h21 hb;refine A0.op rfl rfl (A0.done ?_);cases h23
        exact ⟨_,rfl,(Gh.y0 [0])⟩
      ·have h24:=A5 ey8 hb;refine A0.off rfl (A0.off rfl (A0.off rfl (A0.off rfl (A0.off rfl (A0.off rfl (A0.off rfl (A0.op rfl rfl (A0.done ?_))))))));cases h24
       exact ⟨_,rfl,(Gh.y0 [0])⟩
     ·intro y hC
      subst hC
      cases hb:y8
      ·have h25:=A4 h19 hb;refine RW.cond_f rfl (RW.skip (RW.reg (rl.f 2 rfl ?_)));cases h25
       exact hB13 _ rfl _ _ (Gh.y0 [0])
      ·have h26:=A5 h19 hb;refine RW.cond_t rfl (RW.sf 1 rfl (RW.ret ?_));cases h26;have h27:=elimL h14 (hE13 _ rfl);cases h27
       exact RRet.y
   ·intro y5 hC
    have h14:=elimR h14 hC;refine RW.sf 1 rfl (RW.ret ?_);cases h14
    exact RRet.y
  ·have h28:=A5 h2 hb;refine RW.cond_t rfl (RW.sf 1 rfl (RW.ret ?_));cases h28
   exact RRet.y
theorem Pr {x0:TItem} {x1:TLog} {r:Bool} (hF:U9 x0 x1=some r):C5 Tryz.prog 1 61 [.agg (A9 false x0),.ptr 0 0] [some ⟨B5 false x1,0⟩] (.bool r) [some ⟨B5 false x1,0⟩]:=by
 refine C5.q Yb ?_;unfold U9 at hF;refine RW.sf 2 rfl (RW.sr 4 rfl ?_)
 refine rl.gen rfl rfl fun b hb=>?_
 cases b
 ·have h1:=A4 hF hb;refine rl.f 9 rfl ?_;refine RW.kp [3] [(3,.bool (decide (x0.Rec.Valid≥x1.NextValid)))] [some ⟨B5 false x1,0⟩,some ⟨A9 false x0,0⟩] rfl rfl ?_;refine RW.ret ?_;cases h1
  exact RRetS.m (Gh.rN [0])
 ·have h2:=A5 hF hb;refine rl.f 9 rfl ?_;refine RW.kp [3] [(3,.bool true)] [some ⟨B5 false x1,0⟩,some ⟨A9 false x0,0⟩] rfl rfl ?_;refine RW.ret ?_;cases h2
  exact RRetS.m (Gh.rN [0])
theorem El {x0:List TItem} {x1:TLog} {r:Int} (hF:J0 x0 x1=some r):C5 Tryz.prog 1 123 [H9 x0,.fn 61 [.ptr 0 0]] [some ⟨B5 false x1,0⟩] (.j r) [some ⟨B5 false x1,0⟩]:=by
 refine C5.q Eh ?_;unfold J0 at hF;refine RW.sf 1 rfl (RW.seq (RW.sf 3 rfl ?_));obtain ⟨y5,ey5,h2⟩:=A1 hF
 refine RW.cutq (σ:=Unit) (fun y2=>[]) (fun y2=>[some ⟨B5 false x1,0⟩]) (fun y=>y5=.inr y) gg ?_ ?_
 ·refine RW.blk ?_
  refine RW.iter (σ:=Int) ey5 (fun s1=>[(0,H9 x0),(1,.fn 61 [.ptr 0 0]),(7,.j (x0.length:Int)),(8,.j s1)]) (fun s1=>[some ⟨B5 false x1,0⟩]) (Gh.rN [0]) (fun s1 B o hS1 hB1 hE1=>?_)
  unfold K5 at hS1;refine RW.sreg ?_
  refine rl.gen rfl rfl fun b hb=>?_
  cases b
  ·have h3:=A4 hS1 hb;refine rl.done (RW.seq (RW.cond_f rfl (RW.exit (C4 ?_))));cases h3
   exact ⟨_,(hE1 _ rfl).symm,(Gh.rN [0])⟩
  ·have h4:=A5 hS1 hb;refine rl.done (RW.seq (RW.cond_t rfl (RW.skip (RW.seq (RW.blk (RW.sf 2 rfl (RW.sr 3 rfl ?_)))))));obtain ⟨v3,e3,h5⟩:=A1 h4;refine rl.op (C0 (enc:=A9) (o:=false) rfl rfl rfl e3) ?_;refine rl.op (K2 (off':=0) (vs:=(A9 false v3)) C7 rfl e3 rfl rfl rfl) ?_;obtain ⟨v4,e4,h6⟩:=A1 h5;refine rl.call rfl rfl rfl (A6.eR [0] (Pr e4) ?_)
   cases hb:v4
   ·have h7:=A4 h6 hb;refine rl.done (RW.cond_f rfl (RW.skip (RW.reg (rl.f 2 rfl ?_))));cases h7
    exact hB1 _ rfl _ _ (Gh.rN [0])
   ·have h8:=A5 h6 hb;refine rl.done (RW.cond_t rfl (RW.sf 2 rfl ?_));refine RW.kp [4] [(4,.j s1)] [some ⟨B5 false x1,0⟩] rfl rfl ?_;refine RW.ret ?_;cases h8;have h9:=elimL h2 (hE1 _ rfl);cases h9
    exact RRetS.m (Gh.rN [0])
 ·intro y2 hC
  have h2:=elimR h2 hC;refine RW.sf 1 rfl (RW.ret ?_);cases h2
  exact RRetS.m (Gh.rN [0])
theorem Dk {x0:List TItem} {x1:TLog} {r:Bool} (hF:E3 x0 x1=some r):C5 Tryz.prog 1 60 [H9 x0,.fn 61 [.ptr 0 0]] [some ⟨B5 false x1,0⟩] (.bool r) [some ⟨B5 false x1,0⟩]:=by
 refine C5.q Cm ?_;unfold E3 at hF;refine RW.sf 1 rfl (RW.sr 2 rfl ?_);obtain ⟨v1,e1,h1⟩:=A1 hF;refine rl.call rfl rfl rfl (A6.eR [0] (El e1) ?_);refine rl.f 2 rfl (RW.ret ?_);cases h1
 exact RRetS.m (Gh.rN [0])
theorem Lv {x0:TItem} {x1:TItem} {r:Bool} (hF:W3 x0 x1=some r):C5 Tryz.prog 1 125 [.agg (A9 false x0),.ptr 0 0] [some ⟨A9 false x1,0⟩] (.bool r) [some ⟨A9 false x1,0⟩]:=by
 refine C5.q Uf ?_;unfold W3 at hF;refine RW.sf 2 rfl (RW.sr 4 rfl ?_)
 refine rl.gen rfl rfl fun b hb=>?_
 cases b
 ·have h1:=A4 hF hb;refine rl.f 6 rfl ?_;refine RW.kp [3] [(3,.bool false)] [some ⟨A9 false x1,0⟩,some ⟨A9 false x0,0⟩] rfl rfl ?_;refine RW.ret ?_;cases h1
  exact RRetS.m (Gh.rN [0])
 ·have h2:=A5 hF hb;refine rl.f 6 rfl ?_;refine RW.kp [3] [(3,.bool (!(x0.Seq==x1.Seq&&(x0.Rec.Kind==x1.Rec.Kind&&(x0.Rec.Valid==x1.Rec.Valid&&(x0.Rec.Uid==x1.Rec.Uid&&(x0.Rec.Next==x1.Rec.Next&&(x0.Rec.Flags==x1.Rec.Flags&&(x0.Rec.User==x1.Rec.User&&(x0.Rec.Name==x1.Rec.Name&&(x0.Rec.Text==x1.Rec.Text&&true)))))))))))] [some ⟨A9 false x1,0⟩,some ⟨A9 false x0,0⟩] rfl rfl ?_;refine RW.ret ?_;cases h2
  exact RRetS.m (Gh.rN [0])
theorem Dp {x0:List TItem} {x1:TItem} {r:Int} (hF:G7 x0 x1=some r):C5 Tryz.prog 1 123 [H9 x0,.fn 125 [.ptr 0 0]] [some ⟨A9 false x1,0⟩] (.j r) [some ⟨A9 false x1,0⟩]:=by
 refine C5.q Eh ?_;unfold G7 at hF;refine RW.sf 1 rfl (RW.seq (RW.sf 3 rfl ?_));obtain ⟨y5,ey5,h2⟩:=A1 hF
 refine RW.cutq (σ:=Unit) (fun y2=>[]) (fun y2=>[some ⟨A9 false x1,0⟩]) (fun y=>y5=.inr y) gg ?_ ?_
 ·refine RW.blk ?_
  refine RW.iter (σ:=Int) ey5 (fun s1=>[(0,H9 x0),(1,.fn 125 [.ptr 0 0]),(7,.j (x0.length:Int)),(8,.j s1)]) (fun s1=>[some ⟨A9 false x1,0⟩]) (Gh.rN [0]) (fun s1 B o hS1 hB1 hE1=>?_)
  unfold K0 at hS1;refine RW.sreg ?_
  refine rl.gen rfl rfl fun b hb=>?_
  cases b
  ·have h3:=A4 hS1 hb;refine rl.done (RW.seq (RW.cond_f rfl (RW.exit (C4 ?_))));cases h3
   exact ⟨_,(hE1 _ rfl).symm,(Gh.rN [0])⟩
  ·have h4:=A5 hS1 hb;refine rl.done (RW.seq (RW.cond_t rfl (RW.skip (RW.seq (RW.blk (RW.sf 2 rfl (RW.sr 3 rfl ?_)))))));obtain ⟨v3,e3,h5⟩:=A1 h4;refine rl.op (C0 (enc:=A9) (o:=false) rfl rfl rfl e3) ?_;refine rl.op (K2 (off':=0) (vs:=(A9 false v3)) C7 rfl e3 rfl rfl rfl) ?_;obtain ⟨v4,e4,h6⟩:=A1 h5;refine rl.call rfl rfl rfl (A6.eR [0] (Lv e4) ?_)
   cases hb:v4
   ·have h7:=A4 h6 hb;refine rl.done (RW.cond_f rfl (RW.skip (RW.reg (rl.f 2 rfl ?_))));cases h7
    exact hB1 _ rfl _ _ (Gh.rN [0])
   ·have h8:=A5 h6 hb;refine rl.done (RW.cond_t rfl (RW.sf 2 rfl ?_));refine RW.kp [4] [(4,.j s1)] [some ⟨A9 false x1,0⟩] rfl rfl ?_;refine RW.ret ?_;cases h8;have h9:=elimL h2 (hE1 _ rfl);cases h9
    exact RRetS.m (Gh.rN [0])
 ·intro y2 hC
  have h2:=elimR h2 hC;refine RW.sf 1 rfl (RW.ret ?_);cases h2
  exact RRetS.m (Gh.rN [0])
theorem Cr {x0:List TItem} {x1:TItem} {r:Bool} (hF:F0 x0 x1=some r):C5 Tryz.prog 1 60 [H9 x0,.fn 125 [.ptr 0 0]] [some ⟨A9 false x1,0⟩] (.bool r) [some ⟨A9 false x1,0⟩]:=by
 refine C5.q Cm ?_;unfold F0 at hF;refine RW.sf 1 rfl (RW.sr 2 rfl ?_);obtain ⟨v1,e1,h1⟩:=A1 hF;refine rl.call rfl rfl rfl (A6.eR [0] (Dp e1) ?_);refine rl.f 2 rfl (RW.ret ?_);cases h1
 exact RRetS.m (Gh.rN [0])
theorem Tn {x0:List TItem} {r:Bool} (hF:Ci x0=some r):A7 Tryz.prog 62 [H9 x0] (.bool r):=by
 refine A7.q Yp ?_;unfold Ci at hF;refine RW.sf 1 rfl (RW.seq (RW.sr 2 rfl ?_))
 refine rl.gen rfl rfl fun b hb=>?_
 cases b
 ·have h1:=A4 hF hb;refine rl.done (RW.cond_f rfl (RW.skip (RW.seq (RW.sf 3 rfl ?_))));obtain ⟨y9,ey9,h3⟩:=A1 h1
  refine RW.cutq (σ:=Unit) (fun y2=>[]) (fun y2=>[]) (fun y=>y9=.inr y) gg ?_ ?_
  ·refine RW.blk ?_
   refine RW.iter (σ:=Int) ey9 (fun s1=>[(0,H9 x0),(8,H9 x0),(9,.j (x0.length:Int)),(10,.j s1)]) (fun s1=>[]) (Gh.y0 []) (fun s1 B o hS2 hB2 hE2=>?_)
   unfold Z4 at hS2;refine RW.sreg ?_
   refine rl.gen rfl rfl fun b hb=>?_
   cases b
   ·have h4:=A4 hS2 hb;refine rl.done (RW.seq (RW.cond_f rfl (RW.exit (C4 ?_))));cases h4
    exact ⟨_,(hE2 _ rfl).symm,(Gh.y0 [])⟩
   ·have h5:=A5 hS2 hb;refine rl.done (RW.seq (RW.cond_t rfl (RW.skip (RW.seq (RW.blk (RW.sr 1 rfl ?_))))));obtain ⟨v3,e3,h6⟩:=A1 h5;refine rl.op (C0 (enc:=A9) (o:=false) rfl rfl rfl e3) ?_;refine rl.op (K2 (off':=0) (vs:=(A9 false v3)) C7 rfl e3 rfl rfl rfl) ?_;refine rl.f 3 rfl (RW.seq (RW.seq ?_));obtain ⟨y4,ey4,h7⟩:=A1 h6
    refine RW.cutq (σ:=Bool) (fun y4=>[(0,H9 x0),(3,.j s1),(4,.ptr 0 0),(8,H9 x0),(9,.j (x0.length:Int)),(10,.j s1),(24,.bool y4)]) (fun y4=>[some ⟨A9 false v3,0⟩]) (fun y=>y4=y) gg ?_ ?_
    ·refine RW.reg ?_;refine rl.run 2 rfl ?_;obtain ⟨v5,e5,h8⟩:=A1 ey4;refine rl.call rfl rfl rfl (A6.y (r':=.bool v5) (C9 e5) ?_)
     cases hb:v5
     ·have h9:=A4 h8 hb;refine rl.f 7 rfl ?_;cases h9
      exact ⟨_,rfl,(Gh.y0 [0])⟩
     ·have h10:=A5 h8 hb;refine rl.run 4 rfl ?_;obtain ⟨v6,e6,h11⟩:=A1 h10;refine rl.call rfl rfl rfl (A6.y (r':=.bool v6) (Lq e6) ?_)
      cases hb:v6
      ·have h12:=A4 h11 hb;refine rl.f 2 rfl ?_;cases h12
       exact ⟨_,rfl,(Gh.y0 [0])⟩
      ·have h13:=A5 h11 hb;refine rl.f 2 rfl ?_;cases h13
       exact ⟨_,rfl,(Gh.y0 [0])⟩
    ·intro y hC
     subst hC
     cases hb:y4
     ·have h14:=A4 h7 hb;refine RW.cond_f rfl (RW.skip (RW.sr 2 rfl ?_));obtain ⟨v7,e7,h15⟩:=A1 h14;refine rl.op (A7x C7 rfl rfl rfl Fn e7) ?_;refine rl.run 1 rfl ?_;obtain ⟨v8,e8,h16⟩:=A1 h15;refine rl.call rfl rfl rfl (A6.eR [0] (Cr e8) ?_)
      cases hb:v8
      ·have h17:=A4 h16 hb;refine rl.done (RW.cond_f rfl (RW.skip (RW.reg (rl.f 2 rfl ?_))));cases h17
       exact hB2 _ rfl _ _ (Gh.y0 [])
      ·have h18:=A5 h16 hb;refine rl.done (RW.cond_t rfl (RW.sf 1 rfl ?_));refine RW.kp [2] [(2,.bool false)] [some ⟨A9 false v3,0⟩] rfl rfl ?_;refine RW.ret ?_;cases h18;have h19:=elimL h3 (hE2 _ rfl);cases h19
       exact RRet.y
     ·have h20:=A5 h7 hb;refine RW.cond_t rfl (RW.sf 1 rfl (RW.ret ?_));cases h20;have h21:=elimL h3 (hE2 _ rfl);cases h21
      exact RRet.y
  ·intro y2 hC
   have h3:=elimR h3 hC;refine RW.sf 1 rfl (RW.ret ?_);cases h3
   exact RRet.y
 ·have h22:=A5 hF hb;refine rl.done (RW.cond_t rfl (RW.sf 1 rfl (RW.ret ?_)));cases h22
  exact RRet.y
theorem Ys {x0:TLog} {r:Bool} (hF:Y6 x0=some r):A7 Tryz.prog 14 [.agg (B5 false x0)] (.bool r):=by
 refine A7.q A1o ?_;unfold Y6 at hF;refine RW.sf 2 rfl (RW.seq (RW.seq ?_));obtain ⟨y1,ey1,h1⟩:=A1 hF
 refine RW.cutq (σ:=Bool) (fun y1=>[(1,.ptr 0 0),(37,.bool y1)]) (fun y1=>[some ⟨B5 false x0,0⟩]) (fun y=>y1=y) gg ?_ ?_
 ·refine RW.drw ?_;refine A0.op rfl rfl (A0.op rfl rfl ?_);obtain ⟨v2,e2,h2⟩:=A1 ey1;refine A0.call rfl rfl rfl (A6.y (r':=.bool v2) (X2 e2) ⟨rfl,?_⟩)
  cases hb:v2
  ·have h3:=A4 h2 hb;refine A0.op rfl rfl (A0.op rfl rfl (A0.off rfl (A0.off rfl (A0.off rfl (A0.off rfl (A0.off rfl (A0.op rfl rfl (A0.op rfl rfl (A0.off rfl (A0.off rfl (A0.off rfl ?_)))))))))));refine A0.op rfl rfl (A0.op rfl rfl (A0.off rfl (A0.off rfl (A0.off rfl (A0.off rfl (A0.off rfl (A0.off rfl (A0.op rfl rfl (A0.op rfl rfl (A0.off rfl (A0.off rfl ?_)))))))))));refine A0.off rfl (A0.off rfl (A0.off rfl (A0.off rfl (A0.off rfl (A0.op rfl rfl (A0.done ?_))))));cases h3
   exact ⟨_,rfl,(Gh.y0 [0])⟩
  ·have h4:=A5 h2 hb;refine A0.op rfl rfl (A0.op rfl rfl (A0.op rfl rfl (A0.op rfl rfl (A0.op rfl rfl (A0.op rfl rfl ?_)))))
   refine A0.gen rfl rfl fun b hb=>?_
   cases b
   ·have h5:=A4 h4 hb;refine A0.op rfl rfl (A0.op rfl rfl (A0.op rfl rfl (A0.op rfl rfl ?_)))
    refine A0.gen rfl rfl fun b hb=>?_
    cases b
    ·have h6:=A4 h5 hb;refine A0.op rfl rfl (A0.op rfl rfl (A0.op rfl rfl (A0.op rfl rfl (A0.op rfl rfl (A0.op rfl rfl ?_)))));obtain ⟨v3,e3,h7⟩:=A1 h6;refine A0.call rfl rfl rfl (A6.y (r':=.j v3) (Gb e3) ⟨rfl,?_⟩)
     refine A0.gen rfl rfl fun b hb=>?_
     cases b
     ·have h8:=A4 h7 hb;refine A0.op rfl rfl (A0.op rfl rfl (A0.op rfl rfl (A0.op rfl rfl (A0.op rfl rfl (A0.op rfl rfl (A0.op rfl rfl ?_))))));obtain ⟨v4,e4,h9⟩:=A1 h8;refine A0.call rfl rfl rfl (A6.y (r':=.bool v4) (C9 e4) ⟨rfl,?_⟩)
      cases hb:v4
      ·have h10:=A4 h9 hb;refine A0.op rfl rfl (A0.op rfl rfl (A0.done ?_));cases h10
       exact ⟨_,rfl,(Gh.y0 [0])⟩
      ·have h11:=A5 h9 hb;refine A0.op rfl rfl (A0.op rfl rfl (A0.done ?_));cases h11
       exact ⟨_,rfl,(Gh.y0 [0])⟩
     ·have h12:=A5 h7 hb;refine A0.op rfl rfl (A0.op rfl rfl (A0.off rfl (A0.off rfl (A0.off rfl (A0.off rfl (A0.off rfl (A0.off rfl (A0.off rfl (A0.op rfl rfl (A0.done ?_))))))))));cases h12
      exact ⟨_,rfl,(Gh.y0 [0])⟩
    ·have h13:=A5 h5 hb;refine A0.op rfl rfl (A0.op rfl rfl (A0.off rfl (A0.off rfl (A0.off rfl (A0.off rfl (A0.off rfl (A0.off rfl (A0.op rfl rfl (A0.op rfl rfl (A0.off rfl (A0.off rfl ?_)))))))))));refine A0.off rfl (A0.off rfl (A0.off rfl (A0.off rfl (A0.off rfl (A0.op rfl rfl (A0.done ?_))))));cases h13
     exact ⟨_,rfl,(Gh.y0 [0])⟩
   ·have h14:=A5 h4 hb;refine A0.op rfl rfl (A0.op rfl rfl (A0.off rfl (A0.off rfl (A0.off rfl (A0.op rfl rfl (A0.op rfl rfl (A0.off rfl (A0.off rfl (A0.off rfl (A0.off rfl (A0.off rfl ?_)))))))))));refine A0.off rfl (A0.op rfl rfl (A0.op rfl rfl (A0.off rfl (A0.off rfl (A0.off rfl (A0.off rfl (A0.off rfl (A0.off rfl (A0.off rfl (A0.op rfl rfl (A0.done ?_)))))))))));cases h14
    exact ⟨_,rfl,(Gh.y0 [0])⟩
 ·intro y hC
  subst hC
  cases hb:y1
  ·have h15:=A4 h1 hb;refine RW.cond_f rfl (RW.skip (RW.seq (RW.seq ?_)));obtain ⟨y5,ey5,h16⟩:=A1 h15
   refine RW.cutq (σ:=Bool) (fun y5=>[(1,.ptr 0 0),(59,.bool y5)]) (fun y5=>[some ⟨B5 false x0,0⟩]) (fun y=>y5=y) gg ?_ ?_
   ·refine RW.reg ?_;refine rl.run 2 rfl ?_;obtain ⟨v6,e6,h17⟩:=A1 ey5;refine rl.call rfl rfl rfl (A6.y (r':=.bool v6) (C9 e6) ?_)
    cases hb:v6
    ·have h18:=A4 h17 hb;refine rl.f 19 rfl ?_;cases h18
     exact ⟨_,rfl,(Gh.y0 [0])⟩
    ·have h19:=A5 h17 hb;refine rl.run 4 rfl ?_;obtain ⟨v7,e7,h20⟩:=A1 h19;refine rl.call rfl rfl rfl (A6.y (r':=.bool v7) (C9 e7) ?_)
     cases hb:v7
     ·have h21:=A4 h20 hb;refine rl.f 14 rfl ?_;cases h21
      exact ⟨_,rfl,(Gh.y0 [0])⟩
     ·have h22:=A5 h20 hb;refine rl.run 5 rfl ?_;obtain ⟨v8,e8,h23⟩:=A1 h22;refine rl.call rfl rfl rfl (A6.y (r':=.bool v8) (C9 e8) ?_)
      cases hb:v8
      ·have h24:=A4 h23 hb;refine rl.f 8 rfl ?_;cases h24
       exact ⟨_,rfl,(Gh.y0 [0])⟩
      ·have h25:=A5 h23 hb;refine rl.run 5 rfl ?_;obtain ⟨v9,e9,h26⟩:=A1 h25;refine rl.call rfl rfl rfl (A6.y (r':=.bool v9) (C9 e9) ?_)
       cases hb:v9
       ·have h27:=A4 h26 hb;refine rl.f 2 rfl ?_;cases h27
        exact ⟨_,rfl,(Gh.y0 [0])⟩
       ·have h28:=A5 h26 hb;refine rl.f 2 rfl ?_;cases h28
        exact ⟨_,rfl,(Gh.y0 [0])⟩
   ·intro y hC
    subst hC
    cases hb:y5
    ·have h29:=A4 h16 hb;refine RW.cond_f rfl (RW.skip (RW.seq (RW.sf 4 rfl ?_)));obtain ⟨y21,ey21,h31⟩:=A1 h29
     refine RW.cutq (σ:=Unit) (fun y11=>[(1,.ptr 0 0)]) (fun y11=>[some ⟨B5 false x0,0⟩]) (fun y=>y21=.inr y) gg ?_ ?_
     ·refine RW.blk ?_
      refine RW.iter (σ:=Int) ey21 (fun s10=>[(1,.ptr 0 0),(61,Q1 x0.Used),(62,.j (x0.Used.length:Int)),(63,.j s10)]) (fun s10=>[some ⟨B5 false x0,0⟩]) (Gh.y0 [0]) (fun s10 B o hS30 hB30 hE30=>?_)
      unfold Z1 at hS30;refine RW.sreg ?_
      refine rl.gen rfl rfl fun b hb=>?_
      cases b
      ·have h32:=A4 hS30 hb;refine rl.done (RW.seq (RW.cond_f rfl (RW.exit (C4 ?_))));cases h32
       exact ⟨_,(hE30 _ rfl).symm,(Gh.y0 [0])⟩
      ·have h33:=A5 hS30 hb;refine rl.done (RW.seq (RW.cond_t rfl (RW.skip (RW.seq (RW.blk (RW.sr 1 rfl ?_))))));obtain ⟨v12,e12,h34⟩:=A1 h33;refine rl.op (C0 (enc:=A8) (o:=false) rfl rfl rfl e12) ?_;refine rl.op (K2 (off':=0) (vs:=(A8 false v12)) B3 rfl e12 rfl rfl rfl) ?_;refine rl.f 3 rfl (RW.seq (RW.seq ?_));obtain ⟨y13,ey13,h35⟩:=A1 h34
       refine RW.cutq (σ:=Bool) (fun y13=>[(1,.ptr 0 0),(3,.j s10),(4,.ptr 1 0),(61,Q1 x0.Used),(62,.j (x0.Used.length:Int)),(63,.j s10),(104,.bool y13)]) (fun y13=>[some ⟨B5 false x0,0⟩,some ⟨A8 false v12,0⟩]) (fun y=>y13=y) gg ?_ ?_
       ·refine RW.drw ?_;refine A0.op rfl rfl (A0.op rfl rfl (A0.op rfl rfl (A0.op rfl rfl (A0.op rfl rfl ?_))));obtain ⟨v14,e14,h36⟩:=A1 ey13;refine A0.call rfl rfl rfl (A6.y (r':=.bool v14) (C9 e14) ⟨rfl,?_⟩)
        cases hb:v14
        ·have h37:=A4 h36 hb;refine A0.op rfl rfl (A0.op rfl rfl (A0.off rfl (A0.off rfl (A0.off rfl (A0.off rfl (A0.off rfl (A0.op rfl rfl (A0.op rfl rfl (A0.off rfl (A0.off rfl (A0.off rfl ?_)))))))))));refine A0.off rfl (A0.off rfl (A0.off rfl (A0.off rfl (A0.off rfl (A0.off rfl (A0.off rfl (A0.off rfl (A0.off rfl (A0.off rfl (A0.off rfl (A0.op rfl rfl ?_)))))))))));refine A0.op rfl rfl (A0.off rfl (A0.off rfl (A0.off rfl (A0.off rfl (A0.off rfl (A0.op rfl rfl (A0.done ?_)))))));cases h37
         exact ⟨_,rfl,(Gh.y0 [0,1])⟩
        ·have h38:=A5 h36 hb;refine A0.op rfl rfl (A0.op rfl rfl (A0.op rfl rfl (A0.op rfl rfl (A0.op rfl rfl (A0.op rfl rfl ?_)))))
         refine A0.gen rfl rfl fun b hb=>?_
         cases b
         ·have h39:=A4 h38 hb;refine A0.op rfl rfl (A0.op rfl rfl (A0.op rfl rfl ?_))
          refine A0.gen rfl rfl fun b hb=>?_
          cases b
          ·have h40:=A4 h39 hb;refine A0.op rfl rfl (A0.off rfl (A0.off rfl (A0.off rfl (A0.off rfl (A0.off rfl (A0.off rfl (A0.off rfl (A0.off rfl (A0.off rfl (A0.off rfl (A0.op rfl rfl ?_)))))))))));refine A0.op rfl rfl (A0.op rfl rfl (A0.op rfl rfl (A0.op rfl rfl (A0.op rfl rfl ?_))));obtain ⟨v15,e15,h41⟩:=A1 h40;refine A0.call rfl rfl rfl (A6.y (r':=.bool v15) (Kw e15) ⟨rfl,?_⟩)
           cases hb:v15
           ·have h42:=A4 h41 hb;refine A0.op rfl rfl (A0.op rfl rfl (A0.done ?_));cases h42
            exact ⟨_,rfl,(Gh.y0 [0,1])⟩
           ·have h43:=A5 h41 hb;refine A0.op rfl rfl (A0.op rfl rfl (A0.done ?_));cases h43
            exact ⟨_,rfl,(Gh.y0 [0,1])⟩
          ·have h44:=A5 h39 hb;refine A0.op rfl rfl (A0.op rfl rfl (A0.op rfl rfl (A0.op rfl rfl (A0.op rfl rfl ?_))));obtain ⟨v16,e16,h45⟩:=A1 h44;refine A0.op rfl (C0 (enc:=A8) (o:=false) rfl rfl rfl e16) ?_;refine A0.op rfl rfl ?_;refine A0.op rfl (H7 (off':=1) B3 rfl e16 rfl rfl rfl) ?_;refine A0.op rfl rfl (A0.op rfl rfl ?_)
           refine A0.gen rfl rfl fun b hb=>?_
           cases b
           ·have h46:=A4 h45 hb;refine A0.op rfl rfl (A0.op rfl rfl (A0.op rfl rfl (A0.op rfl rfl (A0.op rfl rfl (A0.op rfl rfl ?_)))));obtain ⟨v17,e17,h47⟩:=A1 h46;refine A0.call rfl rfl rfl (A6.y (r':=.bool v17) (Kw e17) ⟨rfl,?_⟩)
            cases hb:v17
            ·have h48:=A4 h47 hb;refine A0.op rfl rfl (A0.op rfl rfl (A0.done ?_));cases h48
             exact ⟨_,rfl,(Gh.y0 [0,1])⟩
            ·have h49:=A5 h47 hb;refine A0.op rfl rfl (A0.op rfl rfl (A0.done ?_));cases h49
             exact ⟨_,rfl,(Gh.y0 [0,1])⟩
           ·have h50:=A5 h45 hb;refine A0.op rfl rfl (A0.op rfl rfl (A0.op rfl rfl (A0.off rfl (A0.off rfl (A0.off rfl (A0.off rfl (A0.off rfl (A0.op rfl rfl (A0.done ?_)))))))));cases h50
            exact ⟨_,rfl,(Gh.y0 [0,1])⟩
         ·have h51:=A5 h38 hb;refine A0.op rfl rfl (A0.op rfl rfl (A0.off rfl (A0.off rfl (A0.off rfl (A0.off rfl (A0.off rfl (A0.off rfl (A0.off rfl (A0.off rfl (A0.off rfl (A0.off rfl ?_)))))))))));refine A0.off rfl (A0.off rfl (A0.off rfl (A0.off rfl (A0.op rfl rfl (A0.op rfl rfl (A0.off rfl (A0.off rfl (A0.off rfl (A0.off rfl (A0.off rfl (A0.op rfl rfl ?_)))))))))));refine A0.done ?_;cases h51
          exact ⟨_,rfl,(Gh.y0 [0,1])⟩
       ·intro y hC
        subst hC
        cases hb:y13
        ·have h52:=A4 h35 hb;refine RW.cond_f rfl (RW.skip (RW.seq (RW.sr 3 rfl ?_)));obtain ⟨v18,e18,h53⟩:=A1 h52;refine rl.op (A7x B3 rfl rfl rfl Fn e18) ?_;refine rl.run 1 rfl ?_;obtain ⟨v19,e19,h54⟩:=A1 h53;refine rl.call rfl rfl rfl (A6.eR [1] (Ds e19) ?_)
         cases hb:v19
         ·have h55:=A4 h54 hb;refine rl.done (RW.cond_f rfl (RW.skip (RW.sr 3 rfl ?_)));obtain ⟨v20,e20,h56⟩:=A1 h55;refine rl.call rfl rfl rfl (A6.eR [0] (Dk e20) ?_)
          cases hb:v20
          ·have h57:=A4 h56 hb;refine rl.done ?_;refine RW.kp [1,61,62,63,114] [(1,.ptr 0 0),(61,Q1 x0.Used),(62,.j (x0.Used.length:Int)),(63,.j s10),(114,.bool false)] [some ⟨B5 false x0,0⟩,some ⟨A8 false v12,0⟩] rfl rfl ?_;refine RW.cond_f rfl (RW.skip (RW.reg (rl.f 2 rfl ?_)));cases h57
           exact hB30 _ rfl _ _ (Gh.y0 [0])
          ·have h58:=A5 h56 hb;refine rl.done ?_;refine RW.kp [1,61,62,63,114] [(1,.ptr 0 0),(61,Q1 x0.Used),(62,.j (x0.Used.length:Int)),(63,.j s10),(114,.bool true)] [some ⟨B5 false x0,0⟩,some ⟨A8 false v12,0⟩] rfl rfl ?_;refine RW.cond_t rfl (RW.sf 1 rfl (RW.ret ?_));cases h58;have h59:=elimL h31 (hE30 _ rfl);cases h59
           exact RRet.y
         ·have h60:=A5 h54 hb;refine rl.done (RW.cond_t rfl (RW.sf 1 rfl ?_));refine RW.kp [2] [(2,.bool false)] [some ⟨B5 false x0,0⟩,some ⟨A8 false v12,0⟩] rfl rfl ?_;refine RW.ret ?_;cases h60;have h61:=elimL h31 (hE30 _ rfl);cases h61
          exact RRet.y
        ·have h62:=A5 h35 hb;refine RW.cond_t rfl (RW.sf 1 rfl (RW.ret ?_));cases h62;have h63:=elimL h31 (hE30 _ rfl);cases h63
         exact RRet.y
     ·intro y11 hC
      have h31:=elimR h31 hC;refine RW.sr 1 rfl ?_;obtain ⟨v22,e22,h64⟩:=A1 h31;refine rl.call rfl rfl rfl (A6.y (r':=H9 v22) (Un e22) ?_);obtain ⟨v23,e23,h65⟩:=A1 h64;refine rl.call rfl rfl rfl (A6.y (r':=.bool v23) (Tn e23) ?_);refine rl.f 1 rfl (RW.ret ?_);cases h65
      exact RRet.y
    ·have h66:=A5 h16 hb;refine RW.cond_t rfl (RW.sf 1 rfl (RW.ret ?_));cases h66
     exact RRet.y
  ·have h67:=A5 h1 hb;refine RW.cond_t rfl (RW.sf 1 rfl (RW.ret ?_));cases h67
   exact RRet.y
theorem Eu {x0:TDisk} {x1:Int} {r:TSeg} (hF:Y0 x0 x1=some r):A7 Tryz.prog 21 [.agg (A3 false x0),.j x1] (.agg (A8 true r)):=by
 refine A7.q A23 ?_;unfold Y0 at hF;refine RW.sf 2 rfl (RW.sr 2 rfl ?_);obtain ⟨v1,e1,h1⟩:=A1 hF;refine rl.call rfl rfl rfl (A6.y (r':=.tup [Ft v1.1,.j v1.2]) (Hj e1) ?_);refine rl.f 5 rfl (RW.sr 3 rfl ?_);obtain ⟨v2,e2,h2⟩:=A1 h1;refine rl.call rfl rfl rfl (A6.y (r':=.j v2) (Bi e2) ?_);refine rl.f 4 rfl ?_;refine RW.kp [4,5,7] [(4,.ptr 1 0),(5,Ft v1.1),(7,.ptr 2 0)] [some ⟨A3 false x0,0⟩,some ⟨[.j 0,.j 0,.j 0,.nils],0⟩,some ⟨[.j x1,.j v2,.j v1.2,.nils],0⟩] rfl rfl ?_;refine RW.seq (RW.sf 3 rfl ?_);refine RW.gh (Gh.nil_c 2 3 9 rfl rfl) ?_;obtain ⟨y8,ey8,h4⟩:=A1 h2
 refine RW.cutq (σ:=(List TItem)) (fun y4=>[(4,.ptr 0 0),(7,.ptr 1 0)]) (fun y4=>[some ⟨[.j 0,.j 0,.j 0,.nils],0⟩,some ⟨[.j x1,.j v2,.j v1.2,.sl 2 0 y4.length],0⟩,some ⟨fl (A9 true) y4,9⟩]) (fun y=>y8=y) gg ?_ ?_
 ·refine RW.blk ?_
  refine RW.iter (σ:=Int×(List TItem)) ey8 (fun s3=>[(4,.ptr 0 0),(7,.ptr 1 0),(24,Ft v1.1),(25,.j (v1.1.length:Int)),(26,.j s3.1)]) (fun s3=>[some ⟨[.j 0,.j 0,.j 0,.nils],0⟩,some ⟨[.j x1,.j v2,.j v1.2,.sl 2 0 s3.2.length],0⟩,some ⟨fl (A9 true) s3.2,9⟩]) (Gh.y0 [1,2,3]) (fun s3 B o hS3 hB3 hE3=>?_)
  unfold Ey at hS3;refine RW.sreg ?_
  refine rl.gen rfl rfl fun b hb=>?_
  cases b
  ·have h5:=A4 hS3 hb;refine rl.done (RW.seq (RW.cond_f rfl (RW.exit (C4 ?_))));cases h5
   exact ⟨_,(hE3 _ rfl).symm,(Gh.y0 [0,1,2])⟩
  ·have h6:=A5 hS3 hb;refine rl.done (RW.seq (RW.cond_t rfl (RW.skip (RW.seq (RW.blk (RW.sreg ?_))))));obtain ⟨v5,e5,h7⟩:=A1 h6;refine rl.op (C0 (enc:=C3) (o:=false) rfl rfl rfl e5) ?_;refine rl.op (K2 (off':=0) (vs:=(C3 false v5)) Mq rfl e5 rfl rfl rfl) ?_;refine rl.f 2 rfl (RW.sr 1 rfl ?_);obtain ⟨v6,e6,h8⟩:=A1 h7;refine rl.call rfl rfl rfl (A6.y (r':=.tup [.agg (A9 false v6.1),.bool v6.2]) (Ht e6) ?_);refine rl.f 6 rfl (RW.sf 1 rfl ?_)
   cases hb:v6.2
   ·have h9:=A4 h8 hb;refine RW.cond_f rfl (RW.skip (RW.reg (rl.f 2 rfl ?_)));cases h9
    exact hB3 _ rfl _ _ (Gh.y0 [0,1,2])
   ·have h10:=A5 h8 hb;refine RW.cond_t rfl (RW.reg (rl.run 4 rfl ?_));obtain ⟨v7,e7,h11⟩:=A1 h10;refine rl.op (Ar rfl rfl (Y4 (l:=s3.2) (m:=[v6.1]) (o:=true) C7 rfl rfl (Q9 (m:=[v6.1]) (o:=true) Cb rfl rfl) rfl (Cb.fst _ _) e7)) ?_;refine rl.f 2 rfl (RW.reg (rl.f 2 rfl ?_));cases h11
    exact hB3 _ rfl _ _ (Gh.y0 [0,1,6])
 ·intro y4 hC
  subst hC;refine RW.sf 2 rfl (RW.ret ?_);cases h4
  exact RRet.y
theorem Rm {x0:List UInt8} {r:(List UInt8)×Bool} (hF:Bc x0=some r):A7 Tryz.prog 102 [.str x0] (.tup [.str r.1,.bool r.2]):=by
 refine A7.q Wx ?_;unfold Bc at hF;refine RW.sf 2 rfl (RW.sf 4 rfl (RW.seq (RW.seq ?_)));obtain ⟨y1,ey1,h1⟩:=A1 hF
 refine RW.cutq (σ:=Bool) (fun y1=>[(0,.str x0),(4,.j (w64 ((x0.length:Int) - 4))),(20,.bool y1)]) (fun y1=>[]) (fun y=>y1=y) gg ?_ ?_
 ·refine RW.drw ?_;refine A0.op rfl rfl ?_;obtain ⟨v2,e2,h2⟩:=A1 ey1;refine A0.call rfl rfl rfl (A6.y (r':=.bool v2) (C9 e2) ⟨rfl,?_⟩)
  cases hb:v2
  ·have h3:=A4 h2 hb;refine A0.op rfl rfl (A0.op rfl rfl (A0.off rfl (A0.off rfl (A0.off rfl (A0.off rfl (A0.off rfl (A0.off rfl (A0.off rfl (A0.off rfl (A0.op rfl rfl (A0.done ?_)))))))))));cases h3
   exact ⟨_,rfl,(Gh.y0 [])⟩
  ·have h4:=A5 h2 hb;refine A0.op rfl rfl (A0.op rfl rfl (A0.op rfl rfl (A0.op rfl rfl ?_)));obtain ⟨v3,e3,h5⟩:=A1 h4;refine A0.op rfl (Gj rfl rfl rfl Md e3) ?_;refine A0.op rfl rfl (A0.op rfl rfl ?_);obtain ⟨v4,e4,h6⟩:=A1 h5;refine A0.op rfl (Gj rfl rfl rfl Fn e4) ?_;obtain ⟨v5,e5,h7⟩:=A1 h6;refine A0.call rfl rfl rfl (A6.y (r':=.str v5) (Jh e5) ⟨rfl,?_⟩)
   refine A0.gen rfl rfl fun b hb=>?_
   cases b
   ·have h8:=A4 h7 hb;refine A0.op rfl rfl (A0.done ?_);cases h8
    exact ⟨_,rfl,(Gh.y0 [])⟩
   ·have h9:=A5 h7 hb;refine A0.op rfl rfl (A0.done ?_);cases h9
    exact ⟨_,rfl,(Gh.y0 [])⟩
 ·intro y hC
  subst hC
  cases hb:y1
  ·have h10:=A4 h1 hb;refine RW.cond_f rfl (RW.skip (RW.sr 2 rfl ?_));obtain ⟨v6,e6,h11⟩:=A1 h10;refine rl.op (Gj rfl rfl rfl Fn e6) ?_;refine rl.f 2 rfl (RW.ret ?_);cases h11
   exact RRet.y
  ·have h12:=A5 h1 hb;refine RW.cond_t rfl (RW.sf 2 rfl (RW.ret ?_));cases h12
   exact RRet.y
theorem Lj {x0:TRef} {x1:TRef} {r:Bool} (hF:W7 x0 x1=some r):C5 Tryz.prog 1 115 [.agg (C8 false x0),.ptr 0 0] [some ⟨C8 false x1,0⟩] (.bool r) [some ⟨C8 false x1,0⟩]:=by
 refine C5.q Vj ?_;unfold W7 at hF;refine RW.sf 2 rfl (RW.sf 6 rfl (RW.ret ?_));cases hF
 exact RRetS.m (Gh.rN [0])
theorem Eb {x0:List TRef} {x1:TRef} {r:Int} (hF:H5 x0 x1=some r):C5 Tryz.prog 1 162 [Qh x0,.fn 115 [.ptr 0 0]] [some ⟨C8 false x1,0⟩] (.j r) [some ⟨C8 false x1,0⟩]:=by
 refine C5.q Ke ?_;unfold H5 at hF;refine RW.sf 1 rfl (RW.seq (RW.sf 3 rfl ?_));obtain ⟨y5,ey5,h2⟩:=A1 hF
 refine RW.cutq (σ:=Unit) (fun y2=>[]) (fun y2=>[some ⟨C8 false x1,0⟩]) (fun y=>y5=.inr y) gg ?_ ?_
 ·refine RW.blk ?_
  refine RW.iter (σ:=Int) ey5 (fun s1=>[(0,Qh x0),(1,.fn 115 [.ptr 0 0]),(7,.j (x0.length:Int)),(8,.j s1)]) (fun s1=>[some ⟨C8 false x1,0⟩]) (Gh.rN [0]) (fun s1 B o hS1 hB1 hE1=>?_)
  unfold K4 at hS1;refine RW.sreg ?_
  refine rl.gen rfl rfl fun b hb=>?_
  cases b
  ·have h3:=A4 hS1 hb;refine rl.done (RW.seq (RW.cond_f rfl (RW.exit (C4 ?_))));cases h3
   exact ⟨_,(hE1 _ rfl).symm,(Gh.rN [0])⟩
  ·have h4:=A5 hS1 hb;refine rl.done (RW.seq (RW.cond_t rfl (RW.skip (RW.seq (RW.blk (RW.sf 2 rfl (RW.sr 3 rfl ?_)))))));obtain ⟨v3,e3,h5⟩:=A1 h4;refine rl.op (C0 (enc:=C8) (o:=false) rfl rfl rfl e3) ?_;refine rl.op (K2 (off':=0) (vs:=(C8 false v3)) Z0 rfl e3 rfl rfl rfl) ?_;obtain ⟨v4,e4,h6⟩:=A1 h5;refine rl.call rfl rfl rfl (A6.eR [0] (Lj e4) ?_)
   cases hb:v4
   ·have h7:=A4 h6 hb;refine rl.done (RW.cond_f rfl (RW.skip (RW.reg (rl.f 2 rfl ?_))));cases h7
    exact hB1 _ rfl _ _ (Gh.rN [0])
   ·have h8:=A5 h6 hb;refine rl.done (RW.cond_t rfl (RW.sf 2 rfl ?_));refine RW.kp [4] [(4,.j s1)] [some ⟨C8 false x1,0⟩] rfl rfl ?_;refine RW.ret ?_;cases h8;have h9:=elimL h2 (hE1 _ rfl);cases h9
    exact RRetS.m (Gh.rN [0])
 ·intro y2 hC
  have h2:=elimR h2 hC;refine RW.sf 1 rfl (RW.ret ?_);cases h2
  exact RRetS.m (Gh.rN [0])
theorem Da {x0:List TRef} {x1:TRef} {r:Bool} (hF:F4 x0 x1=some r):C5 Tryz.prog 1 114 [Qh x0,.fn 115 [.ptr 0 0]] [some ⟨C8 false x1,0⟩] (.bool r) [some ⟨C8 false x1,0⟩]:=by
 refine C5.q Hy ?_;unfold F4 at hF;refine RW.sf 1 rfl (RW.sr 2 rfl ?_);obtain ⟨v1,e1,h1⟩:=A1 hF;refine rl.call rfl rfl rfl (A6.eR [0] (Eb e1) ?_);refine rl.f 2 rfl (RW.ret ?_);cases h1
 exact RRetS.m (Gh.rN [0])
theorem Ty {x0:TCheck} {r:Bool} (hF:Ch x0=some r):A7 Tryz.prog 44 [.agg (B7 false x0)] (.bool r):=by
 refine A7.q Yk ?_;unfold Ch at hF;refine RW.sf 2 rfl (RW.seq (RW.sf 11 rfl ?_));obtain ⟨y5,ey5,h2⟩:=A1 hF
 refine RW.cutq (σ:=Unit) (fun y2=>[(1,.ptr 0 0)]) (fun y2=>[some ⟨B7 false x0,0⟩]) (fun y=>y5=.inr y) gg ?_ ?_
 ·refine RW.blk ?_
  refine RW.iter (σ:=Int) ey5 (fun s1=>[(1,.ptr 0 0),(16,.sl 1 0 [x0.Stamp,x0.NextGen,x0.NextSeq,x0.NextValid].length),(17,.j ([x0.Stamp,x0.NextGen,x0.NextSeq,x0.NextValid].length:Int)),(18,.j s1)]) (fun s1=>[some ⟨B7 false x0,0⟩,some ⟨fl (encI true) [x0.Stamp,x0.NextGen,x0.NextSeq,x0.NextValid],1⟩]) (Gh.y0 [0,1]) (fun s1 B o hS1 hB1 hE1=>?_)
  unfold V0 at hS1;refine RW.sreg ?_
  refine rl.gen rfl rfl fun b hb=>?_
  cases b
  ·have h3:=A4 hS1 hb;refine rl.done (RW.seq (RW.cond_f rfl (RW.exit (C4 ?_))));cases h3
   exact ⟨_,(hE1 _ rfl).symm,(Gh.y0 [0])⟩
  ·have h4:=A5 hS1 hb;refine rl.done (RW.seq (RW.cond_t rfl (RW.skip (RW.seq (RW.blk (RW.sreg ?_))))));obtain ⟨v3,e3,h5⟩:=A1 h4;refine rl.op (M7 rfl rfl rfl rfl e3) ?_;refine rl.op (Bq (o:=true) (off':=0) ekI rfl rfl e3 rfl rfl rfl) ?_;refine rl.f 1 rfl (RW.sr 1 rfl ?_);obtain ⟨v4,e4,h6⟩:=A1 h5;refine rl.call rfl rfl rfl (A6.y (r':=.bool v4) (C9 e4) ?_)
   cases hb:v4
   ·have h7:=A4 h6 hb;refine rl.f 1 rfl (RW.cond_t rfl (RW.sf 1 rfl ?_));refine RW.kp [2] [(2,.bool false)] [some ⟨B7 false x0,0⟩,some ⟨fl (encI true) [x0.Stamp,x0.NextGen,x0.NextSeq,x0.NextValid],1⟩] rfl rfl ?_;refine RW.ret ?_;cases h7;have h8:=elimL h2 (hE1 _ rfl);cases h8
    exact RRet.y
   ·have h9:=A5 h6 hb;refine rl.f 1 rfl (RW.cond_f rfl (RW.skip (RW.reg (rl.f 2 rfl ?_))));cases h9
    exact hB1 _ rfl _ _ (Gh.y0 [0,1])
 ·intro y2 hC
  have h2:=elimR h2 hC;refine RW.seq (RW.sr 3 rfl ?_);obtain ⟨v6,e6,h10⟩:=A1 h2;refine rl.call rfl rfl rfl (A6.y (r':=.bool v6) (C9 e6) ?_)
  cases hb:v6
  ·have h11:=A4 h10 hb;refine rl.f 1 rfl (RW.cond_t rfl (RW.sf 1 rfl (RW.ret ?_)));cases h11
   exact RRet.y
  ·have h12:=A5 h10 hb;refine rl.f 1 rfl (RW.cond_f rfl (RW.skip (RW.sf 1 rfl (RW.seq (RW.sf 4 rfl ?_)))));obtain ⟨y15,ey15,h14⟩:=A1 h12
   refine RW.cutq (σ:=Unit) (fun y8=>[]) (fun y8=>[]) (fun y=>y15=.inr y) gg ?_ ?_
   ·refine RW.blk ?_
    refine RW.iter (σ:=Int×Int) ey15 (fun s7=>[(1,.ptr 0 0),(5,.j s7.1),(32,Qh x0.Refs),(33,.j (x0.Refs.length:Int)),(34,.j s7.2)]) (fun s7=>[some ⟨B7 false x0,0⟩]) (Gh.y0 [0]) (fun s7 B o hS13 hB13 hE13=>?_)
    unfold Aq at hS13;refine RW.sreg ?_
    refine rl.gen rfl rfl fun b hb=>?_
    cases b
    ·have h15:=A4 hS13 hb;refine rl.done (RW.seq (RW.cond_f rfl (RW.exit (C4 ?_))));cases h15
     exact ⟨_,(hE13 _ rfl).symm,(Gh.y0 [])⟩
    ·have h16:=A5 hS13 hb;refine rl.done (RW.seq (RW.cond_t rfl (RW.skip (RW.seq (RW.blk (RW.sr 1 rfl ?_))))));obtain ⟨v9,e9,h17⟩:=A1 h16;refine rl.op (C0 (enc:=C8) (o:=false) rfl rfl rfl e9) ?_;refine rl.op (K2 (off':=0) (vs:=(C8 false v9)) Z0 rfl e9 rfl rfl rfl) ?_;refine rl.f 3 rfl (RW.seq (RW.seq ?_));obtain ⟨y10,ey10,h18⟩:=A1 h17
     refine RW.cutq (σ:=Bool) (fun y10=>[(1,.ptr 0 0),(7,.ptr 1 0),(32,Qh x0.Refs),(33,.j (x0.Refs.length:Int)),(34,.j s7.2),(61,.bool y10)]) (fun y10=>[some ⟨B7 false x0,0⟩,some ⟨C8 false v9,0⟩]) (fun y=>y10=y) gg ?_ ?_
     ·refine RW.reg ?_;refine rl.run 7 rfl ?_;obtain ⟨v11,e11,h19⟩:=A1 ey10;refine rl.call rfl rfl rfl (A6.y (r':=.bool v11) (C9 e11) ?_)
      cases hb:v11
      ·have h20:=A4 h19 hb;refine rl.f 15 rfl ?_;cases h20
       exact ⟨_,rfl,(Gh.y0 [0,1])⟩
      ·have h21:=A5 h19 hb;refine rl.run 4 rfl ?_;obtain ⟨v12,e12,h22⟩:=A1 h21;refine rl.call rfl rfl rfl (A6.y (r':=.bool v12) (C9 e12) ?_)
       cases hb:v12
       ·have h23:=A4 h22 hb;refine rl.f 10 rfl ?_;cases h23
        exact ⟨_,rfl,(Gh.y0 [0,1])⟩
       ·have h24:=A5 h22 hb;refine rl.run 6 rfl ?_;obtain ⟨v13,e13,h25⟩:=A1 h24;refine rl.gop rfl (A7x Z0 rfl rfl rfl Fn e13) ?_;refine rl.run 1 rfl ?_;obtain ⟨v14,e14,h26⟩:=A1 h25;refine rl.call rfl rfl rfl (A6.eR [1] (Da e14) ?_)
        cases hb:v14
        ·have h27:=A4 h26 hb;refine rl.f 1 rfl ?_;cases h27
         exact ⟨_,rfl,(Gh.y0 [0,1])⟩
        ·have h28:=A5 h26 hb;refine rl.f 1 rfl ?_;cases h28
         exact ⟨_,rfl,(Gh.y0 [0,1])⟩
     ·intro y hC
      subst hC
      cases hb:y10
      ·have h29:=A4 h18 hb;refine RW.cond_f rfl (RW.skip (RW.reg (rl.f 3 rfl (RW.reg (rl.f 2 rfl ?_)))));cases h29
       exact hB13 _ rfl _ _ (Gh.y0 [0])
      ·have h30:=A5 h18 hb;refine RW.cond_t rfl (RW.sf 1 rfl (RW.ret ?_));cases h30;have h31:=elimL h14 (hE13 _ rfl);cases h31
       exact RRet.y
   ·intro y8 hC
    have h14:=elimR h14 hC;refine RW.sf 1 rfl (RW.ret ?_);cases h14
    exact RRet.y
theorem Hw {x0:TCheck} {r:(List UInt8)×Bool} (hF:V2 x0=some r):A7 Tryz.prog 36 [.agg (B7 false x0)] (.tup [.str r.1,.bool r.2]):=by
 refine A7.q Uz ?_;unfold V2 at hF;refine RW.sf 3 rfl (RW.seq (RW.sr 1 rfl ?_));obtain ⟨v1,e1,h1⟩:=A1 hF;refine rl.call rfl rfl rfl (A6.y (r':=.bool v1) (Ty e1) ?_)
 cases hb:v1
 ·have h2:=A4 h1 hb;refine rl.f 1 rfl (RW.cond_t rfl (RW.sf 2 rfl (RW.ret ?_)));cases h2
  exact RRet.y
 ·have h3:=A5 h1 hb;refine rl.f 1 rfl (RW.cond_f rfl (RW.skip (RW.sdrw (A0.op rfl rfl (A0.op rfl rfl ?_)))));obtain ⟨v2,e2,h4⟩:=A1 h3;refine A0.call rfl rfl rfl (A6.y (r':=.str v2) (J4 e2) ⟨rfl,?_⟩);refine A0.op rfl rfl (A0.op rfl rfl ?_);obtain ⟨v3,e3,h5⟩:=A1 h4;refine A0.call rfl rfl rfl (A6.y (r':=.str v3) (J4 e3) ⟨rfl,?_⟩);obtain ⟨v4,e4,h6⟩:=A1 h5;refine A0.op rfl (Q3 rfl rfl e4) ?_;refine A0.op rfl rfl (A0.op rfl rfl ?_);obtain ⟨v5,e5,h7⟩:=A1 h6;refine A0.call rfl rfl rfl (A6.y (r':=.str v5) (J4 e5) ⟨rfl,?_⟩);obtain ⟨v6,e6,h8⟩:=A1 h7;refine A0.op rfl (Q3 rfl rfl e6) ?_;refine A0.op rfl rfl (A0.op rfl rfl ?_);obtain ⟨v7,e7,h9⟩:=A1 h8;refine A0.call rfl rfl rfl (A6.y (r':=.str v7) (J4 e7) ⟨rfl,?_⟩);obtain ⟨v8,e8,h10⟩:=A1 h9;refine A0.op rfl (Q3 rfl rfl e8) ?_;refine A0.op rfl rfl (A0.op rfl rfl (A0.op rfl rfl ?_));obtain ⟨v9,e9,h11⟩:=A1 h10;refine A0.call rfl rfl rfl (A6.y (r':=.str v9) (J4 e9) ⟨rfl,?_⟩);obtain ⟨v10,e10,h12⟩:=A1 h11;refine A0.op rfl (Q3 rfl rfl e10) ?_;refine A0.op rfl rfl (A0.done ?_);refine RW.kp [1,4] [(1,.ptr 0 0),(4,.str v10)] [some ⟨B7 false x0,0⟩] rfl rfl ?_;refine RW.seq (RW.sf 4 rfl ?_);obtain ⟨y18,ey18,h14⟩:=A1 h12
  refine RW.cutq (σ:=(List UInt8)) (fun y12=>[(4,.str y12)]) (fun y12=>[]) (fun y=>y18=y) gg ?_ ?_
  ·refine RW.blk ?_
   refine RW.iter (σ:=(List UInt8)×Int) ey18 (fun s11=>[(4,.str s11.1),(32,Qh x0.Refs),(33,.j (x0.Refs.length:Int)),(34,.j s11.2)]) (fun s11=>[]) (Gh.y0 []) (fun s11 B o hS13 hB13 hE13=>?_)
   unfold W5 at hS13;refine RW.sreg ?_
   refine rl.gen rfl rfl fun b hb=>?_
   cases b
   ·have h15:=A4 hS13 hb;refine rl.done (RW.seq (RW.cond_f rfl (RW.exit (C4 ?_))));cases h15
    exact ⟨_,(hE13 _ rfl).symm,(Gh.y0 [])⟩
   ·have h16:=A5 hS13 hb;refine rl.done (RW.seq (RW.cond_t rfl (RW.skip (RW.seq (RW.blk (RW.sreg ?_))))));obtain ⟨v13,e13,h17⟩:=A1 h16;refine rl.op (C0 (enc:=C8) (o:=false) rfl rfl rfl e13) ?_;refine rl.op (K2 (off':=0) (vs:=(C8 false v13)) Z0 rfl e13 rfl rfl rfl) ?_;refine rl.f 2 rfl (RW.drw (A0.op rfl rfl (A0.op rfl rfl (A0.op rfl rfl ?_))));obtain ⟨v14,e14,h18⟩:=A1 h17;refine A0.call rfl rfl rfl (A6.y (r':=.str v14) (J4 e14) ⟨rfl,?_⟩);refine A0.op rfl rfl (A0.op rfl rfl ?_);obtain ⟨v15,e15,h19⟩:=A1 h18;refine A0.call rfl rfl rfl (A6.y (r':=.str v15) (J4 e15) ⟨rfl,?_⟩);obtain ⟨v16,e16,h20⟩:=A1 h19;refine A0.op rfl (Q3 rfl rfl e16) ?_;obtain ⟨v17,e17,h21⟩:=A1 h20;refine A0.op rfl (Q3 rfl rfl e17) ?_;refine A0.op rfl rfl (A0.done (RW.reg (rl.f 2 rfl ?_)));cases h21
    exact hB13 _ rfl _ _ (Gh.y0 [])
  ·intro y12 hC
   subst hC;refine RW.sr 2 rfl ?_;obtain ⟨v19,e19,h22⟩:=A1 h14;refine rl.call rfl rfl rfl (A6.y (r':=.str v19) (Jh e19) ?_);obtain ⟨v20,e20,h23⟩:=A1 h22;refine rl.op (Q3 rfl rfl e20) ?_;refine rl.f 1 rfl (RW.sr 2 rfl ?_);obtain ⟨v21,e21,h24⟩:=A1 h23;refine rl.call rfl rfl rfl (A6.y (r':=.str v21) (J4 e21) ?_);refine rl.run 1 rfl ?_;obtain ⟨v22,e22,h25⟩:=A1 h24;refine rl.op (Q3 rfl rfl e22) ?_;refine rl.f 1 rfl (RW.seq (RW.sr 2 rfl ?_))
   refine rl.gen rfl rfl fun b hb=>?_
   cases b
   ·have h26:=A4 h25 hb;refine rl.done ?_;refine RW.kp [7,59] [(7,.str v22),(59,.bool false)] [] rfl rfl ?_;refine RW.cond_f rfl (RW.skip (RW.sf 3 rfl (RW.ret ?_)));cases h26
    exact RRet.y
   ·have h27:=A5 h25 hb;refine rl.done ?_;refine RW.kp [7,59] [(7,.str v22),(59,.bool true)] [] rfl rfl ?_;refine RW.cond_t rfl (RW.sf 2 rfl (RW.ret ?_));cases h27
    exact RRet.y
theorem Qc {x0:List UInt8} {r:TCheck×Bool} (hF:M5 x0=some r):A7 Tryz.prog 39 [.str x0] (.tup [.agg (B7 true r.1),.bool r.2]):=by
 refine A7.q Vf ?_;unfold M5 at hF;refine RW.sf 2 rfl (RW.sr 1 rfl ?_);obtain ⟨v1,e1,h1⟩:=A1 hF;refine rl.call rfl rfl rfl (A6.y (r':=.tup [.str v1.1,.j v1.2.1,.bool v1.2.2]) (W6 e1) ?_);refine rl.f 7 rfl (RW.sr 1 rfl ?_);obtain ⟨v2,e2,h2⟩:=A1 h1;refine rl.call rfl rfl rfl (A6.y (r':=.tup [.str v2.1,.bool v2.2]) (Rm e2) ?_);refine rl.f 5 rfl ?_;refine RW.kp [0,2,5,6,7,8] [(0,.str x0),(2,.ptr 0 0),(5,.j v1.2.1),(6,.bool v1.2.2),(7,.str v2.1),(8,.bool v2.2)] [some ⟨[.j 0,.j 0,.j 0,.j 0,.nils],0⟩] rfl rfl ?_;refine RW.seq (RW.sr 3 rfl ?_)
 cases hb:(!v1.2.2)
 ·have h3:=A4 h2 hb;refine rl.f 3 rfl ?_
  cases hb:(!v2.2)
  ·have h4:=A4 h3 hb;refine RW.cond_f rfl (RW.skip (RW.sf 2 rfl (RW.seq (RW.sf 1 rfl ?_))));refine RW.gh (Gh.nil_t 9 1 rfl) ?_;obtain ⟨y7,ey7,h6⟩:=A1 h4
   refine RW.cutq (σ:=(List Int)) (fun y4=>[(0,.str x0),(2,.ptr 0 0),(5,.j v1.2.1),(9,.sl 1 0 y4.length)]) (fun y4=>[some ⟨[.j 0,.j 0,.j 0,.j 0,.nils],0⟩,some ⟨fl (encI true) y4,1⟩]) (fun y=>y7=.inr y) gg ?_ ?_
   ·refine RW.blk ?_
    refine RW.iter (σ:=Int×(List Int)) ey7 (fun s3=>[(0,.str x0),(2,.ptr 0 0),(5,.j v1.2.1),(7,.str v2.1),(9,.sl 1 0 s3.2.length),(10,.j s3.1)]) (fun s3=>[some ⟨[.j 0,.j 0,.j 0,.j 0,.nils],0⟩,some ⟨fl (encI true) s3.2,1⟩]) (Gh.y0 [0,1]) (fun s3 B o hS5 hB5 hE5=>?_)
    unfold L0 at hS5;refine RW.seq (RW.sr 3 rfl ?_)
    refine rl.gen rfl rfl fun b hb=>?_
    cases b
    ·have h7:=A4 hS5 hb;refine rl.done (RW.cond_f rfl (RW.exit (C4 ?_)));cases h7
     exact ⟨_,(hE5 _ rfl).symm,(Gh.y0 [0,1])⟩
    ·have h8:=A5 hS5 hb;refine rl.done (RW.cond_t rfl (RW.skip (RW.blk (RW.sr 2 rfl ?_))));obtain ⟨v5,e5,h9⟩:=A1 h8;refine rl.call rfl rfl rfl (A6.y (r':=.tup [.j v5.1,.j v5.2.1,.bool v5.2.2]) (M6 e5) ?_);refine rl.f 7 rfl ?_;refine RW.kp [0,2,5,7,9,11,12,13] [(0,.str x0),(2,.ptr 0 0),(5,.j v1.2.1),(7,.str v2.1),(9,.sl 1 0 s3.2.length),(11,.j v5.1),(12,.j v5.2.1),(13,.bool v5.2.2)] [some ⟨[.j 0,.j 0,.j 0,.j 0,.nils],0⟩,some ⟨fl (encI true) s3.2,1⟩] rfl rfl ?_;refine RW.seq (RW.sf 2 rfl ?_)
     cases hb:(!v5.2.2)
     ·have h10:=A4 h9 hb;refine RW.cond_f rfl (RW.skip (RW.sr 3 rfl ?_));obtain ⟨v6,e6,h11⟩:=A1 h10;refine rl.op (Ar rfl rfl (Y4 (l:=s3.2) (m:=[v5.1]) (o:=true) ekI rfl rfl (Q9 (m:=[v5.1]) (o:=true) fkI rfl rfl) rfl (fkI.fst _ _) e6)) ?_;refine rl.f 1 rfl (RW.reg (rl.f 2 rfl ?_));cases h11
      exact hB5 _ rfl _ _ (Gh.y0 [0,3])
     ·have h12:=A5 h9 hb;refine RW.cond_t rfl (RW.sf 3 rfl (RW.ret ?_));cases h12;have h13:=elimL h6 (hE5 _ rfl);cases h13
      exact RRet.y
   ·intro y4 hC
    have h6:=elimR h6 hC;refine RW.seq (RW.sr 2 rfl ?_)
    refine rl.gen rfl rfl fun b hb=>?_
    cases b
    ·have h14:=A4 h6 hb;refine rl.done (RW.cond_f rfl (RW.skip (RW.sdrw (A0.op rfl rfl ?_))));obtain ⟨v8,e8,h15⟩:=A1 h14;refine A0.op rfl (M7 rfl rfl rfl rfl e8) ?_;refine A0.op rfl (Bq (o:=true) (off':=0) ekI rfl rfl e8 rfl rfl rfl) ?_;refine A0.op rfl rfl ?_;obtain ⟨v9,e9,h16⟩:=A1 h15;refine A0.op rfl (M7 rfl rfl rfl rfl e9) ?_;refine A0.op rfl (Bq (o:=true) (off':=0) ekI rfl rfl e9 rfl rfl rfl) ?_;refine A0.op rfl rfl ?_;obtain ⟨v10,e10,h17⟩:=A1 h16;refine A0.op rfl (M7 rfl rfl rfl rfl e10) ?_;refine A0.op rfl (Bq (o:=true) (off':=0) ekI rfl rfl e10 rfl rfl rfl) ?_;refine A0.op rfl rfl ?_;obtain ⟨v11,e11,h18⟩:=A1 h17;refine A0.op rfl (M7 rfl rfl rfl rfl e11) ?_;refine A0.op rfl (Bq (o:=true) (off':=0) ekI rfl rfl e11 rfl rfl rfl) ?_;refine A0.op rfl rfl ?_;refine A0.chnB rfl rfl (.here (.rx rfl) (.here (.rx (Bq (o:=true) (off':=0) ekI rfl rfl e11 rfl rfl rfl)) (.here (.rx (M7 rfl rfl rfl rfl e11)) (.here (.rx rfl) (.here (.rx (Bq (o:=true) (off':=0) ekI rfl rfl e10 rfl rfl rfl)) (.here (.rx (M7 rfl rfl rfl rfl e10)) (.here (.rx rfl) (.here (.rx (Bq (o:=true) (off':=0) ekI rfl rfl e9 rfl rfl rfl)) (.here (.rx (M7 rfl rfl rfl rfl e9)) (.here (.rx rfl) (.here (.rx (Bq (o:=true) (off':=0) ekI rfl rfl e8 rfl rfl rfl)) (.here (.rx (M7 rfl rfl rfl rfl e8)) (.here (.rx rfl) .nil))))))))))))) ?_;refine A0.chn rfl rfl ?_;refine A0.done ?_;refine RW.kp [0,2,5,9,14] [(0,.str x0),(2,.ptr 0 0),(5,.j v1.2.1),(9,.sl 1 0 y4.length),(14,.ptr 2 0)] [some ⟨[.j 0,.j 0,.j 0,.j 0,.nils],0⟩,some ⟨fl (encI true) y4,1⟩,some ⟨[.j v8,.j v9,.j v10,.j v11,.nils],0⟩] rfl rfl ?_;refine RW.seq (RW.sf 1 rfl ?_);refine RW.gh (Gh.nil_c 2 4 2 rfl rfl) ?_;obtain ⟨y17,ey17,h20⟩:=A1 h18
     refine RW.cutq (σ:=(List TRef)) (fun y13=>[(0,.str x0),(2,.ptr 0 0),(5,.j v1.2.1),(14,.ptr 1 0)]) (fun y13=>[some ⟨[.j 0,.j 0,.j 0,.j 0,.nils],0⟩,some ⟨[.j v8,.j v9,.j v10,.j v11,.sl 2 0 y13.length],0⟩,some ⟨fl (C8 true) y13,2⟩]) (fun y=>y17=y) gg ?_ ?_
     ·refine RW.blk ?_
      refine RW.iter (σ:=Int×(List TRef)) ey17 (fun s12=>[(0,.str x0),(2,.ptr 0 0),(5,.j v1.2.1),(9,.sl 1 0 y4.length),(14,.ptr 2 0),(15,.j s12.1)]) (fun s12=>[some ⟨[.j 0,.j 0,.j 0,.j 0,.nils],0⟩,some ⟨fl (encI true) y4,1⟩,some ⟨[.j v8,.j v9,.j v10,.j v11,.sl 3 0 s12.2.length],0⟩,some ⟨fl (C8 true) s12.2,2⟩]) (Gh.y0 [0,1,2,3]) (fun s12 B o hS19 hB19 hE19=>?_)
      unfold L3 at hS19;refine RW.seq (RW.sr 4 rfl ?_)
      refine rl.gen rfl rfl fun b hb=>?_
      cases b
      ·have h21:=A4 hS19 hb;refine rl.done (RW.cond_f rfl (RW.exit (C4 ?_)));cases h21
       exact ⟨_,(hE19 _ rfl).symm,(Gh.y0 [0,2,3])⟩
      ·have h22:=A5 hS19 hb;refine rl.done (RW.cond_t rfl (RW.skip (RW.seq (RW.blk (RW.drw (A0.op rfl rfl (A0.op rfl rfl (A0.op rfl rfl (A0.op rfl rfl ?_)))))))));obtain ⟨v14,e14,h23⟩:=A1 h22;refine A0.op rfl (M7 rfl rfl rfl rfl e14) ?_;refine A0.op rfl (Bq (o:=true) (off':=0) ekI rfl rfl e14 rfl rfl rfl) ?_;refine A0.op rfl rfl (A0.op rfl rfl (A0.op rfl rfl ?_));obtain ⟨v15,e15,h24⟩:=A1 h23;refine A0.op rfl (M7 rfl rfl rfl rfl e15) ?_;refine A0.op rfl (Bq (o:=true) (off':=0) ekI rfl rfl e15 rfl rfl rfl) ?_;refine A0.op rfl rfl ?_;refine A0.chnB rfl rfl (.skip rfl (.skip rfl (.skip rfl (.skip rfl (.skip rfl (.skip rfl (.skip rfl (.skip rfl (.skip rfl (.skip rfl (.here (.rx rfl) (.here (.rx rfl) .nil)))))))))))) ?_;obtain ⟨v16,e16,h25⟩:=A1 h24;refine A0.chn rfl (Ar rfl rfl (Y4 (l:=s12.2) (m:=[({ No:=v14,Gen:=v15 }:TRef)]) (o:=true) Z0 rfl rfl (Q9 (m:=[({ No:=v14,Gen:=v15 }:TRef)]) (o:=true) Rz rfl rfl) rfl (Rz.fst _ _) e16)) ?_;refine A0.op rfl rfl ?_;refine A0.chn rfl rfl ?_;refine A0.done (RW.reg (rl.f 3 rfl ?_));cases h25
       exact hB19 _ rfl _ _ (Gh.y0 [0,1,2,5])
     ·intro y13 hC
      subst hC;refine RW.seq (RW.sr 1 rfl ?_);obtain ⟨v18,e18,h26⟩:=A1 h20;refine rl.call rfl rfl rfl (A6.y (r':=.tup [.str v18.1,.bool v18.2]) (Hw e18) ?_);refine rl.f 5 rfl (RW.seq ?_);obtain ⟨y19,ey19,h27⟩:=A1 h26
      refine RW.cutq (σ:=Bool) (fun y19=>[(2,.ptr 0 0),(14,.ptr 1 0),(108,.bool y19)]) (fun y19=>[some ⟨[.j 0,.j 0,.j 0,.j 0,.nils],0⟩,some ⟨[.j v8,.j v9,.j v10,.j v11,.sl 2 0 y17.length],0⟩,some ⟨fl (C8 true) y17,2⟩]) (fun y=>y19=y) gg ?_ ?_
      ·refine RW.reg ?_;refine rl.run 3 rfl ?_
       cases hb:(!v18.2)
       ·have h28:=A4 ey19 hb;refine rl.run 3 rfl ?_;obtain ⟨v20,e20,h29⟩:=A1 h28;refine rl.gop rfl (Gj rfl rfl rfl Fn e20) ?_
        refine rl.gen rfl rfl fun b hb=>?_
        cases b
        ·have h30:=A4 h29 hb;refine rl.f 1 rfl ?_;cases h30
         exact ⟨_,rfl,(Gh.y0 [0,1,2])⟩
        ·have h31:=A5 h29 hb;refine rl.f 1 rfl ?_;cases h31
         exact ⟨_,rfl,(Gh.y0 [0,1,2])⟩
       ·have h32:=A5 ey19 hb;refine rl.f 6 rfl ?_;cases h32
        exact ⟨_,rfl,(Gh.y0 [0,1,2])⟩
      ·intro y hC
       subst hC
       cases hb:y19
       ·have h33:=A4 h27 hb;refine RW.cond_f rfl (RW.skip (RW.sf 3 rfl (RW.ret ?_)));cases h33
        exact RRet.y
       ·have h34:=A5 h27 hb;refine RW.cond_t rfl (RW.sf 3 rfl (RW.ret ?_));cases h34
        exact RRet.y
    ·have h35:=A5 h6 hb;refine rl.done (RW.cond_t rfl (RW.sf 3 rfl (RW.ret ?_)));cases h35
     exact RRet.y
  ·have h36:=A5 h3 hb;refine RW.cond_t rfl (RW.sf 3 rfl ?_);refine RW.kp [2,3] [(2,.ptr 0 0),(3,.bool false)] [some ⟨[.j 0,.j 0,.j 0,.j 0,.nils],0⟩] rfl rfl ?_;refine RW.ret ?_;cases h36
   exact RRet.y
 ·have h37:=A5 h2 hb;refine rl.f 3 rfl (RW.cond_t rfl (RW.sf 3 rfl ?_));refine RW.kp [2,3] [(2,.ptr 0 0),(3,.bool false)] [some ⟨[.j 0,.j 0,.j 0,.j 0,.nils],0⟩] rfl rfl ?_;refine RW.ret ?_;cases h37
  exact RRet.y
theorem Lp {x0:TDisk} {r:TCheck×Bool} (hF:V7 x0=some r):A7 Tryz.prog 63 [.agg (A3 false x0)] (.tup [.agg (B7 true r.1),.bool r.2]):=by
 refine A7.q Pk ?_;unfold V7 at hF;refine RW.sf 3 rfl (RW.sf 4 rfl (RW.seq (RW.sf 3 rfl ?_)));refine RW.gh (Gh.nil_c 2 4 2 rfl rfl) ?_;obtain ⟨y7,ey7,h2⟩:=A1 hF
 refine RW.cutq (σ:=Bool×Int×Int×Int×Int×(List TRef)) (fun y2=>[(2,.ptr 0 0),(4,.ptr 1 0),(5,.bool y2.1)]) (fun y2=>[some ⟨[.j 0,.j 0,.j 0,.j 0,.nils],0⟩,some ⟨[.j y2.2.1,.j y2.2.2.1,.j y2.2.2.2.1,.j y2.2.2.2.2.1,.sl 2 0 y2.2.2.2.2.2.length],0⟩,some ⟨fl (C8 true) y2.2.2.2.2.2,2⟩]) (fun y=>y7=y) gg ?_ ?_
 ·refine RW.blk ?_
  refine RW.iter (σ:=Bool×Int×Int×Int×Int×Int×(List TRef)) ey7 (fun s1=>[(1,.ptr 0 0),(2,.ptr 1 0),(4,.ptr 2 0),(5,.bool s1.1),(13,.sl 3 0 ([0,4]:List Int).length),(14,.j (([0,4]:List Int).length:Int)),(15,.j s1.2.1)]) (fun s1=>[some ⟨A3 false x0,0⟩,some ⟨[.j 0,.j 0,.j 0,.j 0,.nils],0⟩,some ⟨[.j s1.2.2.1,.j s1.2.2.2.1,.j s1.2.2.2.2.1,.j s1.2.2.2.2.2.1,.sl 4 0 s1.2.2.2.2.2.2.length],0⟩,some ⟨fl (encI true) ([0,4]:List Int),1⟩,some ⟨fl (C8 true) s1.2.2.2.2.2.2,2⟩]) (Gh.y0 [0,1,2,3,4]) (fun s1 B o hS1 hB1 hE1=>?_)
  unfold L4 at hS1;refine RW.sreg ?_
  refine rl.gen rfl rfl fun b hb=>?_
  cases b
  ·have h3:=A4 hS1 hb;refine rl.done (RW.seq (RW.cond_f rfl (RW.exit (C4 ?_))));cases h3
   exact ⟨_,(hE1 _ rfl).symm,(Gh.y0 [1,2,4])⟩
  ·have h4:=A5 hS1 hb;refine rl.done (RW.seq (RW.cond_t rfl (RW.skip (RW.seq (RW.blk (RW.sreg ?_))))));obtain ⟨v3,e3,h5⟩:=A1 h4;refine rl.op (M7 rfl rfl rfl rfl e3) ?_;refine rl.op (Bq (o:=true) (off':=0) ekI rfl rfl e3 rfl rfl rfl) ?_;refine rl.f 1 rfl (RW.sr 2 rfl ?_);obtain ⟨v4,e4,h6⟩:=A1 h5;refine rl.call rfl rfl rfl (A6.y (r':=.tup [.str v4.1,.bool v4.2]) (Gq e4) ?_);refine rl.f 5 rfl ?_;refine RW.kp [1,2,4,5,8,13,14,15] [(1,.ptr 0 0),(2,.ptr 1 0),(4,.ptr 2 0),(5,.bool s1.1),(8,.str v4.1),(13,.sl 3 0 ([0,4]:List Int).length),(14,.j (([0,4]:List Int).length:Int)),(15,.j s1.2.1)] [some ⟨A3 false x0,0⟩,some ⟨[.j 0,.j 0,.j 0,.j 0,.nils],0⟩,some ⟨[.j s1.2.2.1,.j s1.2.2.2.1,.j s1.2.2.2.2.1,.j s1.2.2.2.2.2.1,.sl 4 0 s1.2.2.2.2.2.2.length],0⟩,some ⟨fl (encI true) ([0,4]:List Int),1⟩,some ⟨fl (C8 true) s1.2.2.2.2.2.2,2⟩] rfl rfl ?_;refine RW.sr 1 rfl ?_;obtain ⟨v5,e5,h7⟩:=A1 h6;refine rl.call rfl rfl rfl (A6.z (r':=.tup [.agg (A0r 5 v5.1),.bool v5.2]) (H':=[some ⟨A3 false x0,0⟩,some ⟨[.j 0,.j 0,.j 0,.j 0,.nils],0⟩,some ⟨[.j s1.2.2.1,.j s1.2.2.2.1,.j s1.2.2.2.2.1,.j s1.2.2.2.2.2.1,.sl 4 0 s1.2.2.2.2.2.2.length],0⟩,some ⟨fl (encI true) ([0,4]:List Int),1⟩,some ⟨fl (C8 true) s1.2.2.2.2.2.2,2⟩,some ⟨fl (C8 true) v5.1.Refs,2⟩]) (Qc e5) ?_);refine rl.f 6 rfl (RW.seq ?_);obtain ⟨y6,ey6,h8⟩:=A1 h7
   refine RW.cutq (σ:=Bool) (fun y6=>[(1,.ptr 0 0),(2,.ptr 1 0),(4,.ptr 2 0),(5,.bool s1.1),(10,.ptr 3 0),(13,.sl 4 0 ([0,4]:List Int).length),(14,.j (([0,4]:List Int).length:Int)),(15,.j s1.2.1),(41,.bool y6)]) (fun y6=>[some ⟨A3 false x0,0⟩,some ⟨[.j 0,.j 0,.j 0,.j 0,.nils],0⟩,some ⟨[.j s1.2.2.1,.j s1.2.2.2.1,.j s1.2.2.2.2.1,.j s1.2.2.2.2.2.1,.sl 5 0 s1.2.2.2.2.2.2.length],0⟩,some ⟨A0r 6 v5.1,0⟩,some ⟨fl (encI true) ([0,4]:List Int),1⟩,some ⟨fl (C8 true) s1.2.2.2.2.2.2,2⟩,some ⟨fl (C8 true) v5.1.Refs,2⟩]) (fun y=>y6=y) gg ?_ ?_
   ·refine RW.reg ?_;refine rl.run 2 rfl ?_
    cases hb:v5.2
    ·have h9:=A4 ey6 hb;refine rl.f 10 rfl ?_;cases h9
     exact ⟨_,rfl,(Gh.y0 [0,1,2,6,3,4,5])⟩
    ·have h10:=A5 ey6 hb;refine rl.run 3 rfl ?_
     cases hb:(!s1.1)
     ·have h11:=A4 h10 hb;refine rl.run 4 rfl ?_
      refine rl.gen rfl rfl fun b hb=>?_
      cases b
      ·have h12:=A4 h11 hb;refine rl.f 2 rfl ?_;cases h12
       exact ⟨_,rfl,(Gh.y0 [0,1,2,6,3,4,5])⟩
      ·have h13:=A5 h11 hb;refine rl.f 2 rfl ?_;cases h13
       exact ⟨_,rfl,(Gh.y0 [0,1,2,6,3,4,5])⟩
     ·have h14:=A5 h10 hb;refine rl.f 7 rfl ?_;cases h14
      exact ⟨_,rfl,(Gh.y0 [0,1,2,6,3,4,5])⟩
   ·intro y hC
    subst hC
    cases hb:y6
    ·have h15:=A4 h8 hb;refine RW.cond_f rfl (RW.skip (RW.reg (rl.f 2 rfl ?_)));cases h15
     exact hB1 _ rfl _ _ (Gh.y0 [0,1,2,4,5])
    ·have h16:=A5 h8 hb;refine RW.cond_t rfl (RW.reg (rl.f 3 rfl (RW.reg (rl.f 2 rfl ?_))));cases h16
     exact hB1 _ rfl _ _ (Gh.y0 [0,1,2,4,6])
 ·intro y2 hC
  subst hC;refine RW.sf 4 rfl (RW.ret ?_);cases h2
  exact RRet.y
theorem Js {x0:List (List UInt8)} {r:List (List UInt8)} (hF:Bp x0=some r):A7 Tryz.prog 127 [L_S x0] (.lst true 1 (fl (encS true) r) r.length):=A0p fkS (FnOk.w Lb) rfl hF
theorem Kn {x0:List TWrite} {r:List TWrite} (hF:Cq x0=some r):A7 Tryz.prog 128 [Jk x0] (.lst true 2 (fl (A2 true) r) r.length):=A0p Fg (FnOk.w Ly) rfl hF
theorem K3 {x0:TDisk} {r:TDisk} (hF:F5 x0=some r):A7 Tryz.prog 64 [.agg (A3 false x0)] (.agg (A3 true r)):=by
 refine A7.q Ug ?_;unfold F5 at hF;refine RW.sf 2 rfl (RW.sdrw (A0.op rfl rfl (A0.op rfl rfl ?_)));obtain ⟨v1,e1,h1⟩:=A1 hF;refine A0.ccall rfl rfl rfl (A6.z (r':=.sl 2 0 v1.length) (H':=[some ⟨A3 false x0,0⟩,some ⟨[.nils,.nils],0⟩,some ⟨fl (encS true) v1,1⟩]) (Js e1) ?_);refine A0.opA rfl rfl (.here (.rx rfl) .nil) ?_;refine A0.opA rfl rfl (.here (.rx rfl) .nil) ?_;obtain ⟨v2,e2,h2⟩:=A1 h1;refine A0.ccall rfl rfl rfl (A6.z (r':=.sl 3 0 v2.length) (H':=[some ⟨A3 false x0,0⟩,some ⟨[.nils,.nils],0⟩,some ⟨fl (encS true) v1,1⟩,some ⟨fl (A2 true) v2,2⟩]) (Kn e2) ?_);refine A0.op rfl rfl ?_;refine A0.chn rfl rfl ?_;refine A0.done (RW.ret ?_);cases h2
 exact RRet.y
theorem La {x0:TSeg} {x1:TSeg} {r:Int} (hF:Y8 x0 x1=some r):A7 Tryz.prog 67 [.agg (A8 false x0),.agg (A8 false x1)] (.j r):=by
 refine A7.q Mw ?_;unfold Y8 at hF;refine RW.sf 3 rfl (RW.sf 6 rfl (RW.ret ?_));cases hF
 exact RRet.y
theorem L7 {x0:List TSeg} {x1:Int} {x2:Int} {r:Unit} (hF:C6 x0 x1 x2=some r):A7 Tryz.prog 167 [Q1 x0,.j x1,.j x2,.fn 67 []] (.tup []):=by
 refine A7.q Er ?_;unfold C6 at hF;refine RW.sf 3 rfl ?_;obtain ⟨y13,ey13,h2⟩:=A1 hF
 refine RW.cutq (σ:=Unit) (fun y2=>[]) (fun y2=>[]) (fun y=>y13=y) (by first | exact fun _ _ _ _ g h=>RW.gh g h | exact fun _ _ _ _ _ _=>RRet.mkn rfl (OutT.tup .nil) (by simp)) ?_ ?_
 ·refine RW.blk ?_
  refine RW.iter (σ:=Int) ey13 (fun s1=>[(0,Q1 x0),(1,.j x1),(2,.j x2),(3,.fn 67 []),(8,.j s1)]) (fun s1=>[]) (Gh.y0 []) (fun s1 B o hS1 hB1 hE1=>?_)
  unfold D9 at hS1;refine RW.seq (RW.sr 2 rfl ?_)
  refine rl.gen rfl rfl fun b hb=>?_
  cases b
  ·have h3:=A4 hS1 hb;refine rl.done (RW.cond_f rfl (RW.exit (C4 ?_)));cases h3
   exact ⟨_,(hE1 _ rfl).symm,(Gh.y0 [])⟩
  ·have h4:=A5 hS1 hb;refine rl.done (RW.cond_t rfl (RW.skip (RW.seq (RW.blk (RW.sf 2 rfl ?_)))));obtain ⟨y12,ey12,h6⟩:=A1 h4
   refine RW.cutq (σ:=Unit) (fun y4=>[(0,Q1 x0),(1,.j x1),(2,.j x2),(3,.fn 67 []),(8,.j s1)]) (fun y4=>[]) (fun y=>y12=y) (by first | exact fun _ _ _ _ g h=>RW.gh g h | exact fun _ _ _ _ _ _=>RRet.mkn rfl (OutT.tup .nil) (by simp)) ?_ ?_
   ·refine RW.blk ?_
    refine RW.iter (σ:=Int) ey12 (fun s3=>[(0,Q1 x0),(1,.j x1),(2,.j x2),(3,.fn 67 []),(8,.j s1),(9,.j s3)]) (fun s3=>[]) (Gh.y0 []) (fun s3 B o hS5 hB5 hE5=>?_)
    unfold E0 at hS5;refine RW.seq (RW.seq ?_);obtain ⟨y5,ey5,h7⟩:=A1 hS5
    refine RW.cutq (σ:=Bool) (fun y5=>[(0,Q1 x0),(1,.j x1),(2,.j x2),(3,.fn 67 []),(8,.j s1),(9,.j s3),(34,.bool y5)]) (fun y5=>[]) (fun y=>y5=y) (by first | exact fun _ _ _ _ g h=>RW.gh g h | exact fun _ _ _ _ _ _=>RRet.mkn rfl (OutT.tup .nil) (by simp)) ?_ ?_
    ·refine RW.drw ?_;refine A0.op rfl rfl (A0.op rfl rfl ?_)
     refine A0.gen rfl rfl fun b hb=>?_
     cases b
     ·have h8:=A4 ey5 hb;refine A0.op rfl rfl (A0.off rfl (A0.off rfl (A0.off rfl (A0.off rfl (A0.off rfl (A0.off rfl (A0.off rfl (A0.off rfl (A0.off rfl (A0.off rfl (A0.off rfl ?_)))))))))));refine A0.off rfl (A0.op rfl rfl (A0.done ?_));cases h8
      exact ⟨_,rfl,(Gh.y0 [])⟩
     ·have h9:=A5 ey5 hb;refine A0.op rfl rfl (A0.op rfl rfl (A0.op rfl rfl (A0.op rfl rfl ?_)));obtain ⟨v6,e6,h10⟩:=A1 h9;refine A0.op rfl (C0 (enc:=A8) (o:=false) rfl rfl rfl e6) ?_;refine A0.op rfl (K2 (off':=0) (vs:=(A8 false v6)) B3 rfl e6 rfl rfl rfl) ?_;refine A0.op rfl rfl (A0.op rfl rfl (A0.op rfl rfl ?_));obtain ⟨v7,e7,h11⟩:=A1 h10;refine A0.op rfl (C0 (enc:=A8) (o:=false) rfl rfl rfl e7) ?_;refine A0.op rfl (K2 (off':=0) (vs:=(A8 false v7)) B3 rfl e7 rfl rfl rfl) ?_;obtain ⟨v8,e8,h12⟩:=A1 h11;refine A0.call rfl rfl rfl (A6.y (r':=.j v8) (La e8) ⟨rfl,?_⟩)
      refine A0.gen rfl rfl fun b hb=>?_
      cases b
      ·have h13:=A4 h12 hb;refine A0.op rfl rfl (A0.done ?_);cases h13
       exact ⟨_,rfl,(Gh.y0 [])⟩
      ·have h14:=A5 h12 hb;refine A0.op rfl rfl (A0.done ?_);cases h14
       exact ⟨_,rfl,(Gh.y0 [])⟩
    ·intro y hC
     subst hC
     cases hb:y5
     ·have h15:=A4 h7 hb;refine RW.cond_f rfl (RW.exit (C4 ?_));cases h15
      exact ⟨_,(hE5 _ rfl).symm,(Gh.y0 [])⟩
     ·have h16:=A5 h7 hb;cases h16
   ·intro y4 hC
    subst hC;refine RW.reg (rl.f 3 rfl ?_);cases h6
    exact hB1 _ rfl _ _ (Gh.y0 [])
 ·intro y2 hC
  subst hC;cases h2
  exact RRet.mkn rfl (OutT.tup .nil) (by first | decide | simp)
theorem Bh {x0:List TSeg} {x1:Int} {r:Unit} (hF:G8 x0 x1=some r):A7 Tryz.prog 131 [Q1 x0,.j x1,.fn 67 []] (.tup []):=by
 refine A7.q Hr ?_;unfold G8 at hF;refine RW.sf 1 rfl (RW.sf 3 rfl (RW.seq ?_));obtain ⟨y4,ey4,h2⟩:=A1 hF
 refine RW.cutq (σ:=Int) (fun y2=>[(0,Q1 x0),(1,.j x1),(2,.fn 67 []),(6,.j 20),(7,.j y2)]) (fun y2=>[]) (fun y=>y4=y) (by first | exact fun _ _ _ _ g h=>RW.gh g h | exact fun _ _ _ _ _ _=>RRet.mkn rfl (OutT.tup .nil) (by simp)) ?_ ?_
 ·refine RW.blk ?_
  refine RW.iter (σ:=Int×Int) ey4 (fun s1=>[(0,Q1 x0),(1,.j x1),(2,.fn 67 []),(6,.j 20),(7,.j s1.1),(8,.j s1.2)]) (fun s1=>[]) (Gh.y0 []) (fun s1 B o hS1 hB1 hE1=>?_)
  unfold F7 at hS1;refine RW.seq (RW.sr 2 rfl ?_)
  refine rl.gen rfl rfl fun b hb=>?_
  cases b
  ·have h3:=A4 hS1 hb;refine rl.done (RW.cond_f rfl (RW.exit (C4 ?_)));cases h3
   exact ⟨_,(hE1 _ rfl).symm,(Gh.y0 [])⟩
  ·have h4:=A5 hS1 hb;refine rl.done (RW.cond_t rfl (RW.skip (RW.blk (RW.sr 4 rfl ?_))));obtain ⟨v3,e3,h5⟩:=A1 h4;refine rl.call rfl rfl rfl (A6.y (r':=.tup []) (L7 e3) ?_);refine rl.done (RW.sf 2 rfl (RW.reg (rl.f 4 rfl ?_)));cases h5
   exact hB1 _ rfl _ _ (Gh.y0 [])
 ·intro y2 hC
  subst hC;refine RW.sr 4 rfl ?_;obtain ⟨v5,e5,h6⟩:=A1 h2;refine rl.call rfl rfl rfl (A6.y (r':=.tup []) (L7 e5) ?_);refine rl.done ?_;obtain ⟨y11,ey11,h8⟩:=A1 h6
  refine RW.cutq (σ:=Unit) (fun y7=>[]) (fun y7=>[]) (fun y=>y11=y) (by first | exact fun _ _ _ _ g h=>RW.gh g h | exact fun _ _ _ _ _ _=>RRet.mkn rfl (OutT.tup .nil) (by simp)) ?_ ?_
  ·refine RW.blk ?_
   refine RW.iter (σ:=Int) ey11 (fun s6=>[(0,Q1 x0),(1,.j x1),(2,.fn 67 []),(6,.j s6)]) (fun s6=>[]) (Gh.y0 []) (fun s6 B o hS7 hB7 hE7=>?_)
   unfold F6 at hS7;refine RW.seq (RW.sr 2 rfl ?_)
   refine rl.gen rfl rfl fun b hb=>?_
   cases b
   ·have h9:=A4 hS7 hb;refine rl.done (RW.cond_f rfl (RW.exit (C4 ?_)));cases h9
    exact ⟨_,(hE7 _ rfl).symm,(Gh.y0 [])⟩
   ·have h10:=A5 hS7 hb;refine rl.done (RW.cond_t rfl (RW.skip (RW.blk (RW.sf 4 rfl (RW.seq ?_)))));obtain ⟨y10,ey10,h12⟩:=A1 h10
    refine RW.cutq (σ:=Int) (fun y9=>[(0,Q1 x0),(1,.j x1),(2,.fn 67 []),(6,.j s6),(7,.j y9)]) (fun y9=>[]) (fun y=>y10=y) (by first | exact fun _ _ _ _ g h=>RW.gh g h | exact fun _ _ _ _ _ _=>RRet.mkn rfl (OutT.tup .nil) (by simp)) ?_ ?_
    ·refine RW.blk ?_
     refine RW.iter (σ:=Int×Int) ey10 (fun s8=>[(0,Q1 x0),(1,.j x1),(2,.fn 67 []),(6,.j s6),(7,.j s8.1),(8,.j s8.2)]) (fun s8=>[]) (Gh.y0 []) (fun s8 B o hS11 hB11 hE11=>?_)
     unfold P9 at hS11;refine RW.seq (RW.sr 2 rfl ?_)
     refine rl.gen rfl rfl fun b hb=>?_
     cases b
     ·have h13:=A4 hS11 hb;refine rl.done (RW.cond_f rfl (RW.exit (C4 ?_)));cases h13
      exact ⟨_,(hE11 _ rfl).symm,(Gh.y0 [])⟩
     ·have h14:=A5 hS11 hb;cases h14
    ·intro y9 hC
     subst hC;refine RW.seq (RW.sf 4 rfl (RW.sr 2 rfl ?_))
     refine rl.gen rfl rfl fun b hb=>?_
     cases b
     ·have h15:=A4 h12 hb;refine rl.done (RW.cond_f rfl (RW.skip (RW.reg (rl.f 3 rfl ?_))));cases h15
      exact hB7 _ rfl _ _ (Gh.y0 [])
     ·have h16:=A5 h12 hb;cases h16
  ·intro y7 hC
   subst hC;cases h8
   exact RRet.mkn rfl (OutT.tup .nil) (by first | decide | simp)
theorem Aw {x0:List TSeg} {r:Unit} (hF:D1 x0=some r):A7 Tryz.prog 66 [Q1 x0,.fn 67 []] (.tup []):=by
 refine A7.q Gu ?_;unfold D1 at hF;refine RW.reg (rl.run 4 rfl ?_);obtain ⟨v1,e1,h1⟩:=A1 hF;refine rl.call rfl rfl rfl (A6.y (r':=.tup []) (Bh e1) ?_);refine rl.done ?_;cases h1
 exact RRet.mkn rfl (OutT.tup .nil) (by first | decide | simp)
theorem Gk {x0:TDisk} {r:TLog×Bool} (hF:R7 x0=some r):A7 Tryz.prog 18 [.agg (A3 false x0)] (.tup [.agg (B5 true r.1),.bool r.2]):=by
 refine A7.q Ro ?_;unfold R7 at hF;refine RW.sf 3 rfl (RW.sr 1 rfl ?_);obtain ⟨v1,e1,h1⟩:=A1 hF;refine rl.call rfl rfl rfl (A6.y (r':=.tup [.agg (B7 false v1.1),.bool v1.2]) (Lp e1) ?_);refine rl.f 6 rfl (RW.seq (RW.seq ?_));obtain ⟨y2,ey2,h2⟩:=A1 h1
 refine RW.cutq (σ:=Bool) (fun y2=>[(1,.ptr 0 0),(2,.ptr 1 0),(4,.ptr 2 0),(36,.bool y2)]) (fun y2=>[some ⟨A3 false x0,0⟩,some ⟨[.nils,.nils,.j 0,.nils,.j 0,.j 0,.j 0,.j 0],0⟩,some ⟨B7 false v1.1,0⟩]) (fun y=>y2=y) gg ?_ ?_
 ·refine RW.reg ?_;refine rl.run 1 rfl ?_;obtain ⟨v3,e3,h3⟩:=A1 ey2;refine rl.call rfl rfl rfl (A6.y (r':=.bool v3) (X2 e3) ?_)
  cases hb:v3
  ·have h4:=A4 h3 hb;refine rl.f 16 rfl ?_;cases h4
   exact ⟨_,rfl,(Gh.y0 [0,1,2])⟩
  ·have h5:=A5 h3 hb;refine rl.run 5 rfl ?_
   refine rl.gen rfl rfl fun b hb=>?_
   cases b
   ·have h6:=A4 h5 hb;refine rl.run 3 rfl ?_;obtain ⟨v4,e4,h7⟩:=A1 h6;refine rl.call rfl rfl rfl (A6.y (r':=.j v4) (Gb e4) ?_)
    refine rl.gen rfl rfl fun b hb=>?_
    cases b
    ·have h8:=A4 h7 hb;refine rl.f 5 rfl ?_;cases h8
     exact ⟨_,rfl,(Gh.y0 [0,1,2])⟩
    ·have h9:=A5 h7 hb;refine rl.f 5 rfl ?_;cases h9
     exact ⟨_,rfl,(Gh.y0 [0,1,2])⟩
   ·have h10:=A5 h5 hb;refine rl.f 10 rfl ?_;cases h10
    exact ⟨_,rfl,(Gh.y0 [0,1,2])⟩
 ·intro y hC
  subst hC
  cases hb:y2
  ·have h11:=A4 h2 hb;refine RW.cond_f rfl (RW.skip ?_);refine RW.sdrwF [⟨[.nils,.nils,.j 0,.nils,.j 0,.j 0,.j 0,.j 0],0⟩] ?_;refine A0.op rfl rfl ?_;obtain ⟨v5,e5,h12⟩:=A1 h11;refine A0.ccall rfl rfl rfl (A6.z (r':=.agg (C2 4 5 v5)) (H':=[some ⟨A3 false x0,0⟩,some ⟨[.nils,.nils,.j 0,.nils,.j 0,.j 0,.j 0,.j 0],0⟩,some ⟨B7 false v1.1,0⟩,some ⟨[.nils,.nils,.j 0,.nils,.j 0,.j 0,.j 0,.j 0],0⟩,some ⟨fl (encS true) v5.Sectors,1⟩,some ⟨fl (A2 true) v5.Cache,2⟩]) (K3 e5) ?_);refine A0.opA rfl rfl (.here (.rx rfl) .nil) ?_;obtain ⟨v6,e6,h13⟩:=A1 h12;refine A0.call rfl rfl rfl (A6.y (r':=.j v6) (Gb e6) ⟨rfl,?_⟩);refine A0.opA rfl rfl (.here (.rx rfl) .nil) ?_;refine A0.opA rfl rfl (.here (.rx rfl) .nil) ?_;refine A0.opA rfl rfl (.here (.rx rfl) .nil) ?_;refine A0.opA rfl rfl (.here (.rx rfl) .nil) ?_;refine A0.opA rfl rfl (.here (.rx rfl) .nil) ?_;refine A0.opA rfl rfl (.here (.rx rfl) .nil) ?_;refine A0.opA rfl rfl (.here (.rx rfl) .nil) ?_;refine A0.opA rfl rfl (.here (.rx rfl) .nil) ?_;refine A0.op rfl rfl ?_;refine A0.flt rfl (.cons rfl .nil) ?_;refine A0.chn rfl rfl ?_;refine A0.done ?_;refine RW.kp [1,2,4,6] [(1,.ptr 0 0),(2,.ptr 1 0),(4,.ptr 2 0),(6,.ptr 3 0)] [some ⟨A3 false x0,0⟩,some ⟨[.nils,.nils,.j 0,.nils,.j 0,.j 0,.j 0,.j 0],0⟩,some ⟨B7 false v1.1,0⟩,some ⟨[.sl 4 0 v5.Sectors.length,.sl 5 0 v5.Cache.length,.j v6,.nils,.j v1.1.NextGen,.j v1.1.NextSeq,.j v1.1.Stamp,.j v1.1.NextValid],0⟩,some ⟨fl (encS true) v5.Sectors,1⟩,some ⟨fl (A2 true) v5.Cache,2⟩] rfl rfl ?_;refine RW.seq (RW.sf 4 rfl ?_);refine RW.gh (Gh.nil_c 3 3 4 rfl rfl) ?_;obtain ⟨y13,ey13,h15⟩:=A1 h13
   refine RW.cutq (σ:=(List TSeg)) (fun y8=>[(1,.ptr 0 0),(2,.ptr 1 0),(4,.ptr 2 0),(6,.ptr 3 0)]) (fun y8=>[some ⟨A3 false x0,0⟩,some ⟨[.nils,.nils,.j 0,.nils,.j 0,.j 0,.j 0,.j 0],0⟩,some ⟨B7 false v1.1,0⟩,some ⟨[.sl 4 0 v5.Sectors.length,.sl 5 0 v5.Cache.length,.j v6,.sl 6 0 y8.length,.j v1.1.NextGen,.j v1.1.NextSeq,.j v1.1.Stamp,.j v1.1.NextValid],0⟩,some ⟨fl (encS true) v5.Sectors,1⟩,some ⟨fl (A2 true) v5.Cache,2⟩,some ⟨fl (A8 true) y8,4⟩]) (fun y=>y13=y) gg ?_ ?_
   ·refine RW.blk ?_
    refine RW.iter (σ:=Int×(List TSeg)) ey13 (fun s7=>[(1,.ptr 0 0),(2,.ptr 1 0),(4,.ptr 2 0),(6,.ptr 3 0),(52,Qh v1.1.Refs),(53,.j (v1.1.Refs.length:Int)),(54,.j s7.1)]) (fun s7=>[some ⟨A3 false x0,0⟩,some ⟨[.nils,.nils,.j 0,.nils,.j 0,.j 0,.j 0,.j 0],0⟩,some ⟨B7 false v1.1,0⟩,some ⟨[.sl 4 0 v5.Sectors.length,.sl 5 0 v5.Cache.length,.j v6,.sl 6 0 s7.2.length,.j v1.1.NextGen,.j v1.1.NextSeq,.j v1.1.Stamp,.j v1.1.NextValid],0⟩,some ⟨fl (encS true) v5.Sectors,1⟩,some ⟨fl (A2 true) v5.Cache,2⟩,some ⟨fl (A8 true) s7.2,4⟩]) (Gh.y0 [0,1,2,3,4,5,6]) (fun s7 B o hS14 hB14 hE14=>?_)
    unfold P5 at hS14;refine RW.sreg ?_
    refine rl.gen rfl rfl fun b hb=>?_
    cases b
    ·have h16:=A4 hS14 hb;refine rl.done (RW.seq (RW.cond_f rfl (RW.exit (C4 ?_))));cases h16
     exact ⟨_,(hE14 _ rfl).symm,(Gh.y0 [0,1,2,3,4,5,6])⟩
    ·have h17:=A5 hS14 hb;refine rl.done (RW.seq (RW.cond_t rfl (RW.skip (RW.seq (RW.blk (RW.sreg ?_))))));obtain ⟨v9,e9,h18⟩:=A1 h17;refine rl.op (C0 (enc:=C8) (o:=false) rfl rfl rfl e9) ?_;refine rl.op (K2 (off':=0) (vs:=(C8 false v9)) Z0 rfl e9 rfl rfl rfl) ?_;refine rl.f 2 rfl (RW.sdrw (A0.op rfl rfl (A0.op rfl rfl (A0.op rfl rfl ?_))));obtain ⟨v10,e10,h19⟩:=A1 h18;refine A0.call rfl rfl rfl (A6.y (r':=.j v10) (Bi e10) ⟨rfl,?_⟩);refine A0.op rfl rfl (A0.op rfl rfl ?_)
     refine A0.gen rfl rfl fun b hb=>?_
     cases b
     ·have h20:=A4 h19 hb;refine A0.done (RW.cond_f rfl (RW.skip (RW.reg (rl.f 2 rfl ?_))));cases h20
      exact hB14 _ rfl _ _ (Gh.y0 [0,1,2,3,4,5,6])
     ·have h21:=A5 h19 hb;refine A0.done (RW.cond_t rfl (RW.drw (A0.op rfl rfl (A0.op rfl rfl (A0.op rfl rfl (A0.op rfl rfl (A0.op rfl rfl ?_)))))));obtain ⟨v11,e11,h22⟩:=A1 h21;refine A0.ccallB rfl rfl rfl (A6.z (r':=.agg (J3 8 v11)) (H':=[some ⟨A3 false x0,0⟩,some ⟨[.nils,.nils,.j 0,.nils,.j 0,.j 0,.j 0,.j 0],0⟩,some ⟨B7 false v1.1,0⟩,some ⟨[.sl 4 0 v5.Sectors.length,.sl 5 0 v5.Cache.length,.j v6,.sl 6 0 s7.2.length,.j v1.1.NextGen,.j v1.1.NextSeq,.j v1.1.Stamp,.j v1.1.NextValid],0⟩,some ⟨fl (encS true) v5.Sectors,1⟩,some ⟨fl (A2 true) v5.Cache,2⟩,some ⟨fl (A8 true) s7.2,4⟩,some ⟨C8 false v9,0⟩,some ⟨fl (A9 true) v11.Items,9⟩]) (Eu e11) ⟨(.skip rfl (.skip rfl (.skip rfl (.here (.rx rfl) (.here (.rx rfl) .nil))))),?_⟩);refine A0.chnB rfl rfl (.skip rfl (.skip rfl (.skip rfl (.here (.rx rfl) (.here (.rx rfl) .nil))))) ?_;obtain ⟨v12,e12,h23⟩:=A1 h22;refine A0.chn rfl (Ar rfl rfl (Th B3 rfl rfl (A0v rfl rfl rfl) e12)) ?_;refine A0.op rfl rfl ?_;refine A0.chn rfl rfl ?_;refine A0.done ?_
      refine RW.gh (Gh.absorb_rawq (b:=10) (j:=3) (m:=8) rfl rfl rfl (by decide) (by decide) rfl (C7.flen true _) (C7.fown _)) ?_
      refine RW.gh (Gh.blk (b:=10) rfl (Xd (enc:=A8) e12 rfl)) ?_;refine RW.reg (rl.f 2 rfl ?_);cases h23
      exact hB14 _ rfl _ _ (Gh.y0 [0,1,2,3,4,5,10])
   ·intro y8 hC
    subst hC;refine RW.seq (RW.sf 3 rfl ?_);obtain ⟨y19,ey19,h25⟩:=A1 h15
    refine RW.cutq (σ:=(List TSeg)) (fun y15=>[(2,.ptr 0 0),(6,.ptr 1 0)]) (fun y15=>[some ⟨[.nils,.nils,.j 0,.nils,.j 0,.j 0,.j 0,.j 0],0⟩,some ⟨[.sl 2 0 v5.Sectors.length,.sl 3 0 v5.Cache.length,.j v6,.sl 4 0 y15.length,.j v1.1.NextGen,.j v1.1.NextSeq,.j v1.1.Stamp,.j v1.1.NextValid],0⟩,some ⟨fl (encS true) v5.Sectors,1⟩,some ⟨fl (A2 true) v5.Cache,2⟩,some ⟨fl (A8 true) y15,4⟩]) (fun y=>y19=y) gg ?_ ?_
    ·refine RW.blk ?_
     refine RW.iter (σ:=Int×(List TSeg)) ey19 (fun s14=>[(1,.ptr 0 0),(2,.ptr 1 0),(4,.ptr 2 0),(6,.ptr 3 0),(76,.j v6),(77,.j s14.1)]) (fun s14=>[some ⟨A3 false x0,0⟩,some ⟨[.nils,.nils,.j 0,.nils,.j 0,.j 0,.j 0,.j 0],0⟩,some ⟨B7 false v1.1,0⟩,some ⟨[.sl 4 0 v5.Sectors.length,.sl 5 0 v5.Cache.length,.j v6,.sl 6 0 s14.2.length,.j v1.1.NextGen,.j v1.1.NextSeq,.j v1.1.Stamp,.j v1.1.NextValid],0⟩,some ⟨fl (encS true) v5.Sectors,1⟩,some ⟨fl (A2 true) v5.Cache,2⟩,some ⟨fl (A8 true) s14.2,4⟩]) (Gh.y0 [0,1,2,3,4,5,6]) (fun s14 B o hS24 hB24 hE24=>?_)
     unfold P7 at hS24;refine RW.sreg ?_
     refine rl.gen rfl rfl fun b hb=>?_
     cases b
     ·have h26:=A4 hS24 hb;refine rl.done (RW.seq (RW.cond_f rfl (RW.exit (C4 ?_))));cases h26
      exact ⟨_,(hE24 _ rfl).symm,(Gh.y0 [1,3,4,5,6])⟩
     ·have h27:=A5 hS24 hb;refine rl.done (RW.seq (RW.cond_t rfl (RW.skip (RW.seq (RW.blk (RW.sf 2 rfl (RW.sdrw (A0.op rfl rfl (A0.op rfl rfl ?_)))))))));obtain ⟨v16,e16,h28⟩:=A1 h27;refine A0.call rfl rfl rfl (A6.y (r':=.j v16) (Bi e16) ⟨rfl,?_⟩);refine A0.op rfl rfl (A0.op rfl rfl ?_)
      refine A0.gen rfl rfl fun b hb=>?_
      cases b
      ·have h29:=A4 h28 hb;refine A0.done (RW.cond_f rfl (RW.skip (RW.reg (rl.f 2 rfl ?_))));cases h29
       exact hB24 _ rfl _ _ (Gh.y0 [0,1,2,3,4,5,6])
      ·have h30:=A5 h28 hb;refine A0.done (RW.cond_t rfl (RW.drw (A0.op rfl rfl (A0.op rfl rfl (A0.op rfl rfl (A0.op rfl rfl ?_))))));obtain ⟨v17,e17,h31⟩:=A1 h30;refine A0.ccallB rfl rfl rfl (A6.z (r':=.agg (J3 7 v17)) (H':=[some ⟨A3 false x0,0⟩,some ⟨[.nils,.nils,.j 0,.nils,.j 0,.j 0,.j 0,.j 0],0⟩,some ⟨B7 false v1.1,0⟩,some ⟨[.sl 4 0 v5.Sectors.length,.sl 5 0 v5.Cache.length,.j v6,.sl 6 0 s14.2.length,.j v1.1.NextGen,.j v1.1.NextSeq,.j v1.1.Stamp,.j v1.1.NextValid],0⟩,some ⟨fl (encS true) v5.Sectors,1⟩,some ⟨fl (A2 true) v5.Cache,2⟩,some ⟨fl (A8 true) s14.2,4⟩,some ⟨fl (A9 true) v17.Items,9⟩]) (Eu e17) ⟨(.skip rfl (.skip rfl (.here (.rx rfl) (.here (.rx rfl) .nil)))),?_⟩);refine A0.chnB rfl rfl (.skip rfl (.skip rfl (.here (.rx rfl) (.here (.rx rfl) .nil)))) ?_;obtain ⟨v18,e18,h32⟩:=A1 h31;refine A0.chn rfl (Ar rfl rfl (Th B3 rfl rfl (A0v rfl rfl rfl) e18)) ?_;refine A0.op rfl rfl ?_;refine A0.chn rfl rfl ?_;refine A0.done ?_
       refine RW.gh (Gh.absorb_rawq (b:=9) (j:=3) (m:=7) rfl rfl rfl (by decide) (by decide) rfl (C7.flen true _) (C7.fown _)) ?_
       refine RW.gh (Gh.blk (b:=9) rfl (Xd (enc:=A8) e18 rfl)) ?_;refine RW.reg (rl.f 2 rfl ?_);cases h32
       exact hB24 _ rfl _ _ (Gh.y0 [0,1,2,3,4,5,9])
    ·intro y15 hC
     subst hC;refine RW.sr 2 rfl ?_;obtain ⟨v20,e20,h33⟩:=A1 h25;refine rl.call rfl rfl rfl (A6.y (r':=.tup []) (Aw e20) ?_);refine rl.done (RW.seq (RW.sf 4 rfl ?_));obtain ⟨y28,ey28,h35⟩:=A1 h33
     refine RW.cutq (σ:=Int×Int×Int) (fun y22=>[(2,.ptr 0 0),(6,.ptr 1 0)]) (fun y22=>[some ⟨[.nils,.nils,.j 0,.nils,.j 0,.j 0,.j 0,.j 0],0⟩,some ⟨[.sl 2 0 v5.Sectors.length,.sl 3 0 v5.Cache.length,.j v6,.sl 4 0 y19.length,.j y22.1,.j y22.2.1,.j v1.1.Stamp,.j y22.2.2],0⟩,some ⟨fl (encS true) v5.Sectors,1⟩,some ⟨fl (A2 true) v5.Cache,2⟩,some ⟨fl (A8 true) y19,4⟩]) (fun y=>y28=y) gg ?_ ?_
     ·refine RW.blk ?_
      refine RW.iter (σ:=Int×Int×Int×Int) ey28 (fun s21=>[(2,.ptr 0 0),(6,.ptr 1 0),(99,.sl 2 0 y19.length),(100,.j (y19.length:Int)),(101,.j s21.1)]) (fun s21=>[some ⟨[.nils,.nils,.j 0,.nils,.j 0,.j 0,.j 0,.j 0],0⟩,some ⟨[.sl 3 0 v5.Sectors.length,.sl 4 0 v5.Cache.length,.j v6,.sl 2 0 y19.length,.j s21.2.1,.j s21.2.2.1,.j v1.1.Stamp,.j s21.2.2.2],0⟩,some ⟨fl (A8 true) y19,4⟩,some ⟨fl (encS true) v5.Sectors,1⟩,some ⟨fl (A2 true) v5.Cache,2⟩]) (Gh.y0 [0,1,4,2,3]) (fun s21 B o hS34 hB34 hE34=>?_)
      unfold U1 at hS34;refine RW.sreg ?_
      refine rl.gen rfl rfl fun b hb=>?_
      cases b
      ·have h36:=A4 hS34 hb;refine rl.done (RW.seq (RW.cond_f rfl (RW.exit (C4 ?_))));cases h36
       exact ⟨_,(hE34 _ rfl).symm,(Gh.y0 [0,1,3,4,2])⟩
      ·have h37:=A5 hS34 hb;refine rl.done (RW.seq (RW.cond_t rfl (RW.skip (RW.seq (RW.blk ?_)))));obtain ⟨v23,e23,h38⟩:=A1 h37;refine RW.gh (Gh.blk (b:=2) rfl (Gf B3 e23)) ?_
       refine RW.gh (Gh.expose_raw (b:=2) (j:=3) rfl rfl (by decide) (C7.fown _)) ?_
       refine RW.sreg ?_;refine rl.op (M7 rfl rfl rfl rfl e23) ?_;refine rl.op (Mo (off':=0) (us:=(J3 5 v23)) B3 rfl rfl e23 rfl rfl rfl) ?_;refine rl.f 2 rfl (RW.sf 8 rfl (RW.sf 4 rfl ?_));refine RW.kp [2,6,99,100,101,113,114,115] [(2,.ptr 0 0),(6,.ptr 1 0),(99,.sl 2 0 y19.length),(100,.j (y19.length:Int)),(101,.j s21.1),(113,.sl 5 0 v23.Items.length),(114,.j (v23.Items.length:Int)),(115,.j 0)] [some ⟨[.nils,.nils,.j 0,.nils,.j 0,.j 0,.j 0,.j 0],0⟩,some ⟨[.sl 3 0 v5.Sectors.length,.sl 4 0 v5.Cache.length,.j v6,.sl 2 0 y19.length,.j (if w64 (v23.Gen+1)>s21.2.1 then w64 (v23.Gen+1) else s21.2.1),.j s21.2.2.1,.j v1.1.Stamp,.j s21.2.2.2],0⟩,some ⟨fl (A8 true) (y19.take s21.1.toNat)++((J3 5 v23)++fl (A8 true) (y19.drop (s21.1.toNat+1))),4⟩,some ⟨fl (encS true) v5.Sectors,1⟩,some ⟨fl (A2 true) v5.Cache,2⟩,some ⟨fl (A9 true) v23.Items,9⟩,some ⟨J3 5 v23,0⟩] rfl rfl ?_;obtain ⟨y27,ey27,h40⟩:=A1 h38
       refine RW.cutq (σ:=Int×Int) (fun y25=>[(2,.ptr 0 0),(6,.ptr 1 0),(99,.sl 2 0 y19.length),(100,.j (y19.length:Int)),(101,.j s21.1)]) (fun y25=>[some ⟨[.nils,.nils,.j 0,.nils,.j 0,.j 0,.j 0,.j 0],0⟩,some ⟨[.sl 3 0 v5.Sectors.length,.sl 4 0 v5.Cache.length,.j v6,.sl 2 0 y19.length,.j (if w64 (v23.Gen+1)>s21.2.1 then w64 (v23.Gen+1) else s21.2.1),.j y25.1,.j v1.1.Stamp,.j y25.2],0⟩,some ⟨fl (A8 true) (y19.take s21.1.toNat)++((J3 5 v23)++fl (A8 true) (y19.drop (s21.1.toNat+1))),4⟩,some ⟨fl (encS true) v5.Sectors,1⟩,some ⟨fl (A2 true) v5.Cache,2⟩,some ⟨fl (A9 true) v23.Items,9⟩]) (fun y=>y27=y) gg ?_ ?_
       ·refine RW.blk ?_
        refine RW.iter (σ:=Int×Int×Int) ey27 (fun s24=>[(2,.ptr 0 0),(6,.ptr 1 0),(99,.sl 2 0 y19.length),(100,.j (y19.length:Int)),(101,.j s21.1),(113,.sl 3 0 v23.Items.length),(114,.j (v23.Items.length:Int)),(115,.j s24.1)]) (fun s24=>[some ⟨[.nils,.nils,.j 0,.nils,.j 0,.j 0,.j 0,.j 0],0⟩,some ⟨[.sl 4 0 v5.Sectors.length,.sl 5 0 v5.Cache.length,.j v6,.sl 2 0 y19.length,.j (if w64 (v23.Gen+1)>s21.2.1 then w64 (v23.Gen+1) else s21.2.1),.j s24.2.1,.j v1.1.Stamp,.j s24.2.2],0⟩,some ⟨fl (A8 true) (y19.take s21.1.toNat)++((J3 3 v23)++fl (A8 true) (y19.drop (s21.1.toNat+1))),4⟩,some ⟨fl (A9 true) v23.Items,9⟩,some ⟨fl (encS true) v5.Sectors,1⟩,some ⟨fl (A2 true) v5.Cache,2⟩]) (Gh.y0 [0,1,2,5,3,4]) (fun s24 B o hS39 hB39 hE39=>?_)
        unfold T5 at hS39;refine RW.sreg ?_
        refine rl.gen rfl rfl fun b hb=>?_
        cases b
        ·have h41:=A4 hS39 hb;refine rl.done (RW.seq (RW.cond_f rfl (RW.exit (C4 ?_))));cases h41
         exact ⟨_,(hE39 _ rfl).symm,(Gh.y0 [0,1,2,4,5,3])⟩
        ·have h42:=A5 hS39 hb;refine rl.done (RW.seq (RW.cond_t rfl (RW.skip (RW.seq (RW.blk (RW.sreg ?_))))));obtain ⟨v26,e26,h43⟩:=A1 h42;refine rl.op (M7 rfl rfl rfl rfl e26) ?_;refine rl.op (A7i (o:=true) (off':=0) (vs:=(A9 false v26)) C7 rfl rfl e26 rfl rfl rfl) ?_;refine rl.f 2 rfl (RW.sf 8 rfl (RW.reg (rl.f 9 rfl (RW.reg (rl.f 2 rfl ?_)))));cases h43
         exact hB39 _ rfl _ _ (Gh.y0 [0,1,2,3,4,5])
       ·intro y25 hC
        subst hC;refine RW.reg (rl.f 2 rfl ?_);cases h40
        exact hB34 _ rfl _ _ (Gh.trans (Gh.absorb_rawq (b:=2) (j:=3) (m:=5) rfl rfl rfl (by decide) (by decide) rfl (C7.flen true _) (C7.fown _)) (Gh.trans (Gh.blk (b:=2) rfl (Gf B3 e23).symm) (Gh.y0 [0,1,2,3,4])))
     ·intro y22 hC
      subst hC;refine RW.seq (RW.sr 1 rfl ?_);obtain ⟨v29,e29,h44⟩:=A1 h35;refine rl.call rfl rfl rfl (A6.y (r':=.bool v29) (Ys e29) ?_)
      cases hb:v29
      ·have h45:=A4 h44 hb;refine rl.f 1 rfl (RW.cond_t rfl (RW.sf 3 rfl (RW.ret ?_)));cases h45
       exact RRet.y
      ·have h46:=A5 h44 hb;refine rl.f 1 rfl (RW.cond_f rfl (RW.skip (RW.sf 3 rfl (RW.ret ?_))));cases h46
       exact RRet.y
  ·have h47:=A5 h2 hb;refine RW.cond_t rfl (RW.sf 3 rfl (RW.ret ?_));cases h47
   exact RRet.y
end Go.Proofs.YtldndhdohlfpgaaGreat.V
