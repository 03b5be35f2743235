/- What a call comes to. -/
import Derived.Test.YtldndhdohlfpgaaXD0
namespace Go.Proofs.Ytldndhdohlfpgaa.V
open Go Go.Proofs Go.RowKit
set_option maxRecDepth 100000
theorem Bt {x0:List TItem} {r:List Int} (hF:F3 x0=some r):A8 Try.prog 131 [A5 x0,.fn 132 []] (.lst true 1 (fl (encI true) r) r.length):=by
 refine A8.q Ds ?_;unfold F3 at hF;refine RW.sf 1 rfl (RW.sf 2 rfl (RW.seq (RW.sf 3 rfl ?_)));refine RW.gh (Gh.nil_t 5 1 rfl) ?_;obtain ⟨y6,ey6,h2⟩:=A2 hF
 refine RW.cutq (σ:=(List Int)) (fun y2=>[(5,.sl 0 0 y2.length)]) (fun y2=>[some ⟨fl (encI true) y2,1⟩]) (fun y=>y6=y) gg ?_ ?_
 ·refine RW.blk ?_
  refine RW.iter (σ:=Int×(List Int)) ey6 (fun s1=>[(1,.fn 132 []),(5,.sl 0 0 s1.2.length),(11,A5 x0),(12,.j (x0.length:Int)),(13,.j s1.1)]) (fun s1=>[some ⟨fl (encI true) s1.2,1⟩]) (Gh.y0 [0]) (fun s1 B o hS1 hB1 hE1=>?_)
  unfold G5 at hS1;refine RW.sreg ?_
  refine rl.gen rfl rfl fun b hb=>?_
  cases b
  ·have h3:=A4 hS1 hb;refine rl.done (RW.seq (RW.cond_f rfl (RW.exit (B7 ?_))));cases h3
   exact ⟨_,(hE1 _ rfl).symm,(Gh.y0 [0])⟩
  ·have h4:=A3 hS1 hb;refine rl.done (RW.seq (RW.cond_t rfl (RW.skip (RW.seq (RW.blk (RW.sreg ?_))))));obtain ⟨v3,e3,h5⟩:=A2 h4;refine rl.op (B4 (enc:=A1) (o:=false) rfl rfl rfl e3) ?_;refine rl.op (C5 (off':=0) (vs:=(A1 false v3)) B3 rfl e3 rfl rfl rfl) ?_;refine rl.f 2 rfl (RW.sr 3 rfl ?_);obtain ⟨v4,e4,h6⟩:=A2 h5;refine rl.call rfl rfl rfl (A6.y (r':=.tup [.j v4.1,.bool v4.2]) (Fd e4) ?_);refine rl.f 5 rfl ?_;refine RW.ka [1,5,8,9,11,12,13] [(1,.fn 132 []),(5,.sl 0 0 s1.2.length),(8,.j v4.1),(9,.bool v4.2),(11,A5 x0),(12,.j (x0.length:Int)),(13,.j s1.1)] rfl ?_;refine RW.sf 1 rfl ?_
   cases hb:v4.2
   ·have h7:=A4 h6 hb;refine RW.cond_f rfl (RW.skip (RW.reg (rl.f 2 rfl ?_)));cases h7
    exact hB1 _ rfl _ _ (Gh.y0 [0])
   ·have h8:=A3 h6 hb;refine RW.cond_t rfl (RW.reg (rl.run 3 rfl ?_));obtain ⟨v5,e5,h9⟩:=A2 h8;refine rl.op (R8 rfl rfl (G0 (l:=s1.2) (m:=[v4.1]) (o:=true) ekI rfl rfl (D2 (m:=[v4.1]) (o:=true) fkI rfl rfl) rfl (fkI.fst _ _) e5)) ?_;refine rl.f 1 rfl (RW.reg (rl.f 2 rfl ?_));cases h9
    exact hB1 _ rfl _ _ (Gh.y0 [3])
 ·intro y2 hC
  subst hC;refine RW.sr 1 rfl ?_;obtain ⟨v7,e7,h10⟩:=A2 h2;refine rl.call rfl rfl rfl (A6.sortI (H':=[some ⟨fl (encI true) v7,1⟩]) Bg e7 rfl rfl rfl rfl ?_);refine rl.done (RW.sr 1 rfl ?_);obtain ⟨v8,e8,h11⟩:=A2 h10;refine rl.call rfl rfl rfl (A6.compI (H':=[some ⟨fl (encI true) v8,1⟩]) Aa e8 rfl ((sort?_length e7)).symm rfl rfl ?_);refine rl.f 1 rfl (RW.ret ?_);cases h11
  exact RRet.y
theorem Dj {x0:TRec} {x1c0:Int} {r:Int×Bool} (hF:M8 x0 x1c0=some r):A8 Try.prog 157 [.agg (A7 false x0),.el [.j x1c0] 0] (.tup [.j r.1,.bool r.2]):=by
 refine A8.q Gz ?_;unfold M8 at hF;refine RW.sf 3 rfl (RW.sdrw (A0.op rfl rfl (A0.op rfl rfl (A0.op rfl rfl (A0.op rfl rfl ?_)))));obtain ⟨v1,e1,h1⟩:=A2 hF;refine A0.call rfl rfl rfl (A6.y (r':=.bool v1) (Q5 e1) ⟨rfl,?_⟩)
 cases hb:v1
 ·have h2:=A4 h1 hb;refine A0.op rfl rfl (A0.op rfl rfl (A0.op rfl rfl ?_));obtain ⟨v2,e2,h3⟩:=A2 h2;refine A0.call rfl rfl rfl (A6.y (r':=.bool v2) (Q5 e2) ⟨rfl,?_⟩);refine A0.op rfl rfl (A0.op rfl rfl (A0.op rfl rfl (A0.done ?_)));refine RW.ka [3,4] [(3,.j x0.Uid),(4,.bool v2)] rfl ?_;refine RW.ret ?_;cases h3
  exact RRet.y
 ·have h4:=A3 h1 hb;refine A0.op rfl rfl (A0.off rfl (A0.off rfl (A0.off rfl (A0.op rfl rfl (A0.op rfl rfl (A0.op rfl rfl (A0.done ?_)))))));refine RW.ka [3,4] [(3,.j x0.Uid),(4,.bool true)] rfl ?_;refine RW.ret ?_;cases h4
  exact RRet.y
theorem Bh {x0:List TItem} {x1ac0:Int} {r:List Int} (hF:F1 x0 x1ac0=some r):A8 Try.prog 131 [A5 x0,.fn 157 [.el [.j x1ac0] 0]] (.lst true 1 (fl (encI true) r) r.length):=by
 refine A8.q Ds ?_;unfold F1 at hF;refine RW.sf 1 rfl (RW.sf 2 rfl (RW.seq (RW.sf 3 rfl ?_)));refine RW.gh (Gh.nil_t 5 1 rfl) ?_;obtain ⟨y6,ey6,h2⟩:=A2 hF
 refine RW.cutq (σ:=(List Int)) (fun y2=>[(5,.sl 0 0 y2.length)]) (fun y2=>[some ⟨fl (encI true) y2,1⟩]) (fun y=>y6=y) gg ?_ ?_
 ·refine RW.blk ?_
  refine RW.iter (σ:=Int×(List Int)) ey6 (fun s1=>[(1,.fn 157 [.el [.j x1ac0] 0]),(5,.sl 0 0 s1.2.length),(11,A5 x0),(12,.j (x0.length:Int)),(13,.j s1.1)]) (fun s1=>[some ⟨fl (encI true) s1.2,1⟩]) (Gh.y0 [0]) (fun s1 B o hS1 hB1 hE1=>?_)
  unfold F8 at hS1;refine RW.sreg ?_
  refine rl.gen rfl rfl fun b hb=>?_
  cases b
  ·have h3:=A4 hS1 hb;refine rl.done (RW.seq (RW.cond_f rfl (RW.exit (B7 ?_))));cases h3
   exact ⟨_,(hE1 _ rfl).symm,(Gh.y0 [0])⟩
  ·have h4:=A3 hS1 hb;refine rl.done (RW.seq (RW.cond_t rfl (RW.skip (RW.seq (RW.blk (RW.sreg ?_))))));obtain ⟨v3,e3,h5⟩:=A2 h4;refine rl.op (B4 (enc:=A1) (o:=false) rfl rfl rfl e3) ?_;refine rl.op (C5 (off':=0) (vs:=(A1 false v3)) B3 rfl e3 rfl rfl rfl) ?_;refine rl.f 2 rfl (RW.sr 3 rfl ?_);obtain ⟨v4,e4,h6⟩:=A2 h5;refine rl.call rfl rfl rfl (A6.yS (r':=.tup [.j v4.1,.bool v4.2]) (Dj e4) ?_);refine rl.f 5 rfl ?_;refine RW.ka [1,5,8,9,11,12,13] [(1,.fn 157 [.el [.j x1ac0] 0]),(5,.sl 0 0 s1.2.length),(8,.j v4.1),(9,.bool v4.2),(11,A5 x0),(12,.j (x0.length:Int)),(13,.j s1.1)] rfl ?_;refine RW.sf 1 rfl ?_
   cases hb:v4.2
   ·have h7:=A4 h6 hb;refine RW.cond_f rfl (RW.skip (RW.reg (rl.f 2 rfl ?_)));cases h7
    exact hB1 _ rfl _ _ (Gh.y0 [0])
   ·have h8:=A3 h6 hb;refine RW.cond_t rfl (RW.reg (rl.run 3 rfl ?_));obtain ⟨v5,e5,h9⟩:=A2 h8;refine rl.op (R8 rfl rfl (G0 (l:=s1.2) (m:=[v4.1]) (o:=true) ekI rfl rfl (D2 (m:=[v4.1]) (o:=true) fkI rfl rfl) rfl (fkI.fst _ _) e5)) ?_;refine rl.f 1 rfl (RW.reg (rl.f 2 rfl ?_));cases h9
    exact hB1 _ rfl _ _ (Gh.y0 [3])
 ·intro y2 hC
  subst hC;refine RW.sr 1 rfl ?_;obtain ⟨v7,e7,h10⟩:=A2 h2;refine rl.call rfl rfl rfl (A6.sortI (H':=[some ⟨fl (encI true) v7,1⟩]) Bg e7 rfl rfl rfl rfl ?_);refine rl.done (RW.sr 1 rfl ?_);obtain ⟨v8,e8,h11⟩:=A2 h10;refine rl.call rfl rfl rfl (A6.compI (H':=[some ⟨fl (encI true) v8,1⟩]) Aa e8 rfl ((sort?_length e7)).symm rfl rfl ?_);refine rl.f 1 rfl (RW.ret ?_);cases h11
  exact RRet.y
set_option maxHeartbeats 2000000 in
theorem Gy {x0:List TItem} {x1:TItem} {r:TBox} (hF:U3 x0 x1=some r):A8 Try.prog 133 [A5 x0,.agg (A1 false x1)] (.agg (C4 true r)):=by
 refine A8.q Ka ?_;unfold U3 at hF;refine RW.sf 2 rfl (RW.sf 5 rfl (RW.sf 13 rfl ?_));refine RW.ka [0,4,5,6] [(0,A5 x0),(4,.ptr 1 0),(5,.ptr 2 0),(6,.ptr 3 0)] rfl ?_;refine RW.sr 2 rfl ?_;obtain ⟨v1,e1,h1⟩:=A2 hF;refine rl.call rfl rfl rfl (A6.yS (r':=L_I v1) (Bh e1) ?_);refine rl.f 1 rfl (RW.seq (RW.sf 3 rfl ?_));refine RW.gh (Gh.nil_c 3 4 3 rfl rfl) ?_;obtain ⟨y9,ey9,h3⟩:=A2 h1
 refine RW.cutq (σ:=Int×(List TMail)) (fun y3=>[(4,.ptr 0 0),(6,.ptr 1 0)]) (fun y3=>[some ⟨[.j 0,.str [],.str [],.j 0,.nils],0⟩,some ⟨[.j x1.Rec.Valid,.str x1.Rec.User,.str x1.Rec.Name,.j y3.1,.sl 2 0 y3.2.length],0⟩,some ⟨fl (J3 true) y3.2,3⟩]) (fun y=>y9=y) gg ?_ ?_
 ·refine RW.blk ?_
  refine RW.iter (σ:=Int×Int×(List TMail)) ey9 (fun s2=>[(0,A5 x0),(4,.ptr 0 0),(5,.ptr 1 0),(6,.ptr 2 0),(32,L_I v1),(33,.j (v1.length:Int)),(34,.j s2.1)]) (fun s2=>[some ⟨[.j 0,.str [],.str [],.j 0,.nils],0⟩,some ⟨[.j x1.Rec.Valid],0⟩,some ⟨[.j x1.Rec.Valid,.str x1.Rec.User,.str x1.Rec.Name,.j s2.2.1,.sl 3 0 s2.2.2.length],0⟩,some ⟨fl (J3 true) s2.2.2,3⟩]) (Gh.y0 [1,2,3,4]) (fun s2 B o hS2 hB2 hE2=>?_)
  unfold L3 at hS2;refine RW.sreg ?_
  refine rl.gen rfl rfl fun b hb=>?_
  cases b
  ·have h4:=A4 hS2 hb;refine rl.done (RW.seq (RW.cond_f rfl (RW.exit (B7 ?_))));cases h4
   exact ⟨_,(hE2 _ rfl).symm,(Gh.y0 [0,2,3])⟩
  ·have h5:=A3 hS2 hb;refine rl.done (RW.seq (RW.cond_t rfl (RW.skip (RW.seq (RW.blk (RW.sreg ?_))))));obtain ⟨v4,e4,h6⟩:=A2 h5;refine rl.op (B4 (enc:=encI) (o:=false) rfl rfl rfl e4) ?_;refine rl.op (G3 (off':=0) ekI rfl e4 rfl rfl rfl) ?_;refine rl.f 1 rfl (RW.sf 7 rfl (RW.sr 3 rfl ?_));obtain ⟨v5,e5,h7⟩:=A2 h6;refine rl.call rfl rfl rfl (A6.y (r':=.tup [.agg (A1 false v5.1),.bool v5.2]) (Y6 e5) ?_);refine rl.f 6 rfl ?_;refine RW.ka [0,4,5,6,9,10,11,32,33,34] [(0,A5 x0),(4,.ptr 0 0),(5,.ptr 1 0),(6,.ptr 2 0),(9,.j v4),(10,.ptr 4 0),(11,.bool v5.2),(32,L_I v1),(33,.j (v1.length:Int)),(34,.j s2.1)] rfl ?_;refine RW.seq (RW.sf 2 rfl ?_)
   cases hb:(!v5.2)
   ·have h8:=A4 h7 hb;refine RW.cond_f rfl (RW.skip (RW.sf 10 rfl ?_));refine RW.ka [0,4,5,6,9,12,32,33,34] [(0,A5 x0),(4,.ptr 0 0),(5,.ptr 1 0),(6,.ptr 2 0),(9,.j v4),(12,.ptr 5 0),(32,L_I v1),(33,.j (v1.length:Int)),(34,.j s2.1)] rfl ?_;refine RW.seq (RW.sr 3 rfl ?_);obtain ⟨v6,e6,h9⟩:=A2 h8;refine rl.call rfl rfl rfl (A6.y (r':=.tup [.agg (A1 false v6.1),.bool v6.2]) (F9 e6) ?_);refine rl.f 6 rfl (RW.sf 1 rfl ?_);obtain ⟨y7,ey7,h10⟩:=A2 h9
    refine RW.cutq (σ:=Int) (fun y7=>[(0,A5 x0),(4,.ptr 0 0),(5,.ptr 1 0),(6,.ptr 2 0),(12,.ptr 3 0),(32,L_I v1),(33,.j (v1.length:Int)),(34,.j s2.1)]) (fun y7=>[some ⟨[.j 0,.str [],.str [],.j 0,.nils],0⟩,some ⟨[.j x1.Rec.Valid],0⟩,some ⟨[.j x1.Rec.Valid,.str x1.Rec.User,.str x1.Rec.Name,.j (if w64 (v4+1)>s2.2.1 then w64 (v4+1) else s2.2.1),.sl 4 0 s2.2.2.length],0⟩,some ⟨[.j v4,.j y7,.str v5.1.Rec.Text],0⟩,some ⟨fl (J3 true) s2.2.2,3⟩]) (fun y=>y7=y) gg ?_ ?_
    ·cases hb:v6.2
     ·have h11:=A4 ey7 hb;refine RW.cond_f rfl (RW.skip ?_);cases h11
      exact ⟨_,rfl,(Gh.y0 [0,1,2,5,3])⟩
     ·have h12:=A3 ey7 hb;refine RW.cond_t rfl (RW.reg (rl.f 5 rfl ?_));cases h12
      exact ⟨_,rfl,(Gh.y0 [0,1,2,5,3])⟩
    ·intro y hC
     subst hC;refine RW.reg (rl.run 4 rfl ?_);obtain ⟨v8,e8,h13⟩:=A2 h10;refine rl.op (R8 rfl rfl (G0 (l:=s2.2.2) (m:=[({ Uid:=v4,Flags:=y7,Text:=v5.1.Rec.Text }:TMail)]) (o:=true) Y2 rfl rfl (D2 (m:=[({ Uid:=v4,Flags:=y7,Text:=v5.1.Rec.Text }:TMail)]) (o:=true) Ei rfl rfl) rfl (Ei.fst _ _) e8)) ?_;refine rl.f 2 rfl (RW.reg (rl.f 2 rfl ?_));cases h13
     exact hB2 _ rfl _ _ (Gh.y0 [0,1,2,6])
   ·have h14:=A3 h7 hb;refine RW.cond_t rfl (RW.exit (B7 (RW.reg (rl.f 2 rfl ?_))));cases h14
    exact hB2 _ rfl _ _ (Gh.y0 [0,1,2,3])
 ·intro y3 hC
  subst hC;refine RW.sf 2 rfl (RW.ret ?_);cases h3
  exact RRet.y
theorem Ci {x0:List TItem} {r:TState} (hF:Q3 x0=some r):A8 Try.prog 91 [A5 x0] (.agg (W1 true r)):=by
 refine A8.q Mv ?_;unfold Q3 at hF;refine RW.sf 1 rfl (RW.seq (RW.sr 1 rfl ?_));obtain ⟨v1,e1,h1⟩:=A2 hF;refine rl.call rfl rfl rfl (A6.y (r':=.bool v1) (Aq e1) ?_)
 cases hb:v1
 ·have h2:=A4 h1 hb;refine rl.f 1 rfl (RW.cond_t rfl (RW.sf 2 rfl (RW.ret ?_)));cases h2
  exact RRet.y
 ·have h3:=A3 h1 hb;refine rl.f 1 rfl (RW.cond_f rfl (RW.skip (RW.sf 3 rfl (RW.seq (RW.sr 1 rfl ?_)))));obtain ⟨v2,e2,h4⟩:=A2 h3;refine rl.call rfl rfl rfl (A6.y (r':=L_I v2) (Bt e2) ?_);refine rl.f 2 rfl ?_;refine RW.gh (Gh.nil_c 1 0 5 rfl rfl) ?_;obtain ⟨y9,ey9,h6⟩:=A2 h4
  refine RW.cutq (σ:=(List TBox)) (fun y4=>[(2,.ptr 0 0),(3,.ptr 1 0)]) (fun y4=>[some ⟨[.nils],0⟩,some ⟨[.sl 2 0 y4.length],0⟩,some ⟨fl (C4 true) y4,5⟩]) (fun y=>y9=y) gg ?_ ?_
  ·refine RW.blk ?_
   refine RW.iter (σ:=Int×(List TBox)) ey9 (fun s3=>[(0,A5 x0),(2,.ptr 0 0),(3,.ptr 1 0),(14,L_I v2),(15,.j (v2.length:Int)),(16,.j s3.1)]) (fun s3=>[some ⟨[.nils],0⟩,some ⟨[.sl 2 0 s3.2.length],0⟩,some ⟨fl (C4 true) s3.2,5⟩]) (Gh.y0 [0,1,2]) (fun s3 B o hS5 hB5 hE5=>?_)
   unfold X1 at hS5;refine RW.sreg ?_
   refine rl.gen rfl rfl fun b hb=>?_
   cases b
   ·have h7:=A4 hS5 hb;refine rl.done (RW.seq (RW.cond_f rfl (RW.exit (B7 ?_))));cases h7
    exact ⟨_,(hE5 _ rfl).symm,(Gh.y0 [0,1,2])⟩
   ·have h8:=A3 hS5 hb;refine rl.done (RW.seq (RW.cond_t rfl (RW.skip (RW.seq (RW.blk (RW.sreg ?_))))));obtain ⟨v5,e5,h9⟩:=A2 h8;refine rl.op (B4 (enc:=encI) (o:=false) rfl rfl rfl e5) ?_;refine rl.op (G3 (off':=0) ekI rfl e5 rfl rfl rfl) ?_;refine rl.f 1 rfl (RW.sr 2 rfl ?_);obtain ⟨v6,e6,h10⟩:=A2 h9;refine rl.call rfl rfl rfl (A6.y (r':=.tup [.agg (A1 false v6.1),.bool v6.2]) (V1 e6) ?_);refine rl.f 6 rfl (RW.sf 1 rfl ?_);refine RW.ka [0,2,3,6,14,15,16,26] [(0,A5 x0),(2,.ptr 0 0),(3,.ptr 1 0),(6,.ptr 3 0),(14,L_I v2),(15,.j (v2.length:Int)),(16,.j s3.1),(26,.bool v6.2)] rfl ?_
    cases hb:v6.2
    ·have h11:=A4 h10 hb;refine RW.cond_f rfl (RW.skip (RW.reg (rl.f 2 rfl ?_)));cases h11
     exact hB5 _ rfl _ _ (Gh.y0 [0,1,2])
    ·have h12:=A3 h10 hb;refine RW.cond_t rfl (RW.drw (A0.op rfl rfl (A0.op rfl rfl (A0.op rfl rfl (A0.op rfl rfl ?_)))));obtain ⟨v7,e7,h13⟩:=A2 h12;refine A0.ccallB rfl rfl rfl (A6.z (r':=.agg (Zo 4 v7)) (H':=[some ⟨[.nils],0⟩,some ⟨[.sl 2 0 s3.2.length],0⟩,some ⟨fl (C4 true) s3.2,5⟩,some ⟨A1 false v6.1,0⟩,some ⟨fl (J3 true) v7.Mails,3⟩]) (Gy e7) ⟨(.skip rfl (.skip rfl (.here (.rx rfl) (.here (.rx rfl) .nil)))),?_⟩);refine A0.chnB rfl rfl (.skip rfl (.skip rfl (.here (.rx rfl) (.here (.rx rfl) .nil)))) ?_;obtain ⟨v8,e8,h14⟩:=A2 h13;refine A0.chn rfl (R8 rfl rfl (Rz Y4 rfl rfl (Qf rfl rfl rfl) e8)) ?_;refine A0.op rfl rfl ?_;refine A0.chn rfl rfl ?_;refine A0.done ?_
     refine RW.gh (Gh.absorb_rawq (b:=6) (j:=4) (m:=4) rfl rfl rfl (by decide) (by decide) rfl (Y2.flen true _) (Y2.fown _)) ?_
     refine RW.gh (Gh.blk (b:=6) rfl (Uz (enc:=C4) e8 rfl)) ?_;refine RW.reg (rl.f 2 rfl ?_);cases h14
     exact hB5 _ rfl _ _ (Gh.y0 [0,1,6])
  ·intro y4 hC
   subst hC;refine RW.sf 2 rfl (RW.ret ?_);cases h6
   exact RRet.y
theorem Dy {x0:TBox} {x1:TBox} {r:Bool} (hF:R9 x0 x1=some r):B2 Try.prog 1 93 [.agg (C4 false x0),.ptr 0 0] [some ⟨C4 false x1,0⟩] (.bool r) [some ⟨C4 false x1,0⟩]:=by
 refine B2.q Jf ?_;unfold R9 at hF;refine RW.sf 2 rfl (RW.sf 6 rfl (RW.ret ?_));cases hF
 exact RRetS.m (Gh.rN [0])
theorem Z1 {x0:List TBox} {x1:TBox} {r:Int} (hF:B8 x0 x1=some r):B2 Try.prog 1 92 [Bd x0,.fn 93 [.ptr 0 0]] [some ⟨C4 false x1,0⟩] (.j r) [some ⟨C4 false x1,0⟩]:=by
 refine B2.q Cz ?_;unfold B8 at hF;refine RW.sf 1 rfl (RW.seq (RW.sf 3 rfl ?_));obtain ⟨y5,ey5,h2⟩:=A2 hF
 refine RW.cutq (σ:=Unit) (fun y2=>[]) (fun y2=>[some ⟨C4 false x1,0⟩]) (fun y=>y5=.inr y) gg ?_ ?_
 ·refine RW.blk ?_
  refine RW.iter (σ:=Int) ey5 (fun s1=>[(0,Bd x0),(1,.fn 93 [.ptr 0 0]),(7,.j (x0.length:Int)),(8,.j s1)]) (fun s1=>[some ⟨C4 false x1,0⟩]) (Gh.rN [0]) (fun s1 B o hS1 hB1 hE1=>?_)
  unfold E0 at hS1;refine RW.sreg ?_
  refine rl.gen rfl rfl fun b hb=>?_
  cases b
  ·have h3:=A4 hS1 hb;refine rl.done (RW.seq (RW.cond_f rfl (RW.exit (B7 ?_))));cases h3
   exact ⟨_,(hE1 _ rfl).symm,(Gh.rN [0])⟩
  ·have h4:=A3 hS1 hb;refine rl.done (RW.seq (RW.cond_t rfl (RW.skip (RW.seq (RW.blk (RW.sf 2 rfl (RW.sr 3 rfl ?_)))))));obtain ⟨v3,e3,h5⟩:=A2 h4;refine rl.op (B4 (enc:=C4) (o:=false) rfl rfl rfl e3) ?_;refine rl.op (C5 (off':=0) (vs:=(C4 false v3)) Y4 rfl e3 rfl rfl rfl) ?_;obtain ⟨v4,e4,h6⟩:=A2 h5;refine rl.call rfl rfl rfl (A6.eR [0] (Dy e4) ?_)
   cases hb:v4
   ·have h7:=A4 h6 hb;refine rl.done (RW.cond_f rfl (RW.skip (RW.reg (rl.f 2 rfl ?_))));cases h7
    exact hB1 _ rfl _ _ (Gh.rN [0])
   ·have h8:=A3 h6 hb;refine rl.done (RW.cond_t rfl (RW.sf 2 rfl ?_));refine RW.ka [4] [(4,.j s1)] rfl ?_;refine RW.ret ?_;cases h8;have h9:=elimL h2 (hE1 _ rfl);cases h9
    exact RRetS.m (Gh.rN [0])
 ·intro y2 hC
  have h2:=elimR h2 hC;refine RW.sf 1 rfl (RW.ret ?_);cases h2
  exact RRetS.m (Gh.rN [0])
set_option maxHeartbeats 2000000 in
theorem Cg {x0:List TItem} {x1:List Bool} {r:List TRec} (hF:H9 x0 x1=some r):A8 Try.prog 43 [A5 x0,L_O x1] (.lst true 8 (fl (A7 true) r) r.length):=by
 refine A8.q Lu ?_;unfold H9 at hF;refine RW.sf 1 rfl (RW.sr 2 rfl ?_);obtain ⟨v1,e1,h1⟩:=A2 hF;refine rl.call rfl rfl rfl (A6.y (r':=A5 v1) (Cj e1) ?_);obtain ⟨v2,e2,h2⟩:=A2 h1;refine rl.call rfl rfl rfl (A6.y (r':=.agg (W1 false v2)) (Ci e2) ?_);refine rl.f 2 rfl (RW.sf 2 rfl (RW.seq (RW.sr 1 rfl ?_)));obtain ⟨v3,e3,h3⟩:=A2 h2;refine rl.call rfl rfl rfl (A6.y (r':=.agg (W1 false v3)) (Ci e3) ?_);refine rl.f 3 rfl ?_;refine RW.gh (Gh.nil_t 6 8 rfl) ?_;obtain ⟨y11,ey11,h5⟩:=A2 h3
 refine RW.cutq (σ:=(List TRec)) (fun y5=>[(6,.sl 0 0 y5.length)]) (fun y5=>[some ⟨fl (A7 true) y5,8⟩]) (fun y=>y11=y) gg ?_ ?_
 ·refine RW.blk ?_
  refine RW.iter (σ:=Int×(List TRec)) ey11 (fun s4=>[(5,.ptr 0 0),(6,.sl 1 0 s4.2.length),(17,Bd v3.Boxes),(18,.j (v3.Boxes.length:Int)),(19,.j s4.1)]) (fun s4=>[some ⟨[Bd v2.Boxes],0⟩,some ⟨fl (A7 true) s4.2,8⟩]) (Gh.y0 [0,1]) (fun s4 B o hS4 hB4 hE4=>?_)
  unfold W7 at hS4;refine RW.sreg ?_
  refine rl.gen rfl rfl fun b hb=>?_
  cases b
  ·have h6:=A4 hS4 hb;refine rl.done (RW.seq (RW.cond_f rfl (RW.exit (B7 ?_))));cases h6
   exact ⟨_,(hE4 _ rfl).symm,(Gh.y0 [1])⟩
  ·have h7:=A3 hS4 hb;refine rl.done (RW.seq (RW.cond_t rfl (RW.skip (RW.seq (RW.blk (RW.sreg ?_))))));obtain ⟨v6,e6,h8⟩:=A2 h7;refine rl.op (B4 (enc:=C4) (o:=false) rfl rfl rfl e6) ?_;refine rl.op (C5 (off':=0) (vs:=(C4 false v6)) Y4 rfl e6 rfl rfl rfl) ?_;refine rl.f 2 rfl (RW.sr 3 rfl ?_);obtain ⟨v7,e7,h9⟩:=A2 h8;refine rl.call rfl rfl rfl (A6.eR [2] (Z1 e7) ?_);refine rl.f 1 rfl (RW.seq ?_);obtain ⟨y8,ey8,h10⟩:=A2 h9
   refine RW.cutq (σ:=Bool) (fun y8=>[(5,.ptr 0 0),(6,.sl 1 0 s4.2.length),(8,.ptr 2 0),(17,Bd v3.Boxes),(18,.j (v3.Boxes.length:Int)),(19,.j s4.1),(39,.bool y8)]) (fun y8=>[some ⟨[Bd v2.Boxes],0⟩,some ⟨fl (A7 true) s4.2,8⟩,some ⟨C4 false v6,0⟩]) (fun y=>y8=y) gg ?_ ?_
   ·refine RW.drw ?_;refine A0.op rfl rfl ?_
    refine A0.gen rfl rfl fun b hb=>?_
    cases b
    ·have h11:=A4 ey8 hb;refine A0.op rfl rfl (A0.op rfl rfl (A0.op rfl rfl (A0.op rfl rfl ?_)));obtain ⟨v9,e9,h12⟩:=A2 h11;refine A0.op rfl (B4 (enc:=C4) (o:=false) rfl rfl rfl e9) ?_;refine A0.op rfl rfl ?_;refine A0.op rfl (G3 (off':=3) Y4 rfl e9 rfl rfl rfl) ?_;refine A0.op rfl rfl (A0.op rfl rfl ?_)
     refine A0.gen rfl rfl fun b hb=>?_
     cases b
     ·have h13:=A4 h12 hb;refine A0.op rfl rfl (A0.done ?_);cases h13
      exact ⟨_,rfl,(Gh.y0 [0,1,2])⟩
     ·have h14:=A3 h12 hb;refine A0.op rfl rfl (A0.done ?_);cases h14
      exact ⟨_,rfl,(Gh.y0 [0,1,2])⟩
    ·have h15:=A3 ey8 hb;refine A0.op rfl rfl (A0.off rfl (A0.off rfl (A0.off rfl (A0.off rfl (A0.off rfl (A0.off rfl (A0.off rfl (A0.off rfl (A0.off rfl (A0.op rfl rfl (A0.done ?_)))))))))));cases h15
     exact ⟨_,rfl,(Gh.y0 [0,1,2])⟩
   ·intro y hC
    subst hC
    cases hb:y8
    ·have h16:=A4 h10 hb;refine RW.cond_f rfl (RW.skip (RW.reg (rl.f 2 rfl ?_)));cases h16
     exact hB4 _ rfl _ _ (Gh.y0 [0,1])
    ·have h17:=A3 h10 hb;refine RW.cond_t rfl (RW.reg (rl.run 11 rfl ?_));obtain ⟨v10,e10,h18⟩:=A2 h17;refine rl.op (R8 rfl rfl (G0 (l:=s4.2) (m:=[({ Kind:=1,Valid:=v6.Valid,Uid:=0,Next:=v6.Next,Flags:=0,User:=v6.User,Name:=v6.Name,Text:=[] }:TRec)]) (o:=true) Gp rfl rfl (D2 (m:=[({ Kind:=1,Valid:=v6.Valid,Uid:=0,Next:=v6.Next,Flags:=0,User:=v6.User,Name:=v6.Name,Text:=[] }:TRec)]) (o:=true) Gr rfl rfl) rfl (Gr.fst _ _) e10)) ?_;refine rl.f 1 rfl (RW.reg (rl.f 2 rfl ?_));cases h18
     exact hB4 _ rfl _ _ (Gh.y0 [0,4])
 ·intro y5 hC
  subst hC;refine RW.sf 2 rfl (RW.ret ?_);cases h5
  exact RRet.y
set_option maxHeartbeats 2000000 in
theorem Bv {x0:List Int} {x1:Int} {r:List Int} (hF:K0 x0 x1=some r):A8 Try.prog 80 [L_I x0,.j x1] (.lst true 1 (fl (encI true) r) r.length):=by
 refine A8.q Jh ?_;unfold K0 at hF;refine RW.sf 1 rfl (RW.sf 2 rfl (RW.seq (RW.sf 1 rfl ?_)));refine RW.gh (Gh.nil_t 5 1 rfl) ?_;obtain ⟨y6,ey6,h2⟩:=A2 hF
 refine RW.cutq (σ:=(List Int)) (fun y2=>[(0,L_I x0),(1,.j x1),(5,.sl 0 0 y2.length)]) (fun y2=>[some ⟨fl (encI true) y2,1⟩]) (fun y=>y6=y) gg ?_ ?_
 ·refine RW.blk ?_
  refine RW.iter (σ:=Int×(List Int)) ey6 (fun s1=>[(0,L_I x0),(1,.j x1),(5,.sl 0 0 s1.2.length),(6,.j s1.1)]) (fun s1=>[some ⟨fl (encI true) s1.2,1⟩]) (Gh.y0 [0]) (fun s1 B o hS1 hB1 hE1=>?_)
  unfold T2 at hS1;refine RW.seq (RW.sr 3 rfl ?_)
  refine rl.gen rfl rfl fun b hb=>?_
  cases b
  ·have h3:=A4 hS1 hb;refine rl.done (RW.cond_f rfl (RW.exit (B7 ?_)));cases h3
   exact ⟨_,(hE1 _ rfl).symm,(Gh.y0 [0])⟩
  ·have h4:=A3 hS1 hb;refine rl.done (RW.cond_t rfl (RW.skip (RW.seq (RW.blk (RW.sr 2 rfl ?_)))));obtain ⟨v3,e3,h5⟩:=A2 h4;refine rl.op (B4 (enc:=encI) (o:=false) rfl rfl rfl e3) ?_;refine rl.op (G3 (off':=0) ekI rfl e3 rfl rfl rfl) ?_;refine rl.run 1 rfl ?_
   refine rl.gen rfl rfl fun b hb=>?_
   cases b
   ·have h6:=A4 h5 hb;refine rl.done (RW.cond_f rfl (RW.skip (RW.reg (rl.f 3 rfl ?_))));cases h6
    exact hB1 _ rfl _ _ (Gh.y0 [0])
   ·have h7:=A3 h5 hb;refine rl.done (RW.cond_t rfl (RW.reg (rl.run 3 rfl ?_)));obtain ⟨v4,e4,h8⟩:=A2 h7;refine rl.op (B4 (enc:=encI) (o:=false) rfl rfl rfl e4) ?_;refine rl.op (G3 (off':=0) ekI rfl e4 rfl rfl rfl) ?_;refine rl.run 1 rfl ?_;obtain ⟨v5,e5,h9⟩:=A2 h8;refine rl.op (R8 rfl rfl (G0 (l:=s1.2) (m:=[v4]) (o:=true) ekI rfl rfl (D2 (m:=[v4]) (o:=true) fkI rfl rfl) rfl (fkI.fst _ _) e5)) ?_;refine rl.f 1 rfl (RW.reg (rl.f 3 rfl ?_));cases h9
    exact hB1 _ rfl _ _ (Gh.y0 [2])
 ·intro y2 hC
  subst hC;refine RW.sr 3 rfl ?_;obtain ⟨v7,e7,h10⟩:=A2 h2;refine rl.op (R8 rfl rfl (G0 (l:=y6) (m:=[x1]) (o:=true) ekI rfl rfl (D2 (m:=[x1]) (o:=true) fkI rfl rfl) rfl (fkI.fst _ _) e7)) ?_;refine rl.f 1 rfl (RW.seq (RW.sf 1 rfl ?_));obtain ⟨y13,ey13,h12⟩:=A2 h10
  refine RW.cutq (σ:=(List Int)) (fun y9=>[(5,.sl 0 0 y9.length)]) (fun y9=>[some ⟨fl (encI true) y9,1⟩]) (fun y=>y13=y) gg ?_ ?_
  ·refine RW.blk ?_
   refine RW.iter (σ:=Int×(List Int)) ey13 (fun s8=>[(0,L_I x0),(1,.j x1),(5,.sl 0 0 s8.2.length),(7,.j s8.1)]) (fun s8=>[some ⟨fl (encI true) s8.2,1⟩]) (Gh.y0 [2]) (fun s8 B o hS11 hB11 hE11=>?_)
   unfold T3 at hS11;refine RW.seq (RW.sr 3 rfl ?_)
   refine rl.gen rfl rfl fun b hb=>?_
   cases b
   ·have h13:=A4 hS11 hb;refine rl.done (RW.cond_f rfl (RW.exit (B7 ?_)));cases h13
    exact ⟨_,(hE11 _ rfl).symm,(Gh.y0 [0])⟩
   ·have h14:=A3 hS11 hb;refine rl.done (RW.cond_t rfl (RW.skip (RW.seq (RW.blk (RW.sr 2 rfl ?_)))));obtain ⟨v10,e10,h15⟩:=A2 h14;refine rl.op (B4 (enc:=encI) (o:=false) rfl rfl rfl e10) ?_;refine rl.op (G3 (off':=0) ekI rfl e10 rfl rfl rfl) ?_;refine rl.run 1 rfl ?_
    refine rl.gen rfl rfl fun b hb=>?_
    cases b
    ·have h16:=A4 h15 hb;refine rl.done (RW.cond_f rfl (RW.skip (RW.reg (rl.f 3 rfl ?_))));cases h16
     exact hB11 _ rfl _ _ (Gh.y0 [0])
    ·have h17:=A3 h15 hb;refine rl.done (RW.cond_t rfl (RW.reg (rl.run 3 rfl ?_)));obtain ⟨v11,e11,h18⟩:=A2 h17;refine rl.op (B4 (enc:=encI) (o:=false) rfl rfl rfl e11) ?_;refine rl.op (G3 (off':=0) ekI rfl e11 rfl rfl rfl) ?_;refine rl.run 1 rfl ?_;obtain ⟨v12,e12,h19⟩:=A2 h18;refine rl.op (R8 rfl rfl (G0 (l:=s8.2) (m:=[v11]) (o:=true) ekI rfl rfl (D2 (m:=[v11]) (o:=true) fkI rfl rfl) rfl (fkI.fst _ _) e12)) ?_;refine rl.f 1 rfl (RW.reg (rl.f 3 rfl ?_));cases h19
     exact hB11 _ rfl _ _ (Gh.y0 [2])
  ·intro y9 hC
   subst hC;refine RW.sf 2 rfl (RW.ret ?_);cases h12
   exact RRet.y
set_option maxHeartbeats 2000000 in
theorem Hy {x0:List TItem} {x1:Int} {r:TItem} (hF:W2 x0 x1=some r):A8 Try.prog 81 [A5 x0,.j x1] (.agg (A1 true r)):=by
 refine A8.q Me ?_;unfold W2 at hF;refine RW.sf 1 rfl (RW.sf 3 rfl (RW.seq (RW.sf 1 rfl ?_)));obtain ⟨y6,ey6,h2⟩:=A2 hF
 refine RW.cutq (σ:=Int×Int×Int×Int×Int×Int×(List UInt8)×(List UInt8)×(List UInt8)) (fun y2=>[(4,.ptr 0 0),(5,.ptr 1 0)]) (fun y2=>[some ⟨[.j 0,.j 0,.j 0,.j 0,.j 0,.j 0,.str [],.str [],.str []],0⟩,some ⟨[.j y2.1,.j y2.2.1,.j y2.2.2.1,.j y2.2.2.2.1,.j y2.2.2.2.2.1,.j y2.2.2.2.2.2.1,.str y2.2.2.2.2.2.2.1,.str y2.2.2.2.2.2.2.2.1,.str y2.2.2.2.2.2.2.2.2],0⟩]) (fun y=>y6=y) gg ?_ ?_
 ·refine RW.blk ?_
  refine RW.iter (σ:=Int×Int×Int×Int×Int×Int×Int×(List UInt8)×(List UInt8)×(List UInt8)) ey6 (fun s1=>[(0,A5 x0),(1,.j x1),(4,.ptr 0 0),(5,.ptr 1 0),(6,.j s1.1)]) (fun s1=>[some ⟨[.j 0,.j 0,.j 0,.j 0,.j 0,.j 0,.str [],.str [],.str []],0⟩,some ⟨[.j s1.2.1,.j s1.2.2.1,.j s1.2.2.2.1,.j s1.2.2.2.2.1,.j s1.2.2.2.2.2.1,.j s1.2.2.2.2.2.2.1,.str s1.2.2.2.2.2.2.2.1,.str s1.2.2.2.2.2.2.2.2.1,.str s1.2.2.2.2.2.2.2.2.2],0⟩]) (Gh.y0 [0,1]) (fun s1 B o hS1 hB1 hE1=>?_)
  unfold P9 at hS1;refine RW.seq (RW.sr 3 rfl ?_)
  refine rl.gen rfl rfl fun b hb=>?_
  cases b
  ·have h3:=A4 hS1 hb;refine rl.done (RW.cond_f rfl (RW.exit (B7 ?_)));cases h3
   exact ⟨_,(hE1 _ rfl).symm,(Gh.y0 [0,1])⟩
  ·have h4:=A3 hS1 hb;refine rl.done (RW.cond_t rfl (RW.skip (RW.seq (RW.blk (RW.sr 2 rfl ?_)))));obtain ⟨v3,e3,h5⟩:=A2 h4;refine rl.op (B4 (enc:=A1) (o:=false) rfl rfl rfl e3) ?_;refine rl.op (C5 (off':=0) (vs:=(A1 false v3)) B3 rfl e3 rfl rfl rfl) ?_;refine rl.f 2 rfl (RW.seq (RW.seq ?_));obtain ⟨y4,ey4,h6⟩:=A2 h5
   refine RW.cutq (σ:=Bool) (fun y4=>[(0,A5 x0),(1,.j x1),(4,.ptr 0 0),(5,.ptr 1 0),(6,.j s1.1),(7,.ptr 2 0),(29,.bool y4)]) (fun y4=>[some ⟨[.j 0,.j 0,.j 0,.j 0,.j 0,.j 0,.str [],.str [],.str []],0⟩,some ⟨[.j s1.2.1,.j s1.2.2.1,.j s1.2.2.2.1,.j s1.2.2.2.2.1,.j s1.2.2.2.2.2.1,.j s1.2.2.2.2.2.2.1,.str s1.2.2.2.2.2.2.2.1,.str s1.2.2.2.2.2.2.2.2.1,.str s1.2.2.2.2.2.2.2.2.2],0⟩,some ⟨A1 false v3,0⟩]) (fun y=>y4=y) gg ?_ ?_
   ·refine RW.reg ?_;refine rl.run 3 rfl ?_
    refine rl.gen rfl rfl fun b hb=>?_
    cases b
    ·have h7:=A4 ey4 hb;refine rl.run 5 rfl ?_
     refine rl.gen rfl rfl fun b hb=>?_
     cases b
     ·have h8:=A4 h7 hb;refine rl.f 1 rfl ?_;cases h8
      exact ⟨_,rfl,(Gh.y0 [0,1,2])⟩
     ·have h9:=A3 h7 hb;refine rl.f 1 rfl ?_;cases h9
      exact ⟨_,rfl,(Gh.y0 [0,1,2])⟩
    ·have h10:=A3 ey4 hb;refine rl.f 7 rfl ?_;cases h10
     exact ⟨_,rfl,(Gh.y0 [0,1,2])⟩
   ·intro y hC
    subst hC
    cases hb:y4
    ·have h11:=A4 h6 hb;refine RW.cond_f rfl (RW.skip (RW.seq ?_));obtain ⟨y5,ey5,h12⟩:=A2 h11
     refine RW.cutq (σ:=Bool) (fun y5=>[(0,A5 x0),(1,.j x1),(4,.ptr 0 0),(5,.ptr 1 0),(6,.j s1.1),(7,.ptr 2 0),(57,.bool y5)]) (fun y5=>[some ⟨[.j 0,.j 0,.j 0,.j 0,.j 0,.j 0,.str [],.str [],.str []],0⟩,some ⟨[.j s1.2.1,.j s1.2.2.1,.j s1.2.2.2.1,.j s1.2.2.2.2.1,.j s1.2.2.2.2.2.1,.j s1.2.2.2.2.2.2.1,.str s1.2.2.2.2.2.2.2.1,.str s1.2.2.2.2.2.2.2.2.1,.str s1.2.2.2.2.2.2.2.2.2],0⟩,some ⟨A1 false v3,0⟩]) (fun y=>y5=y) gg ?_ ?_
     ·refine RW.reg ?_;refine rl.run 2 rfl ?_
      refine rl.gen rfl rfl fun b hb=>?_
      cases b
      ·have h13:=A4 ey5 hb;refine rl.run 7 rfl ?_
       refine rl.gen rfl rfl fun b hb=>?_
       cases b
       ·have h14:=A4 h13 hb;refine rl.run 8 rfl ?_
        refine rl.gen rfl rfl fun b hb=>?_
        cases b
        ·have h15:=A4 h14 hb;refine rl.f 8 rfl ?_;cases h15
         exact ⟨_,rfl,(Gh.y0 [0,1,2])⟩
        ·have h16:=A3 h14 hb;refine rl.run 5 rfl ?_
         refine rl.gen rfl rfl fun b hb=>?_
         cases b
         ·have h17:=A4 h16 hb;refine rl.f 2 rfl ?_;cases h17
          exact ⟨_,rfl,(Gh.y0 [0,1,2])⟩
         ·have h18:=A3 h16 hb;refine rl.f 2 rfl ?_;cases h18
          exact ⟨_,rfl,(Gh.y0 [0,1,2])⟩
       ·have h19:=A3 h13 hb;refine rl.f 17 rfl ?_;cases h19
        exact ⟨_,rfl,(Gh.y0 [0,1,2])⟩
      ·have h20:=A3 ey5 hb;refine rl.f 25 rfl ?_;cases h20
       exact ⟨_,rfl,(Gh.y0 [0,1,2])⟩
     ·intro y hC
      subst hC
      cases hb:y5
      ·have h21:=A4 h12 hb;refine RW.cond_f rfl (RW.skip (RW.reg (rl.f 3 rfl ?_)));cases h21
       exact hB1 _ rfl _ _ (Gh.y0 [0,1])
      ·have h22:=A3 h12 hb;refine RW.cond_t rfl (RW.reg (rl.f 2 rfl (RW.reg (rl.f 3 rfl ?_))));cases h22
       exact hB1 _ rfl _ _ (Gh.y0 [0,1])
    ·have h23:=A3 h6 hb;refine RW.cond_t rfl (RW.exit (B7 (RW.reg (rl.f 3 rfl ?_))));cases h23
     exact hB1 _ rfl _ _ (Gh.y0 [0,1])
 ·intro y2 hC
  subst hC;refine RW.sf 2 rfl (RW.ret ?_);cases h2
  exact RRet.y
set_option maxHeartbeats 2000000 in
theorem Ja {x0:List TItem} {x1:Int} {r:Int} (hF:W5 x0 x1=some r):A8 Try.prog 82 [A5 x0,.j x1] (.j r):=by
 refine A8.q Mu ?_;unfold W5 at hF;refine RW.sf 1 rfl (RW.sf 1 rfl (RW.seq (RW.sf 1 rfl ?_)));obtain ⟨y5,ey5,h2⟩:=A2 hF
 refine RW.cutq (σ:=Int) (fun y2=>[(5,.j y2)]) (fun y2=>[]) (fun y=>y5=y) gg ?_ ?_
 ·refine RW.blk ?_
  refine RW.iter (σ:=Int×Int) ey5 (fun s1=>[(0,A5 x0),(1,.j x1),(5,.j s1.1),(6,.j s1.2)]) (fun s1=>[]) (Gh.y0 []) (fun s1 B o hS1 hB1 hE1=>?_)
  unfold Q0 at hS1;refine RW.seq (RW.sr 3 rfl ?_)
  refine rl.gen rfl rfl fun b hb=>?_
  cases b
  ·have h3:=A4 hS1 hb;refine rl.done (RW.cond_f rfl (RW.exit (B7 ?_)));cases h3
   exact ⟨_,(hE1 _ rfl).symm,(Gh.y0 [])⟩
  ·have h4:=A3 hS1 hb;refine rl.done (RW.cond_t rfl (RW.skip (RW.seq (RW.blk (RW.sr 2 rfl ?_)))));obtain ⟨v3,e3,h5⟩:=A2 h4;refine rl.op (B4 (enc:=A1) (o:=false) rfl rfl rfl e3) ?_;refine rl.run 1 rfl ?_;refine rl.op (C5 (off':=1) (vs:=(A7 false v3.Rec)) B3 rfl e3 rfl rfl rfl) ?_;refine rl.f 2 rfl (RW.seq (RW.sr 3 rfl ?_))
   refine rl.gen rfl rfl fun b hb=>?_
   cases b
   ·have h6:=A4 h5 hb;refine rl.done ?_;refine RW.ka [0,1,5,6,7,23] [(0,A5 x0),(1,.j x1),(5,.j s1.1),(6,.j s1.2),(7,.ptr 0 0),(23,.bool false)] rfl ?_;refine RW.cond_f rfl (RW.skip (RW.sf 1 rfl (RW.seq (RW.sf 2 rfl ?_))));obtain ⟨y4,ey4,h7⟩:=A2 h6
    refine RW.cutq (σ:=Int) (fun y4=>[(0,A5 x0),(1,.j x1),(5,.j s1.1),(6,.j s1.2),(8,.j y4)]) (fun y4=>[]) (fun y=>y4=y) gg ?_ ?_
    ·refine RW.blk ?_;refine RW.sreg ?_
     refine rl.gen rfl rfl fun b hb=>?_
     cases b
     ·have h8:=A4 ey4 hb;refine rl.f 1 rfl (RW.cond_f rfl (RW.seq (RW.sreg ?_)))
      refine rl.gen rfl rfl fun b hb=>?_
      cases b
      ·have h9:=A4 h8 hb;refine rl.f 1 rfl (RW.cond_f rfl (RW.reg ?_))
       refine rl.gen rfl rfl fun b hb=>?_
       cases b
       ·have h10:=A4 h9 hb;refine rl.f 1 rfl (RW.cond_f rfl (RW.skip ?_));cases h10
        exact ⟨_,rfl,(Gh.y0 [])⟩
       ·have h11:=A3 h9 hb;refine rl.f 1 rfl (RW.cond_t rfl (RW.reg (rl.f 4 rfl ?_)));cases h11
        exact ⟨_,rfl,(Gh.y0 [])⟩
      ·have h12:=A3 h8 hb;refine rl.f 1 rfl (RW.cond_t rfl (RW.skip (RW.cond_t rfl (RW.reg (rl.f 4 rfl ?_)))));cases h12
       exact ⟨_,rfl,(Gh.y0 [])⟩
     ·have h13:=A3 ey4 hb;refine rl.f 1 rfl (RW.cond_t rfl (RW.reg (rl.f 3 rfl ?_)));cases h13
      exact ⟨_,rfl,(Gh.y0 [])⟩
    ·intro y hC
     subst hC;refine RW.sr 2 rfl ?_
     refine rl.gen rfl rfl fun b hb=>?_
     cases b
     ·have h14:=A4 h7 hb;refine rl.done (RW.cond_f rfl (RW.skip (RW.reg (rl.f 3 rfl ?_))));cases h14
      exact hB1 _ rfl _ _ (Gh.y0 [])
     ·have h15:=A3 h7 hb;refine rl.done (RW.cond_t rfl (RW.reg (rl.f 2 rfl (RW.reg (rl.f 3 rfl ?_)))));cases h15
      exact hB1 _ rfl _ _ (Gh.y0 [])
   ·have h16:=A3 h5 hb;refine rl.done ?_;refine RW.ka [0,1,5,6,7,23] [(0,A5 x0),(1,.j x1),(5,.j s1.1),(6,.j s1.2),(7,.ptr 0 0),(23,.bool true)] rfl ?_;refine RW.cond_t rfl (RW.exit (B7 (RW.reg (rl.f 3 rfl ?_))));cases h16
    exact hB1 _ rfl _ _ (Gh.y0 [])
 ·intro y2 hC
  subst hC;refine RW.sf 2 rfl (RW.ret ?_);cases h2
  exact RRet.y
set_option maxHeartbeats 2000000 in
theorem Ha {x0:List TItem} {x1:Int} {r:List TMail} (hF:U2 x0 x1=some r):A8 Try.prog 83 [A5 x0,.j x1] (.lst true 3 (fl (J3 true) r) r.length):=by
 refine A8.q Kf ?_;unfold U2 at hF;refine RW.sf 1 rfl (RW.sf 2 rfl (RW.seq (RW.sf 1 rfl ?_)));refine RW.gh (Gh.nil_t 5 1 rfl) ?_;obtain ⟨y7,ey7,h2⟩:=A2 hF
 refine RW.cutq (σ:=(List Int)) (fun y2=>[(0,A5 x0),(1,.j x1),(5,.sl 0 0 y2.length)]) (fun y2=>[some ⟨fl (encI true) y2,1⟩]) (fun y=>y7=y) gg ?_ ?_
 ·refine RW.blk ?_
  refine RW.iter (σ:=Int×(List Int)) ey7 (fun s1=>[(0,A5 x0),(1,.j x1),(5,.sl 0 0 s1.2.length),(6,.j s1.1)]) (fun s1=>[some ⟨fl (encI true) s1.2,1⟩]) (Gh.y0 [0]) (fun s1 B o hS1 hB1 hE1=>?_)
  unfold V4 at hS1;refine RW.seq (RW.sr 3 rfl ?_)
  refine rl.gen rfl rfl fun b hb=>?_
  cases b
  ·have h3:=A4 hS1 hb;refine rl.done (RW.cond_f rfl (RW.exit (B7 ?_)));cases h3
   exact ⟨_,(hE1 _ rfl).symm,(Gh.y0 [0])⟩
  ·have h4:=A3 hS1 hb;refine rl.done (RW.cond_t rfl (RW.skip (RW.seq (RW.blk (RW.sr 2 rfl ?_)))));obtain ⟨v3,e3,h5⟩:=A2 h4;refine rl.op (B4 (enc:=A1) (o:=false) rfl rfl rfl e3) ?_;refine rl.run 1 rfl ?_;refine rl.op (C5 (off':=1) (vs:=(A7 false v3.Rec)) B3 rfl e3 rfl rfl rfl) ?_;refine rl.f 2 rfl (RW.sr 4 rfl ?_);obtain ⟨v4,e4,h6⟩:=A2 h5;refine rl.call rfl rfl rfl (A6.y (r':=.tup [.agg (A1 false v4.1),.bool v4.2]) (F7 e4) ?_);refine rl.f 6 rfl ?_;refine RW.ka [0,1,5,6,7,9] [(0,A5 x0),(1,.j x1),(5,.sl 0 0 s1.2.length),(6,.j s1.1),(7,.ptr 1 0),(9,.bool v4.2)] rfl ?_;refine RW.seq ?_;obtain ⟨y5,ey5,h7⟩:=A2 h6
   refine RW.cutq (σ:=Bool) (fun y5=>[(0,A5 x0),(1,.j x1),(5,.sl 0 0 s1.2.length),(6,.j s1.1),(7,.ptr 1 0),(49,.bool y5)]) (fun y5=>[some ⟨fl (encI true) s1.2,1⟩,some ⟨A7 false v3.Rec,0⟩]) (fun y=>y5=y) gg ?_ ?_
   ·refine RW.reg ?_;refine rl.run 2 rfl ?_
    refine rl.gen rfl rfl fun b hb=>?_
    cases b
    ·have h8:=A4 ey5 hb;refine rl.f 10 rfl ?_;cases h8
     exact ⟨_,rfl,(Gh.y0 [0,1])⟩
    ·have h9:=A3 ey5 hb;refine rl.run 4 rfl ?_
     refine rl.gen rfl rfl fun b hb=>?_
     cases b
     ·have h10:=A4 h9 hb;refine rl.f 5 rfl ?_;cases h10
      exact ⟨_,rfl,(Gh.y0 [0,1])⟩
     ·have h11:=A3 h9 hb;refine rl.f 5 rfl ?_;cases h11
      exact ⟨_,rfl,(Gh.y0 [0,1])⟩
   ·intro y hC
    subst hC
    cases hb:y5
    ·have h12:=A4 h7 hb;refine RW.cond_f rfl (RW.skip (RW.reg (rl.f 3 rfl ?_)));cases h12
     exact hB1 _ rfl _ _ (Gh.y0 [0])
    ·have h13:=A3 h7 hb;refine RW.cond_t rfl (RW.reg (rl.run 3 rfl ?_));obtain ⟨v6,e6,h14⟩:=A2 h13;refine rl.call rfl rfl rfl (A6.z (r':=.sl 2 0 v6.length) (H':=[some ⟨fl (encI true) s1.2,1⟩,some ⟨A7 false v3.Rec,0⟩,some ⟨fl (encI true) v6,1⟩]) (Bv e6) ?_);refine rl.f 1 rfl (RW.reg (rl.f 3 rfl ?_));cases h14
     exact hB1 _ rfl _ _ (Gh.y0 [2])
 ·intro y2 hC
  subst hC;refine RW.sf 2 rfl (RW.seq (RW.sf 1 rfl ?_));refine RW.gh (Gh.nil_t 10 3 rfl) ?_;obtain ⟨y17,ey17,h16⟩:=A2 h2
  refine RW.cutq (σ:=(List TMail)) (fun y9=>[(10,.sl 0 0 y9.length)]) (fun y9=>[some ⟨fl (J3 true) y9,3⟩]) (fun y=>y17=y) gg ?_ ?_
  ·refine RW.blk ?_
   refine RW.iter (σ:=Int×(List TMail)) ey17 (fun s8=>[(0,A5 x0),(1,.j x1),(5,.sl 0 0 y7.length),(10,.sl 1 0 s8.2.length),(11,.j s8.1)]) (fun s8=>[some ⟨fl (encI true) y7,1⟩,some ⟨fl (J3 true) s8.2,3⟩]) (Gh.y0 [0,1]) (fun s8 B o hS15 hB15 hE15=>?_)
   unfold L2 at hS15;refine RW.seq (RW.sr 3 rfl ?_)
   refine rl.gen rfl rfl fun b hb=>?_
   cases b
   ·have h17:=A4 hS15 hb;refine rl.done (RW.cond_f rfl (RW.exit (B7 ?_)));cases h17
    exact ⟨_,(hE15 _ rfl).symm,(Gh.y0 [1])⟩
   ·have h18:=A3 hS15 hb;refine rl.done (RW.cond_t rfl (RW.skip (RW.seq (RW.blk (RW.sr 4 rfl ?_)))));obtain ⟨v10,e10,h19⟩:=A2 h18;refine rl.op (M3 rfl rfl rfl rfl e10) ?_;refine rl.op (V6 (o:=true) (off':=0) ekI rfl rfl e10 rfl rfl rfl) ?_;obtain ⟨v11,e11,h20⟩:=A2 h19;refine rl.call rfl rfl rfl (A6.y (r':=.tup [.agg (A1 false v11.1),.bool v11.2]) (F7 e11) ?_);refine rl.f 6 rfl ?_;refine RW.ka [0,1,5,10,11,12] [(0,A5 x0),(1,.j x1),(5,.sl 0 0 y7.length),(10,.sl 1 0 s8.2.length),(11,.j s8.1),(12,.ptr 2 0)] rfl ?_;refine RW.sdrw (A0.op rfl rfl (A0.op rfl rfl ?_));obtain ⟨v12,e12,h21⟩:=A2 h20;refine A0.op rfl (M3 rfl rfl rfl rfl e12) ?_;refine A0.op rfl (V6 (o:=true) (off':=0) ekI rfl rfl e12 rfl rfl rfl) ?_;refine A0.op rfl rfl (A0.op rfl rfl (A0.op rfl rfl (A0.op rfl rfl (A0.op rfl rfl (A0.op rfl rfl (A0.op rfl rfl ?_))))));refine A0.chnB rfl rfl (.here (.rx rfl) (.here (.rx rfl) (.here (.rx rfl) (.here (.rx rfl) (.here (.rx rfl) (.here (.rx rfl) (.here (.rx rfl) (.here (.rx (V6 (o:=true) (off':=0) ekI rfl rfl e12 rfl rfl rfl)) (.here (.rx (M3 rfl rfl rfl rfl e12)) (.here (.rx rfl) (.here (.rx rfl) .nil))))))))))) ?_;refine A0.chn rfl rfl ?_;refine A0.done ?_;refine RW.ka [0,1,5,10,11,14] [(0,A5 x0),(1,.j x1),(5,.sl 0 0 y7.length),(10,.sl 1 0 s8.2.length),(11,.j s8.1),(14,.ptr 3 0)] rfl ?_;refine RW.sr 4 rfl ?_;obtain ⟨v13,e13,h22⟩:=A2 h21;refine rl.op (M3 rfl rfl rfl rfl e13) ?_;refine rl.op (V6 (o:=true) (off':=0) ekI rfl rfl e13 rfl rfl rfl) ?_;obtain ⟨v14,e14,h23⟩:=A2 h22;refine rl.call rfl rfl rfl (A6.y (r':=.tup [.agg (A1 false v14.1),.bool v14.2]) (F7 e14) ?_);refine rl.f 6 rfl (RW.seq (RW.sf 1 rfl ?_));refine RW.ka [0,1,5,10,11,14,15,92] [(0,A5 x0),(1,.j x1),(5,.sl 0 0 y7.length),(10,.sl 1 0 s8.2.length),(11,.j s8.1),(14,.ptr 3 0),(15,.ptr 4 0),(92,.bool v14.2)] rfl ?_;obtain ⟨y15,ey15,h24⟩:=A2 h23
    refine RW.cutq (σ:=Int) (fun y15=>[(0,A5 x0),(1,.j x1),(5,.sl 0 0 y7.length),(10,.sl 1 0 s8.2.length),(11,.j s8.1),(14,.ptr 2 0)]) (fun y15=>[some ⟨fl (encI true) y7,1⟩,some ⟨fl (J3 true) s8.2,3⟩,some ⟨[.j v12,.j y15,.str v11.1.Rec.Text],0⟩]) (fun y=>y15=y) gg ?_ ?_
    ·cases hb:v14.2
     ·have h25:=A4 ey15 hb;refine RW.cond_f rfl (RW.skip ?_);cases h25
      exact ⟨_,rfl,(Gh.y0 [0,1,3])⟩
     ·have h26:=A3 ey15 hb;refine RW.cond_t rfl (RW.reg (rl.f 5 rfl ?_));cases h26
      exact ⟨_,rfl,(Gh.y0 [0,1,3])⟩
    ·intro y hC
     subst hC;refine RW.reg (rl.run 3 rfl ?_);obtain ⟨v16,e16,h27⟩:=A2 h24;refine rl.op (R8 rfl rfl (G0 (l:=s8.2) (m:=[({ Uid:=v12,Flags:=y15,Text:=v11.1.Rec.Text }:TMail)]) (o:=true) Y2 rfl rfl (D2 (m:=[({ Uid:=v12,Flags:=y15,Text:=v11.1.Rec.Text }:TMail)]) (o:=true) Ei rfl rfl) rfl (Ei.fst _ _) e16)) ?_;refine rl.f 1 rfl (RW.reg (rl.f 3 rfl ?_));cases h27
     exact hB15 _ rfl _ _ (Gh.y0 [0,4])
  ·intro y9 hC
   subst hC;refine RW.sf 2 rfl (RW.ret ?_);cases h16
   exact RRet.y
set_option maxHeartbeats 2000000 in
theorem Ch {x0:List TItem} {r:TState} (hF:P7 x0=some r):A8 Try.prog 29 [A5 x0] (.agg (W1 true r)):=by
 refine A8.q Ls ?_;unfold P7 at hF;refine RW.sf 1 rfl (RW.sf 3 rfl (RW.seq (RW.sr 1 rfl ?_)));obtain ⟨v1,e1,h1⟩:=A2 hF;refine rl.call rfl rfl rfl (A6.y (r':=.bool v1) (Am e1) ?_)
 cases hb:v1
 ·have h2:=A4 h1 hb;refine rl.f 1 rfl (RW.cond_t rfl (RW.sf 2 rfl (RW.ret ?_)));cases h2
  exact RRet.y
 ·have h3:=A3 h1 hb;refine rl.f 1 rfl (RW.cond_f rfl (RW.skip (RW.sf 2 rfl (RW.seq (RW.sf 1 rfl ?_)))));refine RW.gh (Gh.nil_t 4 1 rfl) ?_;obtain ⟨y7,ey7,h5⟩:=A2 h3
  refine RW.cutq (σ:=(List Int)) (fun y3=>[(0,A5 x0),(2,.ptr 0 0),(3,.ptr 1 0),(4,.sl 2 0 y3.length)]) (fun y3=>[some ⟨[.nils],0⟩,some ⟨[.nils],0⟩,some ⟨fl (encI true) y3,1⟩]) (fun y=>y7=y) gg ?_ ?_
  ·refine RW.blk ?_
   refine RW.iter (σ:=Int×(List Int)) ey7 (fun s2=>[(0,A5 x0),(2,.ptr 0 0),(3,.ptr 1 0),(4,.sl 2 0 s2.2.length),(5,.j s2.1)]) (fun s2=>[some ⟨[.nils],0⟩,some ⟨[.nils],0⟩,some ⟨fl (encI true) s2.2,1⟩]) (Gh.y0 [0,1,2]) (fun s2 B o hS4 hB4 hE4=>?_)
   unfold X5 at hS4;refine RW.seq (RW.sr 3 rfl ?_)
   refine rl.gen rfl rfl fun b hb=>?_
   cases b
   ·have h6:=A4 hS4 hb;refine rl.done (RW.cond_f rfl (RW.exit (B7 ?_)));cases h6
    exact ⟨_,(hE4 _ rfl).symm,(Gh.y0 [0,1,2])⟩
   ·have h7:=A3 hS4 hb;refine rl.done (RW.cond_t rfl (RW.skip (RW.seq (RW.blk (RW.sr 2 rfl ?_)))));obtain ⟨v4,e4,h8⟩:=A2 h7;refine rl.op (B4 (enc:=A1) (o:=false) rfl rfl rfl e4) ?_;refine rl.run 1 rfl ?_;refine rl.op (C5 (off':=1) (vs:=(A7 false v4.Rec)) B3 rfl e4 rfl rfl rfl) ?_;refine rl.f 2 rfl (RW.sr 3 rfl ?_);obtain ⟨v5,e5,h9⟩:=A2 h8;refine rl.call rfl rfl rfl (A6.y (r':=.tup [.agg (A1 false v5.1),.bool v5.2]) (F7 e5) ?_);refine rl.f 6 rfl ?_;refine RW.ka [0,2,3,4,5,6,8] [(0,A5 x0),(2,.ptr 0 0),(3,.ptr 1 0),(4,.sl 2 0 s2.2.length),(5,.j s2.1),(6,.ptr 3 0),(8,.bool v5.2)] rfl ?_;refine RW.sr 2 rfl ?_
    refine rl.gen rfl rfl fun b hb=>?_
    cases b
    ·have h10:=A4 h9 hb;refine rl.f 4 rfl (RW.cond_f rfl (RW.skip (RW.reg (rl.f 3 rfl ?_))));cases h10
     exact hB4 _ rfl _ _ (Gh.y0 [0,1,2])
    ·have h11:=A3 h9 hb;refine rl.f 4 rfl ?_
     cases hb:(!v5.2)
     ·have h12:=A4 h11 hb;refine RW.cond_f rfl (RW.skip (RW.reg (rl.f 3 rfl ?_)));cases h12
      exact hB4 _ rfl _ _ (Gh.y0 [0,1,2])
     ·have h13:=A3 h11 hb;refine RW.cond_t rfl (RW.reg (rl.run 3 rfl ?_));obtain ⟨v6,e6,h14⟩:=A2 h13;refine rl.call rfl rfl rfl (A6.z (r':=.sl 5 0 v6.length) (H':=[some ⟨[.nils],0⟩,some ⟨[.nils],0⟩,some ⟨fl (encI true) s2.2,1⟩,some ⟨A7 false v4.Rec,0⟩,some ⟨A1 false v5.1,0⟩,some ⟨fl (encI true) v6,1⟩]) (Bv e6) ?_);refine rl.f 1 rfl (RW.reg (rl.f 3 rfl ?_));cases h14
      exact hB4 _ rfl _ _ (Gh.y0 [0,1,5])
  ·intro y3 hC
   subst hC;refine RW.seq (RW.sf 1 rfl ?_);refine RW.gh (Gh.nil_c 1 0 5 rfl rfl) ?_;obtain ⟨y18,ey18,h16⟩:=A2 h5
   refine RW.cutq (σ:=(List TBox)) (fun y9=>[(2,.ptr 0 0),(3,.ptr 1 0)]) (fun y9=>[some ⟨[.nils],0⟩,some ⟨[.sl 2 0 y9.length],0⟩,some ⟨fl (C4 true) y9,5⟩]) (fun y=>y18=y) gg ?_ ?_
   ·refine RW.blk ?_
    refine RW.iter (σ:=Int×(List TBox)) ey18 (fun s8=>[(0,A5 x0),(2,.ptr 0 0),(3,.ptr 1 0),(4,.sl 2 0 y7.length),(9,.j s8.1)]) (fun s8=>[some ⟨[.nils],0⟩,some ⟨[.sl 3 0 s8.2.length],0⟩,some ⟨fl (encI true) y7,1⟩,some ⟨fl (C4 true) s8.2,5⟩]) (Gh.y0 [0,1,2,3]) (fun s8 B o hS15 hB15 hE15=>?_)
    unfold Q7 at hS15;refine RW.seq (RW.sr 3 rfl ?_)
    refine rl.gen rfl rfl fun b hb=>?_
    cases b
    ·have h17:=A4 hS15 hb;refine rl.done (RW.cond_f rfl (RW.exit (B7 ?_)));cases h17
     exact ⟨_,(hE15 _ rfl).symm,(Gh.y0 [0,1,3])⟩
    ·have h18:=A3 hS15 hb;refine rl.done (RW.cond_t rfl (RW.skip (RW.seq (RW.blk (RW.sr 3 rfl ?_)))));obtain ⟨v10,e10,h19⟩:=A2 h18;refine rl.op (M3 rfl rfl rfl rfl e10) ?_;refine rl.op (V6 (o:=true) (off':=0) ekI rfl rfl e10 rfl rfl rfl) ?_;obtain ⟨v11,e11,h20⟩:=A2 h19;refine rl.call rfl rfl rfl (A6.y (r':=.agg (A1 false v11)) (Hy e11) ?_);refine rl.f 2 rfl (RW.drw (A0.op rfl rfl (A0.op rfl rfl (A0.op rfl rfl (A0.op rfl rfl ?_)))));obtain ⟨v12,e12,h21⟩:=A2 h20;refine A0.op rfl (M3 rfl rfl rfl rfl e12) ?_;refine A0.op rfl (V6 (o:=true) (off':=0) ekI rfl rfl e12 rfl rfl rfl) ?_;refine A0.op rfl rfl (A0.op rfl rfl (A0.op rfl rfl (A0.op rfl rfl (A0.op rfl rfl (A0.op rfl rfl (A0.op rfl rfl (A0.op rfl rfl (A0.op rfl rfl ?_))))))));obtain ⟨v13,e13,h22⟩:=A2 h21;refine A0.op rfl (M3 rfl rfl rfl rfl e13) ?_;refine A0.op rfl (V6 (o:=true) (off':=0) ekI rfl rfl e13 rfl rfl rfl) ?_;obtain ⟨v14,e14,h23⟩:=A2 h22;refine A0.call rfl rfl rfl (A6.y (r':=.j v14) (Ja e14) ⟨rfl,?_⟩);refine A0.op rfl rfl (A0.op rfl rfl (A0.op rfl rfl ?_));obtain ⟨v15,e15,h24⟩:=A2 h23;refine A0.op rfl (M3 rfl rfl rfl rfl e15) ?_;refine A0.op rfl (V6 (o:=true) (off':=0) ekI rfl rfl e15 rfl rfl rfl) ?_;obtain ⟨v16,e16,h25⟩:=A2 h24;refine A0.ccallB rfl rfl rfl (A6.z (r':=.sl 5 0 v16.length) (H':=[some ⟨[.nils],0⟩,some ⟨[.sl 3 0 s8.2.length],0⟩,some ⟨fl (encI true) y7,1⟩,some ⟨fl (C4 true) s8.2,5⟩,some ⟨A1 false v11,0⟩,some ⟨fl (J3 true) v16,3⟩]) (Ha e16) ⟨(.skip rfl (.skip rfl (.skip rfl (.skip rfl (.skip rfl (.skip rfl (.skip rfl (.skip rfl (.skip rfl (.skip rfl (.skip rfl (.here (.rx rfl) (.here (.rx rfl) (.here (.rx rfl) (.here (.rx rfl) (.here (.rx rfl) (.here (.rx rfl) (.here (.rx (V6 (o:=true) (off':=0) ekI rfl rfl e12 rfl rfl rfl)) (.here (.rx (M3 rfl rfl rfl rfl e12)) (.here (.rx rfl) (.here (.rx rfl) (.here (.rx rfl) (.here (.rx rfl) .nil))))))))))))))))))))))),?_⟩);refine A0.op rfl rfl ?_;refine A0.chnB rfl rfl (.skip rfl (.skip rfl (.skip rfl (.skip rfl (.skip rfl (.skip rfl (.skip rfl (.skip rfl (.skip rfl (.skip rfl (.skip rfl (.skip rfl (.skip rfl (.skip rfl (.skip rfl (.skip rfl (.skip rfl (.skip rfl (.skip rfl (.skip rfl (.skip rfl (.skip rfl (.here (.rx rfl) (.here (.rx rfl) .nil)))))))))))))))))))))))) ?_
     obtain ⟨v17,e17,h26⟩:=A2 h25;refine A0.chn rfl (R8 rfl rfl (Rz Y4 rfl rfl (Qf rfl rfl rfl) e17)) ?_;refine A0.op rfl rfl ?_;refine A0.chn rfl rfl ?_;refine A0.done ?_
     refine RW.gh (Gh.absorb_rawq (b:=7) (j:=4) (m:=5) rfl rfl rfl (by decide) (by decide) rfl (Y2.flen true _) (Y2.fown _)) ?_
     refine RW.gh (Gh.blk (b:=7) rfl (Uz (enc:=C4) e17 rfl)) ?_;refine RW.reg (rl.f 3 rfl ?_);cases h26
     exact hB15 _ rfl _ _ (Gh.y0 [0,1,2,7])
   ·intro y9 hC
    subst hC;refine RW.sf 2 rfl (RW.ret ?_);cases h16
    exact RRet.y
theorem Cr {x0:List TItem} {x1:List Bool} {r:List TItem} (hF:R2 x0 x1=some r):A8 Try.prog 45 [A5 x0,L_O x1] (.lst true 9 (fl (A1 true) r) r.length):=by
 refine A8.q Lb ?_;unfold R2 at hF;refine RW.sf 1 rfl (RW.sf 2 rfl (RW.seq (RW.sf 1 rfl ?_)));refine RW.gh (Gh.nil_t 5 9 rfl) ?_;obtain ⟨y8,ey8,h2⟩:=A2 hF
 refine RW.cutq (σ:=(List TItem)) (fun y2=>[(5,.sl 0 0 y2.length)]) (fun y2=>[some ⟨fl (A1 true) y2,9⟩]) (fun y=>y8=y) gg ?_ ?_
 ·refine RW.blk ?_
  refine RW.iter (σ:=Int×(List TItem)) ey8 (fun s1=>[(0,A5 x0),(1,L_O x1),(5,.sl 0 0 s1.2.length),(6,.j s1.1)]) (fun s1=>[some ⟨fl (A1 true) s1.2,9⟩]) (Gh.y0 [0]) (fun s1 B o hS1 hB1 hE1=>?_)
  unfold R1 at hS1;refine RW.seq (RW.sr 3 rfl ?_)
  refine rl.gen rfl rfl fun b hb=>?_
  cases b
  ·have h3:=A4 hS1 hb;refine rl.done (RW.cond_f rfl (RW.exit (B7 ?_)));cases h3
   exact ⟨_,(hE1 _ rfl).symm,(Gh.y0 [0])⟩
  ·have h4:=A3 hS1 hb;refine rl.done (RW.cond_t rfl (RW.skip (RW.seq (RW.blk (RW.sr 3 rfl ?_)))))
   refine rl.gen rfl rfl fun b hb=>?_
   cases b
   ·have h5:=A4 h4 hb;refine rl.run 3 rfl ?_;obtain ⟨v3,e3,h6⟩:=A2 h5;refine rl.gop rfl (B4 (enc:=encO) (o:=false) rfl rfl rfl e3) ?_;refine rl.gop rfl (G3 (off':=0) ekO rfl e3 rfl rfl rfl) ?_;refine rl.f 2 rfl ?_
    cases hb:(!v3)
    ·have h7:=A4 h6 hb;refine RW.cond_f rfl (RW.skip (RW.reg (rl.f 3 rfl ?_)));cases h7
     exact hB1 _ rfl _ _ (Gh.y0 [0])
    ·have h8:=A3 h6 hb;refine RW.cond_t rfl (RW.reg (rl.run 3 rfl ?_));obtain ⟨v4,e4,h9⟩:=A2 h8;refine rl.op (B4 (enc:=A1) (o:=false) rfl rfl rfl e4) ?_;refine rl.op (C5 (off':=0) (vs:=(A1 false v4)) B3 rfl e4 rfl rfl rfl) ?_;refine rl.run 1 rfl ?_;obtain ⟨v5,e5,h10⟩:=A2 h9;refine rl.op (R8 rfl rfl (G0 (l:=s1.2) (m:=[v4]) (o:=true) B3 rfl rfl (D2 (m:=[v4]) (o:=true) F5 rfl rfl) rfl (F5.fst _ _) e5)) ?_;refine rl.f 1 rfl (RW.reg (rl.f 3 rfl ?_));cases h10
     exact hB1 _ rfl _ _ (Gh.y0 [2])
   ·have h11:=A3 h4 hb;refine rl.f 7 rfl ?_;refine RW.ka [0,1,5,6,24] [(0,A5 x0),(1,L_O x1),(5,.sl 0 0 s1.2.length),(6,.j s1.1),(24,.bool true)] rfl ?_;refine RW.cond_t rfl (RW.reg (rl.run 3 rfl ?_));obtain ⟨v6,e6,h12⟩:=A2 h11;refine rl.op (B4 (enc:=A1) (o:=false) rfl rfl rfl e6) ?_;refine rl.op (C5 (off':=0) (vs:=(A1 false v6)) B3 rfl e6 rfl rfl rfl) ?_;refine rl.run 1 rfl ?_;obtain ⟨v7,e7,h13⟩:=A2 h12;refine rl.op (R8 rfl rfl (G0 (l:=s1.2) (m:=[v6]) (o:=true) B3 rfl rfl (D2 (m:=[v6]) (o:=true) F5 rfl rfl) rfl (F5.fst _ _) e7)) ?_;refine rl.f 1 rfl (RW.reg (rl.f 3 rfl ?_));cases h13
    exact hB1 _ rfl _ _ (Gh.y0 [2])
 ·intro y2 hC
  subst hC;refine RW.sf 2 rfl (RW.ret ?_);cases h2
  exact RRet.y
set_option maxHeartbeats 2000000 in
theorem Jj {x0:List TItem} {x1:List Bool} {r:List TRec} (hF:W3 x0 x1=some r):A8 Try.prog 44 [A5 x0,L_O x1] (.lst true 8 (fl (A7 true) r) r.length):=by
 refine A8.q Lo ?_;unfold W3 at hF;refine RW.sf 1 rfl (RW.sf 2 rfl (RW.sr 1 rfl ?_));obtain ⟨v1,e1,h1⟩:=A2 hF;refine rl.call rfl rfl rfl (A6.y (r':=.agg (W1 false v1)) (Ch e1) ?_);refine rl.f 2 rfl (RW.sr 2 rfl ?_);obtain ⟨v2,e2,h2⟩:=A2 h1;refine rl.call rfl rfl rfl (A6.y (r':=A5 v2) (Cr e2) ?_);obtain ⟨v3,e3,h3⟩:=A2 h2;refine rl.call rfl rfl rfl (A6.y (r':=.agg (W1 false v3)) (Ch e3) ?_);refine rl.f 2 rfl (RW.seq (RW.sf 1 rfl ?_));refine RW.gh (Gh.nil_t 5 8 rfl) ?_;obtain ⟨y13,ey13,h5⟩:=A2 h3
 refine RW.cutq (σ:=(List TRec)) (fun y5=>[(5,.sl 0 0 y5.length)]) (fun y5=>[some ⟨fl (A7 true) y5,8⟩]) (fun y=>y13=y) gg ?_ ?_
 ·refine RW.blk ?_
  refine RW.iter (σ:=Int×(List TRec)) ey13 (fun s4=>[(5,.sl 0 0 s4.2.length),(6,.ptr 1 0),(7,.ptr 2 0),(8,.j s4.1)]) (fun s4=>[some ⟨fl (A7 true) s4.2,8⟩,some ⟨[Bd v1.Boxes],0⟩,some ⟨[Bd v3.Boxes],0⟩]) (Gh.y0 [2,0,1]) (fun s4 B o hS4 hB4 hE4=>?_)
  unfold X4 at hS4;refine RW.seq (RW.sr 4 rfl ?_)
  refine rl.gen rfl rfl fun b hb=>?_
  cases b
  ·have h6:=A4 hS4 hb;refine rl.done (RW.cond_f rfl (RW.exit (B7 ?_)));cases h6
   exact ⟨_,(hE4 _ rfl).symm,(Gh.y0 [0])⟩
  ·have h7:=A3 hS4 hb;refine rl.done (RW.cond_t rfl (RW.skip (RW.seq (RW.blk (RW.sr 3 rfl ?_)))));obtain ⟨v6,e6,h8⟩:=A2 h7;refine rl.op (B4 (enc:=C4) (o:=false) rfl rfl rfl e6) ?_;refine rl.op (C5 (off':=0) (vs:=(C4 false v6)) Y4 rfl e6 rfl rfl rfl) ?_;refine rl.f 2 rfl (RW.sf 1 rfl (RW.seq (RW.sf 1 rfl ?_)));obtain ⟨y11,ey11,h10⟩:=A2 h8
   refine RW.cutq (σ:=Bool) (fun y8=>[(5,.sl 0 0 s4.2.length),(6,.ptr 1 0),(7,.ptr 2 0),(8,.j s4.1),(9,.ptr 3 0),(10,.bool y8)]) (fun y8=>[some ⟨fl (A7 true) s4.2,8⟩,some ⟨[Bd v1.Boxes],0⟩,some ⟨[Bd v3.Boxes],0⟩,some ⟨C4 false v6,0⟩]) (fun y=>y11=y) gg ?_ ?_
   ·refine RW.blk ?_
    refine RW.iter (σ:=Bool×Int) ey11 (fun s7=>[(5,.sl 0 0 s4.2.length),(6,.ptr 1 0),(7,.ptr 2 0),(8,.j s4.1),(9,.ptr 3 0),(10,.bool s7.1),(11,.j s7.2)]) (fun s7=>[some ⟨fl (A7 true) s4.2,8⟩,some ⟨[Bd v1.Boxes],0⟩,some ⟨[Bd v3.Boxes],0⟩,some ⟨C4 false v6,0⟩]) (Gh.y0 [0,1,2,3]) (fun s7 B o hS9 hB9 hE9=>?_)
    unfold K1 at hS9;refine RW.seq (RW.sr 4 rfl ?_)
    refine rl.gen rfl rfl fun b hb=>?_
    cases b
    ·have h11:=A4 hS9 hb;refine rl.done (RW.cond_f rfl (RW.exit (B7 ?_)));cases h11
     exact ⟨_,(hE9 _ rfl).symm,(Gh.y0 [0,1,2,3])⟩
    ·have h12:=A3 hS9 hb;refine rl.done (RW.cond_t rfl (RW.skip (RW.seq (RW.blk (RW.drw (A0.op rfl rfl (A0.op rfl rfl ?_)))))))
     cases hb:s7.1
     ·have h13:=A4 h12 hb;refine A0.op rfl rfl (A0.op rfl rfl (A0.op rfl rfl ?_));obtain ⟨v9,e9,h14⟩:=A2 h13;refine A0.op rfl (B4 (enc:=C4) (o:=false) rfl rfl rfl e9) ?_;refine A0.op rfl rfl ?_;refine A0.op rfl (G3 (off':=0) Y4 rfl e9 rfl rfl rfl) ?_;refine A0.op rfl rfl (A0.op rfl rfl ?_)
      refine A0.gen rfl rfl fun b hb=>?_
      cases b
      ·have h15:=A4 h14 hb;refine A0.op rfl rfl (A0.off rfl (A0.off rfl (A0.off rfl (A0.off rfl (A0.off rfl (A0.off rfl (A0.off rfl (A0.off rfl (A0.off rfl (A0.op rfl rfl (A0.op rfl rfl ?_)))))))))));refine A0.op rfl rfl (A0.done (RW.reg (rl.f 3 rfl ?_)));cases h15
       exact hB9 _ rfl _ _ (Gh.y0 [0,1,2,3])
      ·have h16:=A3 h14 hb;refine A0.op rfl rfl (A0.op rfl rfl (A0.op rfl rfl (A0.op rfl rfl ?_)));obtain ⟨v10,e10,h17⟩:=A2 h16;refine A0.op rfl (B4 (enc:=C4) (o:=false) rfl rfl rfl e10) ?_;refine A0.op rfl rfl ?_;refine A0.op rfl (G3 (off':=3) Y4 rfl e10 rfl rfl rfl) ?_;refine A0.op rfl rfl (A0.op rfl rfl ?_)
       refine A0.gen rfl rfl fun b hb=>?_
       cases b
       ·have h18:=A4 h17 hb;refine A0.op rfl rfl (A0.op rfl rfl (A0.op rfl rfl (A0.done (RW.reg (rl.f 3 rfl ?_)))));cases h18
        exact hB9 _ rfl _ _ (Gh.y0 [0,1,2,3])
       ·have h19:=A3 h17 hb;refine A0.op rfl rfl (A0.op rfl rfl (A0.op rfl rfl (A0.done (RW.reg (rl.f 3 rfl ?_)))));cases h19
        exact hB9 _ rfl _ _ (Gh.y0 [0,1,2,3])
     ·have h20:=A3 h12 hb;refine A0.off rfl (A0.off rfl (A0.off rfl (A0.off rfl (A0.off rfl (A0.off rfl (A0.off rfl (A0.off rfl (A0.off rfl (A0.off rfl (A0.off rfl (A0.off rfl ?_)))))))))));refine A0.off rfl (A0.off rfl (A0.off rfl (A0.off rfl (A0.off rfl (A0.off rfl (A0.off rfl (A0.off rfl (A0.op rfl rfl (A0.op rfl rfl (A0.done (RW.reg ?_)))))))))));refine rl.f 3 rfl ?_;cases h20
      exact hB9 _ rfl _ _ (Gh.y0 [0,1,2,3])
   ·intro y8 hC
    subst hC;refine RW.seq (RW.sf 1 rfl ?_)
    cases hb:y11
    ·have h21:=A4 h10 hb;refine RW.cond_f rfl (RW.skip (RW.reg (rl.run 11 rfl ?_)));obtain ⟨v12,e12,h22⟩:=A2 h21;refine rl.op (R8 rfl rfl (G0 (l:=s4.2) (m:=[({ Kind:=1,Valid:=v6.Valid,Uid:=0,Next:=v6.Next,Flags:=0,User:=v6.User,Name:=v6.Name,Text:=[] }:TRec)]) (o:=true) Gp rfl rfl (D2 (m:=[({ Kind:=1,Valid:=v6.Valid,Uid:=0,Next:=v6.Next,Flags:=0,User:=v6.User,Name:=v6.Name,Text:=[] }:TRec)]) (o:=true) Gr rfl rfl) rfl (Gr.fst _ _) e12)) ?_;refine rl.f 1 rfl (RW.reg (rl.f 3 rfl ?_));cases h22
     exact hB4 _ rfl _ _ (Gh.y0 [5,1,2])
    ·have h23:=A3 h10 hb;refine RW.cond_t rfl (RW.exit (B7 (RW.reg (rl.f 3 rfl ?_))));cases h23
     exact hB4 _ rfl _ _ (Gh.y0 [0,1,2])
 ·intro y5 hC
  subst hC;refine RW.sf 2 rfl (RW.ret ?_);cases h5
  exact RRet.y
theorem Re {x0:List Int} {r:Bool} (hF:Y8 x0=some r):A8 Try.prog 8 [L_B x0] (.bool r):=by
 refine A8.q Ux ?_;unfold Y8 at hF;refine RW.sf 1 rfl (RW.sf 4 rfl (RW.ret ?_));cases hF
 exact RRet.y
set_option maxHeartbeats 2000000 in
theorem Ee {x0:List Int} {r:Bool} (hF:T0 x0=some r):A8 Try.prog 7 [L_B x0] (.bool r):=by
 refine A8.q Fp ?_;unfold T0 at hF;refine RW.sf 1 rfl (RW.seq (RW.sr 1 rfl ?_));obtain ⟨v1,e1,h1⟩:=A2 hF;refine rl.call rfl rfl rfl (A6.y (r':=.bool v1) (Re e1) ?_)
 cases hb:v1
 ·have h2:=A4 h1 hb;refine rl.done (RW.cond_f rfl (RW.skip (RW.sr 1 rfl ?_)));obtain ⟨v2,e2,h3⟩:=A2 h2;refine rl.call rfl rfl rfl (A6.y (r':=.tup [A5 v2.1,.j v2.2]) (Et e2) ?_);refine rl.f 5 rfl (RW.sr 1 rfl ?_);obtain ⟨v3,e3,h4⟩:=A2 h3;refine rl.call rfl rfl rfl (A6.y (r':=.tup [A5 v3.1,L_O v3.2]) (Dw e3) ?_);refine rl.f 5 rfl ?_;refine RW.ka [3,4,5,6] [(3,A5 v2.1),(4,.j v2.2),(5,A5 v3.1),(6,L_O v3.2)] rfl ?_;refine RW.sr 1 rfl ?_;obtain ⟨v4,e4,h5⟩:=A2 h4;refine rl.call rfl rfl rfl (A6.y (r':=L_O v4) (Fk e4) ?_);refine rl.f 1 rfl (RW.sr 1 rfl ?_);obtain ⟨v5,e5,h6⟩:=A2 h5;refine rl.call rfl rfl rfl (A6.y (r':=L_O v5) (Fi e5) ?_);refine rl.f 1 rfl (RW.seq (RW.sr 4 rfl ?_))
  refine rl.gen rfl rfl fun b hb=>?_
  cases b
  ·have h7:=A4 h6 hb;refine rl.done (RW.cond_f rfl (RW.skip (RW.seq (RW.sf 1 rfl ?_))));obtain ⟨y10,ey10,h9⟩:=A2 h7
   refine RW.cutq (σ:=Unit) (fun y7=>[(3,A5 v2.1),(4,.j v2.2),(5,A5 v3.1),(6,L_O v3.2)]) (fun y7=>[]) (fun y=>y10=.inr y) gg ?_ ?_
   ·refine RW.blk ?_
    refine RW.iter (σ:=Int) ey10 (fun s6=>[(3,A5 v2.1),(4,.j v2.2),(5,A5 v3.1),(6,L_O v3.2),(7,L_O v4),(8,L_O v5),(9,.j s6)]) (fun s6=>[]) (Gh.y0 []) (fun s6 B o hS8 hB8 hE8=>?_)
    unfold H7 at hS8;refine RW.seq (RW.sr 3 rfl ?_)
    refine rl.gen rfl rfl fun b hb=>?_
    cases b
    ·have h10:=A4 hS8 hb;refine rl.done (RW.cond_f rfl (RW.exit (B7 ?_)));cases h10
     exact ⟨_,(hE8 _ rfl).symm,(Gh.y0 [])⟩
    ·have h11:=A3 hS8 hb;refine rl.done (RW.cond_t rfl (RW.skip (RW.seq (RW.blk (RW.sdrw (A0.op rfl rfl (A0.op rfl rfl ?_)))))));obtain ⟨v8,e8,h12⟩:=A2 h11;refine A0.op rfl (B4 (enc:=encO) (o:=false) rfl rfl rfl e8) ?_;refine A0.op rfl (G3 (off':=0) ekO rfl e8 rfl rfl rfl) ?_;refine A0.op rfl rfl (A0.op rfl rfl ?_);obtain ⟨v9,e9,h13⟩:=A2 h12;refine A0.op rfl (B4 (enc:=encO) (o:=false) rfl rfl rfl e9) ?_;refine A0.op rfl (G3 (off':=0) ekO rfl e9 rfl rfl rfl) ?_
     refine A0.gen rfl rfl fun b hb=>?_
     cases b
     ·have h14:=A4 h13 hb;refine A0.done ?_;refine RW.ka [3,4,5,6,7,8,9,46] [(3,A5 v2.1),(4,.j v2.2),(5,A5 v3.1),(6,L_O v3.2),(7,L_O v4),(8,L_O v5),(9,.j s6),(46,.bool false)] rfl ?_;refine RW.cond_f rfl (RW.skip (RW.reg (rl.f 3 rfl ?_)));cases h14
      exact hB8 _ rfl _ _ (Gh.y0 [])
     ·have h15:=A3 h13 hb;refine A0.done ?_;refine RW.ka [3,4,5,6,7,8,9,46] [(3,A5 v2.1),(4,.j v2.2),(5,A5 v3.1),(6,L_O v3.2),(7,L_O v4),(8,L_O v5),(9,.j s6),(46,.bool true)] rfl ?_;refine RW.cond_t rfl (RW.sf 1 rfl (RW.ret ?_));cases h15;have h16:=elimL h9 (hE8 _ rfl);cases h16
      exact RRet.y
   ·intro y7 hC
    have h9:=elimR h9 hC;refine RW.sf 4 rfl (RW.seq ?_);obtain ⟨y11,ey11,h17⟩:=A2 h9
    refine RW.cutq (σ:=Bool) (fun y11=>[(2,.bool y11)]) (fun y11=>[]) (fun y=>y11=y) gg ?_ ?_
    ·refine RW.reg ?_;refine rl.run 2 rfl ?_;obtain ⟨v12,e12,h18⟩:=A2 ey11;refine rl.call rfl rfl rfl (A6.y (r':=.bool v12) (Dg e12) ?_);refine rl.run 2 rfl ?_;obtain ⟨v13,e13,h19⟩:=A2 h18;refine rl.call rfl rfl rfl (A6.y (r':=.bool v13) (Kj e13) ?_)
     refine rl.gen rfl rfl fun b hb=>?_
     cases b
     ·have h20:=A4 h19 hb;refine rl.f 30 rfl ?_;cases h20
      exact ⟨_,rfl,(Gh.y0 [])⟩
     ·have h21:=A3 h19 hb;refine rl.run 3 rfl ?_;obtain ⟨v14,e14,h22⟩:=A2 h21;refine rl.call rfl rfl rfl (A6.y (r':=Cb v14) (Cg e14) ?_);refine rl.run 2 rfl ?_;obtain ⟨v15,e15,h23⟩:=A2 h22;refine rl.call rfl rfl rfl (A6.y (r':=Cb v15) (Jj e15) ?_);obtain ⟨v16,e16,h24⟩:=A2 h23;refine rl.call rfl rfl rfl (A6.y (r':=.bool v16) (Fy e16) ?_)
      cases hb:v16
      ·have h25:=A4 h24 hb;refine rl.f 22 rfl ?_;cases h25
       exact ⟨_,rfl,(Gh.y0 [])⟩
      ·have h26:=A3 h24 hb;refine rl.run 4 rfl ?_;obtain ⟨v17,e17,h27⟩:=A2 h26;refine rl.call rfl rfl rfl (A6.y (r':=A5 v17) (Cj e17) ?_);refine rl.run 2 rfl ?_;obtain ⟨v18,e18,h28⟩:=A2 h27;refine rl.call rfl rfl rfl (A6.y (r':=A5 v18) (Cr e18) ?_);obtain ⟨v19,e19,h29⟩:=A2 h28;refine rl.call rfl rfl rfl (A6.y (r':=.bool v19) (Fb e19) ?_)
       cases hb:v19
       ·have h30:=A4 h29 hb;refine rl.f 13 rfl ?_;cases h30
        exact ⟨_,rfl,(Gh.y0 [])⟩
       ·have h31:=A3 h29 hb;refine rl.run 3 rfl ?_;obtain ⟨v20,e20,h32⟩:=A2 h31;refine rl.call rfl rfl rfl (A6.y (r':=.bool v20) (Dg e20) ?_)
        cases hb:v20
        ·have h33:=A4 h32 hb;refine rl.f 9 rfl ?_;cases h33
         exact ⟨_,rfl,(Gh.y0 [])⟩
        ·have h34:=A3 h32 hb;refine rl.run 4 rfl ?_;obtain ⟨v21,e21,h35⟩:=A2 h34;refine rl.call rfl rfl rfl (A6.y (r':=Cb v21) (Cg e21) ?_);refine rl.f 4 rfl ?_;cases h35
         exact ⟨_,rfl,(Gh.y0 [])⟩
    ·intro y hC
     subst hC;refine RW.ret ?_;cases h17
     exact RRet.y
  ·have h36:=A3 h6 hb;refine rl.done (RW.cond_t rfl (RW.sf 1 rfl ?_));refine RW.ka [2] [(2,.bool false)] rfl ?_;refine RW.ret ?_;cases h36
   exact RRet.y
 ·have h37:=A3 h1 hb;refine rl.done (RW.cond_t rfl (RW.sf 1 rfl (RW.ret ?_)));cases h37
  exact RRet.y
end Go.Proofs.Ytldndhdohlfpgaa.V
