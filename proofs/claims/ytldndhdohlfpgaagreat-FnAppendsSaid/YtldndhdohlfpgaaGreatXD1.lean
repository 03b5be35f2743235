/- What a call comes to. -/
import Derived.Test.YtldndhdohlfpgaaGreatXD0
namespace Go.Proofs.YtldndhdohlfpgaaGreat.V
open Go Go.Proofs Go.RowKit
set_option maxRecDepth 100000
set_option maxHeartbeats 4000000
theorem Un {x0:TLog} {x1:Int} {r:TLog×Bool} (hF:Cm x0 x1=some r):B2 Tryz.prog 52 [.agg (A9 false x0),.j x1] (.tup [.agg (A9 true r.1),.bool r.2]):=by
 refine B2.q Yn ?_;unfold Cm at hF;refine RW.sf 3 rfl (RW.sr 1 rfl ?_);obtain ⟨v1,e1,h1⟩:=A2 hF;refine rl.call rfl rfl rfl (A7.y (r':=L_I v1) (Rk e1) ?_);refine rl.f 1 rfl (RW.seq (RW.seq ?_));obtain ⟨y2,ey2,h2⟩:=A2 h1
 refine RW.cutq (σ:=Bool) (fun y2=>[(2,.ptr 0 0),(4,.ptr 1 0),(6,L_I v1),(26,.bool y2)]) (fun y2=>[some ⟨A9 false x0,0⟩,some ⟨[.nils,.nils,.j 0,.nils,.j 0,.j 0,.j 0,.j 0],0⟩]) (fun y=>y2=y) gg ?_ ?_
 ·refine RW.reg ?_;refine rl.run 1 rfl ?_
  refine rl.gen rfl rfl fun b hb=>?_
  cases b
  ·have h3:=A3 ey2 hb;refine rl.run 4 rfl ?_
   refine rl.gen rfl rfl fun b hb=>?_
   cases b
   ·have h4:=A3 h3 hb;refine rl.run 4 rfl ?_
    refine rl.gen rfl rfl fun b hb=>?_
    cases b
    ·have h5:=A3 h4 hb;refine rl.f 1 rfl ?_;cases h5
     exact ⟨_,rfl,(Gh.y0 [0,1])⟩
    ·have h6:=A4 h4 hb;refine rl.f 1 rfl ?_;cases h6
     exact ⟨_,rfl,(Gh.y0 [0,1])⟩
   ·have h7:=A4 h3 hb;refine rl.f 6 rfl ?_;cases h7
    exact ⟨_,rfl,(Gh.y0 [0,1])⟩
  ·have h8:=A4 ey2 hb;refine rl.f 11 rfl ?_;cases h8
   exact ⟨_,rfl,(Gh.y0 [0,1])⟩
 ·intro y hC
  subst hC
  cases hb:y2
  ·have h9:=A3 h2 hb;refine RW.cond_f rfl (RW.skip (RW.sr 3 rfl ?_));obtain ⟨v3,e3,h10⟩:=A2 h9;refine rl.call rfl rfl rfl (A7.y (r':=.tup [.str v3.1,.bool v3.2]) (T3 e3) ?_);refine rl.f 5 rfl (RW.sdrw (A0.op rfl rfl (A0.op rfl rfl (A0.op rfl rfl ?_))));obtain ⟨v4,e4,h11⟩:=A2 h10;refine A0.op rfl (B8 (enc:=encI) (o:=false) rfl rfl rfl e4) ?_;refine A0.op rfl (E2 (off':=0) ekI rfl e4 rfl rfl rfl) ?_;refine A0.op rfl rfl ?_;obtain ⟨v5,e5,h12⟩:=A2 h11;refine A0.call rfl rfl rfl (A7.y (r':=.tup [.agg (A5 false v5.1),.bool v5.2]) (P7 e5) ⟨rfl,?_⟩);refine A0.op rfl rfl (A0.op rfl rfl (A0.op rfl rfl ?_));refine A0.chnB rfl rfl (.here (.rx rfl) (.here (.rx rfl) (.here (.rx rfl) (.here (.cl rfl rfl (A7.y (r':=.tup [.agg (A5 false v5.1),.bool v5.2]) (P7 e5) ⟨rfl,rfl⟩)) (.here (.rx rfl) (.here (.rx (E2 (off':=0) ekI rfl e4 rfl rfl rfl)) (.here (.rx (B8 (enc:=encI) (o:=false) rfl rfl rfl e4)) (.here (.rx rfl) (.here (.rx rfl) (.here (.rx rfl) .nil)))))))))) ?_;refine A0.chnB rfl rfl (.here (.rx rfl) (.skip rfl (.skip rfl (.skip rfl (.skip rfl (.skip rfl (.skip rfl (.skip rfl (.skip rfl (.skip rfl .nil)))))))))) ?_;refine A0.op rfl rfl (A0.done ?_);refine RW.kp [2,4,6,7,9,10] [(2,.ptr 0 0),(4,.ptr 1 0),(6,L_I v1),(7,.str v3.1),(9,.ptr 2 0),(10,.bool v5.2)] [some ⟨A9 false x0,0⟩,some ⟨[.nils,.nils,.j 0,.nils,.j 0,.j 0,.j 0,.j 0],0⟩,some ⟨A5 false v5.1,0⟩] rfl rfl ?_;refine RW.seq (RW.sf 2 rfl ?_)
   cases hb:(!v5.2)
   ·have h13:=A3 h12 hb;refine RW.cond_f rfl (RW.skip (RW.sr 1 rfl ?_));obtain ⟨v6,e6,h14⟩:=A2 h13;refine rl.call rfl rfl rfl (A7.z (r':=.agg (C0 3 4 5 v6)) (H':=[some ⟨A9 false x0,0⟩,some ⟨[.nils,.nils,.j 0,.nils,.j 0,.j 0,.j 0,.j 0],0⟩,some ⟨A5 false v5.1,0⟩,some ⟨fl (encS true) v6.Disk.Sectors,1⟩,some ⟨fl (A1 true) v6.Disk.Cache,2⟩,some ⟨fl (A6 true) v6.Used,4⟩]) (En e6) ?_);refine rl.f 2 rfl (RW.sr 1 rfl ?_);obtain ⟨v7,e7,h15⟩:=A2 h14;refine rl.call rfl rfl rfl (A7.z (r':=.agg (C3 7 8 v7)) (H':=[some ⟨A9 false x0,0⟩,some ⟨[.nils,.nils,.j 0,.nils,.j 0,.j 0,.j 0,.j 0],0⟩,some ⟨A5 false v5.1,0⟩,some ⟨fl (encS true) v6.Disk.Sectors,1⟩,some ⟨fl (A1 true) v6.Disk.Cache,2⟩,some ⟨fl (A6 true) v6.Used,4⟩,some ⟨C0 3 4 5 v6,0⟩,some ⟨fl (encS true) v7.Sectors,1⟩,some ⟨fl (A1 true) v7.Cache,2⟩]) (Dv e7) ?_);refine rl.f 2 rfl (RW.sdrw (A0.op rfl rfl (A0.op rfl rfl (A0.op rfl rfl ?_))));obtain ⟨v8,e8,h16⟩:=A2 h15;refine A0.op rfl (B8 (enc:=encI) (o:=false) rfl rfl rfl e8) ?_;refine A0.op rfl (E2 (off':=0) ekI rfl e8 rfl rfl rfl) ?_;refine A0.op rfl rfl (A0.op rfl rfl (A0.op rfl rfl (A0.op rfl rfl (A0.op rfl rfl ?_))));refine A0.chnB rfl rfl (.skip rfl (.skip rfl (.skip rfl (.skip rfl (.skip rfl (.skip rfl (.skip rfl (.skip rfl (.here (.rx rfl) (.here (.rx rfl) .nil)))))))))) ?_;obtain ⟨v9,e9,h17⟩:=A2 h16;refine A0.chn rfl (R5 rfl rfl (Lj B3 rfl rfl (Ve rfl rfl rfl) e9)) ?_;refine A0.op rfl rfl ?_;refine A0.chn rfl rfl ?_;refine A0.done ?_;refine RW.gh (Gh.own0 (b:=10) rfl (NL.append NL.refl (NL.append (.same (.same (.same (.nils (es:=9) .nil)))) NL.refl))) ?_;refine RW.gh (Gh.blk (b:=10) rfl (Qw (enc:=A6) e9 rfl)) ?_;refine RW.sf 5 rfl (RW.sf 3 rfl (RW.ret ?_));cases h17
    exact RRet.y
   ·have h18:=A4 h12 hb;refine RW.cond_t rfl (RW.sf 3 rfl (RW.ret ?_));cases h18
    exact RRet.y
  ·have h19:=A4 h2 hb;refine RW.cond_t rfl (RW.sf 3 rfl (RW.ret ?_));cases h19
   exact RRet.y
theorem Uw {x0:TRec} {r:(List UInt8)×Bool} (hF:Ci x0=some r):B2 Tryz.prog 142 [.agg (C6 false x0)] (.tup [.str r.1,.bool r.2]):=by
 refine B2.q Xg ?_;unfold Ci at hF;refine RW.sf 3 rfl (RW.seq (RW.sr 1 rfl ?_));obtain ⟨v1,e1,h1⟩:=A2 hF;refine rl.call rfl rfl rfl (A7.y (r':=.bool v1) (Gw e1) ?_)
 cases hb:v1
 ·have h2:=A3 h1 hb;refine rl.f 1 rfl (RW.cond_t rfl (RW.sf 2 rfl (RW.ret ?_)));cases h2
  exact RRet.y
 ·have h3:=A4 h1 hb;refine rl.f 1 rfl (RW.cond_f rfl (RW.skip (RW.sr 4 rfl ?_)));refine rl.op (Gs (o:=true) (l:=[IntKind.u8.wrap x0.Kind]) rfl rfl) ?_;refine rl.f 1 rfl ?_;refine RW.kp [1,4] [(1,.ptr 0 0),(4,.str ([IntKind.u8.wrap x0.Kind].map ofI))] [some ⟨C6 false x0,0⟩,some ⟨fl (encB true) [IntKind.u8.wrap x0.Kind],1⟩] rfl rfl ?_;refine RW.seq (RW.sf 11 rfl ?_);obtain ⟨y7,ey7,h5⟩:=A2 h3
  refine RW.cutq (σ:=(List UInt8)) (fun y3=>[(1,.ptr 0 0),(4,.str y3)]) (fun y3=>[some ⟨C6 false x0,0⟩]) (fun y=>y7=y) gg ?_ ?_
  ·refine RW.blk ?_
   refine RW.iter (σ:=(List UInt8)×Int) ey7 (fun s2=>[(1,.ptr 0 0),(4,.str s2.1),(25,.sl 1 0 [x0.Valid,x0.Uid,x0.Next,x0.Flags].length),(26,.j ([x0.Valid,x0.Uid,x0.Next,x0.Flags].length:Int)),(27,.j s2.2)]) (fun s2=>[some ⟨C6 false x0,0⟩,some ⟨fl (encI true) [x0.Valid,x0.Uid,x0.Next,x0.Flags],1⟩]) (Gh.y0 [0,2]) (fun s2 B o hS4 hB4 hE4=>?_)
   unfold W7 at hS4;refine RW.sreg ?_
   refine rl.gen rfl rfl fun b hb=>?_
   cases b
   ·have h6:=A3 hS4 hb;refine rl.done (RW.seq (RW.cond_f rfl (RW.exit (C7 ?_))));cases h6
    exact ⟨_,(hE4 _ rfl).symm,(Gh.y0 [0])⟩
   ·have h7:=A4 hS4 hb;refine rl.done (RW.seq (RW.cond_t rfl (RW.skip (RW.seq (RW.blk (RW.sreg ?_))))));obtain ⟨v4,e4,h8⟩:=A2 h7;refine rl.op (Bl rfl rfl rfl rfl e4) ?_;refine rl.op (Wr (o:=true) (off':=0) ekI rfl rfl e4 rfl rfl rfl) ?_;refine rl.f 1 rfl (RW.reg (rl.run 2 rfl ?_));obtain ⟨v5,e5,h9⟩:=A2 h8;refine rl.call rfl rfl rfl (A7.y (r':=.str v5) (X5 e5) ?_);obtain ⟨v6,e6,h10⟩:=A2 h9;refine rl.op (Q8 rfl rfl e6) ?_;refine rl.f 1 rfl (RW.reg (rl.f 2 rfl ?_));cases h10
    exact hB4 _ rfl _ _ (Gh.y0 [0,1])
  ·intro y3 hC
   subst hC;refine RW.seq (RW.sf 9 rfl ?_);obtain ⟨y14,ey14,h12⟩:=A2 h5
   refine RW.cutq (σ:=(List UInt8)) (fun y9=>[(4,.str y9)]) (fun y9=>[]) (fun y=>y14=y) gg ?_ ?_
   ·refine RW.blk ?_
    refine RW.iter (σ:=(List UInt8)×Int) ey14 (fun s8=>[(4,.str s8.1),(42,.sl 0 0 [x0.User,x0.Name,x0.Text].length),(43,.j ([x0.User,x0.Name,x0.Text].length:Int)),(44,.j s8.2)]) (fun s8=>[some ⟨fl (encS true) [x0.User,x0.Name,x0.Text],1⟩]) (Gh.y0 [1]) (fun s8 B o hS11 hB11 hE11=>?_)
    unfold Y8 at hS11;refine RW.sreg ?_
    refine rl.gen rfl rfl fun b hb=>?_
    cases b
    ·have h13:=A3 hS11 hb;refine rl.done (RW.seq (RW.cond_f rfl (RW.exit (C7 ?_))));cases h13
     exact ⟨_,(hE11 _ rfl).symm,(Gh.y0 [])⟩
    ·have h14:=A4 hS11 hb;refine rl.done (RW.seq (RW.cond_t rfl (RW.skip (RW.seq (RW.blk (RW.sreg ?_))))));obtain ⟨v10,e10,h15⟩:=A2 h14;refine rl.op (Bl rfl rfl rfl rfl e10) ?_;refine rl.op (Wr (o:=true) (off':=0) ekS rfl rfl e10 rfl rfl rfl) ?_;refine rl.f 1 rfl (RW.reg (rl.run 3 rfl ?_));obtain ⟨v11,e11,h16⟩:=A2 h15;refine rl.call rfl rfl rfl (A7.y (r':=.str v11) (X5 e11) ?_);refine rl.run 1 rfl ?_;obtain ⟨v12,e12,h17⟩:=A2 h16;refine rl.op (Q8 rfl rfl e12) ?_;obtain ⟨v13,e13,h18⟩:=A2 h17;refine rl.op (Q8 rfl rfl e13) ?_;refine rl.f 1 rfl (RW.reg (rl.f 2 rfl ?_));cases h18
     exact hB11 _ rfl _ _ (Gh.y0 [0])
   ·intro y9 hC
    subst hC;refine RW.sf 3 rfl (RW.ret ?_);cases h12
    exact RRet.y
theorem Gy {x0:TItem} {x1:Int} {r:TFrame×Bool} (hF:Z5 x0 x1=some r):B2 Tryz.prog 80 [.agg (A8 false x0),.j x1] (.tup [.agg (B5 true r.1),.bool r.2]):=by
 refine B2.q Tv ?_;unfold Z5 at hF;refine RW.sf 3 rfl (RW.sr 2 rfl ?_);obtain ⟨v1,e1,h1⟩:=A2 hF;refine rl.call rfl rfl rfl (A7.y (r':=.tup [.str v1.1,.bool v1.2]) (Uw e1) ?_);refine rl.f 5 rfl (RW.sf 7 rfl ?_);refine RW.kp [4,7,8] [(4,.ptr 1 0),(7,.bool v1.2),(8,.ptr 2 0)] [some ⟨A8 false x0,0⟩,some ⟨[.j 0,.j 0,.str []],0⟩,some ⟨[.j x1,.j x0.Seq,.str v1.1],0⟩] rfl rfl ?_;refine RW.seq (RW.seq ?_);obtain ⟨y2,ey2,h2⟩:=A2 h1
 refine RW.cutq (σ:=Bool) (fun y2=>[(4,.ptr 0 0),(8,.ptr 1 0),(26,.bool y2)]) (fun y2=>[some ⟨[.j 0,.j 0,.str []],0⟩,some ⟨[.j x1,.j x0.Seq,.str v1.1],0⟩]) (fun y=>y2=y) gg ?_ ?_
 ·refine RW.reg ?_;refine rl.run 3 rfl ?_
  cases hb:(!v1.2)
  ·have h3:=A3 ey2 hb;refine rl.run 1 rfl ?_;obtain ⟨v3,e3,h4⟩:=A2 h3;refine rl.call rfl rfl rfl (A7.y (r':=.bool v3) (Co e3) ?_)
   cases hb:v3
   ·have h5:=A3 h4 hb;refine rl.f 2 rfl ?_;cases h5
    exact ⟨_,rfl,(Gh.y0 [1,2])⟩
   ·have h6:=A4 h4 hb;refine rl.f 2 rfl ?_;cases h6
    exact ⟨_,rfl,(Gh.y0 [1,2])⟩
  ·have h7:=A4 ey2 hb;refine rl.f 4 rfl ?_;cases h7
   exact ⟨_,rfl,(Gh.y0 [1,2])⟩
 ·intro y hC
  subst hC
  cases hb:y2
  ·have h8:=A3 h2 hb;refine RW.cond_f rfl (RW.skip (RW.sf 3 rfl (RW.ret ?_)));cases h8
   exact RRet.y
  ·have h9:=A4 h2 hb;refine RW.cond_t rfl (RW.sf 3 rfl (RW.ret ?_));cases h9
   exact RRet.y
theorem Fh {x0:TLog} {r:TSeg} (hF:Y7 x0=some r):B2 Tryz.prog 81 [.agg (A9 false x0)] (.agg [.j r.No,.j r.Gen,.j r.End,.und]):=by
 refine B2.q Zb ?_;unfold Y7 at hF;refine RW.sf 2 rfl (RW.seq (RW.sr 3 rfl ?_))
 refine rl.gen rfl rfl fun b hb=>?_
 cases b
 ·have h1:=A3 hF hb;refine rl.done (RW.cond_f rfl (RW.skip (RW.sr 6 rfl ?_)));obtain ⟨v1,e1,h2⟩:=A2 h1;refine rl.op (B8 (enc:=A6) (o:=false) rfl rfl rfl e1) ?_;refine rl.op (F6 (off':=0) (vs:=(A6 false v1)) B3 rfl e1 rfl rfl rfl) ?_;refine rl.f 1 rfl ?_;refine RW.kp [2] [(2,.ptr 1 0)] [some ⟨A9 false x0,0⟩,some ⟨A6 false v1,0⟩] rfl rfl ?_;refine RW.ret ?_;cases h2
  exact RRet.y
 ·have h3:=A4 hF hb;refine rl.done (RW.cond_t rfl (RW.sf 2 rfl (RW.ret ?_)));cases h3
  exact RRet.y
theorem Pf {x0:TFrame} {r:Int} (hF:Ad x0=some r):B2 Tryz.prog 82 [.agg (B5 false x0)] (.j r):=by
 refine B2.q Tq ?_;unfold Ad at hF;refine RW.sf 2 rfl (RW.sr 1 rfl ?_);obtain ⟨v1,e1,h1⟩:=A2 hF;refine rl.call rfl rfl rfl (A7.y (r':=.tup [.str v1.1,.bool v1.2]) (T3 e1) ?_);refine rl.f 5 rfl (RW.sf 3 rfl ?_);refine RW.kp [2] [(2,.j (v1.1.length:Int))] [some ⟨B5 false x0,0⟩] rfl rfl ?_;refine RW.ret ?_;cases h1
 exact RRet.y
theorem Mk {x0:TLog} {x1:TItem} {x2:Int} {r:TLog×Bool} (hF:Bi x0 x1 x2=some r):B2 Tryz.prog 28 [.agg (A9 false x0),.agg (A8 false x1),.j x2] (.tup [.agg (A9 true r.1),.bool r.2]):=by
 refine B2.q Ri ?_;unfold Bi at hF;refine RW.sf 4 rfl (RW.sr 1 rfl ?_);obtain ⟨v1,e1,h1⟩:=A2 hF;refine rl.call rfl rfl rfl (A7.z (r':=.agg (C0 3 4 5 v1)) (H':=[some ⟨A9 false x0,0⟩,some ⟨A8 false x1,0⟩,some ⟨[.nils,.nils,.j 0,.nils,.j 0,.j 0,.j 0,.j 0],0⟩,some ⟨fl (encS true) v1.Disk.Sectors,1⟩,some ⟨fl (A1 true) v1.Disk.Cache,2⟩,some ⟨fl (A6 true) v1.Used,4⟩]) (En e1) ?_);refine rl.f 2 rfl (RW.sdrw (A0.op rfl rfl (A0.op rfl rfl ?_)));obtain ⟨v2,e2,h2⟩:=A2 h1;refine A0.call rfl rfl rfl (A7.y (r':=.agg [.j v2.No,.j v2.Gen,.j v2.End,.und]) (Fh e2) ⟨rfl,?_⟩);refine A0.op rfl rfl (A0.op rfl rfl ?_);obtain ⟨v3,e3,h3⟩:=A2 h2;refine A0.call rfl rfl rfl (A7.y (r':=.tup [.agg (B5 false v3.1),.bool v3.2]) (Gy e3) ⟨rfl,?_⟩);refine A0.op rfl rfl (A0.op rfl rfl (A0.op rfl rfl ?_));refine A0.chnB rfl rfl (.here (.rx rfl) (.here (.rx rfl) (.here (.rx rfl) (.here (.cl rfl rfl (A7.y (r':=.tup [.agg (B5 false v3.1),.bool v3.2]) (Gy e3) ⟨rfl,rfl⟩)) (.here (.rx rfl) (.here (.rx rfl) (.here (.cl rfl rfl (A7.y (r':=.agg [.j v2.No,.j v2.Gen,.j v2.End,.und]) (Fh e2) ⟨rfl,rfl⟩)) (.here (.rx rfl) (.here (.rx rfl) .nil))))))))) ?_;refine A0.chnB rfl rfl (.here (.rx rfl) (.skip rfl (.skip rfl (.skip rfl (.skip rfl (.skip rfl (.skip rfl (.skip rfl (.skip rfl .nil))))))))) ?_;refine A0.op rfl rfl (A0.done ?_);refine RW.kp [2,3,4,6,8,9,10] [(2,.j x2),(3,.ptr 0 0),(4,.ptr 1 0),(6,.ptr 2 0),(8,.ptr 6 0),(9,.ptr 7 0),(10,.bool v3.2)] [some ⟨A9 false x0,0⟩,some ⟨A8 false x1,0⟩,some ⟨[.nils,.nils,.j 0,.nils,.j 0,.j 0,.j 0,.j 0],0⟩,some ⟨fl (encS true) v1.Disk.Sectors,1⟩,some ⟨fl (A1 true) v1.Disk.Cache,2⟩,some ⟨fl (A6 true) v1.Used,4⟩,some ⟨C0 3 4 5 v1,0⟩,some ⟨B5 false v3.1,0⟩] rfl rfl ?_;refine RW.seq (RW.seq ?_);obtain ⟨y4,ey4,h4⟩:=A2 h3
 refine RW.cutq (σ:=Bool) (fun y4=>[(2,.j x2),(3,.ptr 0 0),(4,.ptr 1 0),(6,.ptr 2 0),(8,.ptr 3 0),(9,.ptr 4 0),(54,.bool y4)]) (fun y4=>[some ⟨A9 false x0,0⟩,some ⟨A8 false x1,0⟩,some ⟨[.nils,.nils,.j 0,.nils,.j 0,.j 0,.j 0,.j 0],0⟩,some ⟨C0 5 6 7 v1,0⟩,some ⟨B5 false v3.1,0⟩,some ⟨fl (encS true) v1.Disk.Sectors,1⟩,some ⟨fl (A1 true) v1.Disk.Cache,2⟩,some ⟨fl (A6 true) v1.Used,4⟩]) (fun y=>y4=y) gg ?_ ?_
 ·refine RW.drw ?_;refine A0.op rfl rfl ?_;obtain ⟨v5,e5,h5⟩:=A2 ey4;refine A0.call rfl rfl rfl (A7.y (r':=.bool v5) (Gr e5) ⟨rfl,?_⟩)
  cases hb:v5
  ·have h6:=A3 h5 hb;refine A0.op rfl rfl (A0.op rfl rfl (A0.off rfl (A0.off rfl (A0.op rfl rfl (A0.op rfl rfl (A0.off rfl (A0.off rfl (A0.off rfl (A0.op rfl rfl (A0.op rfl rfl (A0.off rfl ?_)))))))))));refine A0.off rfl (A0.op rfl rfl (A0.op rfl rfl (A0.off rfl ?_)));refine A0.coff rfl ?_;refine A0.off rfl (A0.off rfl ?_);refine A0.coff rfl ?_;refine A0.off rfl (A0.off rfl (A0.op rfl rfl (A0.done ?_)));cases h6
   exact ⟨_,rfl,(Gh.y0 [0,1,2,6,7,3,4,5])⟩
  ·have h7:=A4 h5 hb;refine A0.op rfl rfl (A0.op rfl rfl (A0.op rfl rfl (A0.op rfl rfl (A0.op rfl rfl (A0.op rfl rfl ?_)))))
   cases hb:(!v3.2)
   ·have h8:=A3 h7 hb;refine A0.op rfl rfl (A0.op rfl rfl ?_)
    refine A0.gen rfl rfl fun b hb=>?_
    cases b
    ·have h9:=A3 h8 hb;refine A0.op rfl rfl (A0.op rfl rfl (A0.op rfl rfl ?_))
     refine A0.gen rfl rfl fun b hb=>?_
     cases b
     ·have h10:=A3 h9 hb;refine A0.op rfl rfl (A0.op rfl rfl (A0.op rfl rfl ?_));obtain ⟨v6,e6,h11⟩:=A2 h10;refine A0.ccall rfl rfl rfl (A7.z (r':=.sl 8 0 v6.length) (H':=[some ⟨A9 false x0,0⟩,some ⟨A8 false x1,0⟩,some ⟨[.nils,.nils,.j 0,.nils,.j 0,.j 0,.j 0,.j 0],0⟩,some ⟨fl (encS true) v1.Disk.Sectors,1⟩,some ⟨fl (A1 true) v1.Disk.Cache,2⟩,some ⟨fl (A6 true) v1.Used,4⟩,some ⟨C0 3 4 5 v1,0⟩,some ⟨B5 false v3.1,0⟩,some ⟨fl (A8 true) v6,9⟩]) (Fm e6) ?_);refine A0.opA rfl rfl (.here (.rx rfl) .nil) ?_;refine A0.litA (u:=E6 ([x1]:List TItem)) rfl rfl (Lit.mk rfl rfl) (.here (.lit rfl (Lit.mk rfl rfl)) .nil) ?_;obtain ⟨v7,e7,h12⟩:=A2 h11;refine A0.chn rfl (R5 rfl rfl (Q0 (l:=v6) (m:=([x1]:List TItem)) (o:=true) B9 rfl rfl Bd rfl (M1.fst _ _) e7)) ?_;obtain ⟨v8,e8,h13⟩:=A2 h12;refine A0.call rfl rfl rfl (A7.y (r':=.bool v8) (Jf e8) ⟨rfl,?_⟩)
      cases hb:v8
      ·have h14:=A3 h13 hb;refine A0.op rfl rfl (A0.op rfl rfl (A0.done ?_));cases h14
       exact ⟨_,rfl,(Gh.y0 [0,1,2,6,7,3,4,5])⟩
      ·have h15:=A4 h13 hb;refine A0.op rfl rfl (A0.op rfl rfl (A0.done ?_));cases h15
       exact ⟨_,rfl,(Gh.y0 [0,1,2,6,7,3,4,5])⟩
     ·have h16:=A4 h9 hb;refine A0.op rfl rfl (A0.op rfl rfl (A0.off rfl ?_));refine A0.coff rfl ?_;refine A0.off rfl (A0.off rfl ?_);refine A0.coff rfl ?_;refine A0.off rfl (A0.off rfl (A0.op rfl rfl (A0.done ?_)));cases h16
      exact ⟨_,rfl,(Gh.y0 [0,1,2,6,7,3,4,5])⟩
    ·have h17:=A4 h8 hb;refine A0.op rfl rfl (A0.op rfl rfl (A0.off rfl (A0.off rfl (A0.op rfl rfl (A0.op rfl rfl (A0.off rfl ?_))))));refine A0.coff rfl ?_;refine A0.off rfl (A0.off rfl ?_);refine A0.coff rfl ?_;refine A0.off rfl (A0.off rfl (A0.op rfl rfl (A0.done ?_)));cases h17
     exact ⟨_,rfl,(Gh.y0 [0,1,2,6,7,3,4,5])⟩
   ·have h18:=A4 h7 hb;refine A0.off rfl (A0.off rfl (A0.off rfl (A0.op rfl rfl (A0.op rfl rfl (A0.off rfl (A0.off rfl (A0.op rfl rfl (A0.op rfl rfl (A0.off rfl ?_)))))))));refine A0.coff rfl ?_;refine A0.off rfl (A0.off rfl ?_);refine A0.coff rfl ?_;refine A0.off rfl (A0.off rfl (A0.op rfl rfl (A0.done ?_)));cases h18
    exact ⟨_,rfl,(Gh.y0 [0,1,2,6,7,3,4,5])⟩
 ·intro y hC
  subst hC
  cases hb:y4
  ·have h19:=A3 h4 hb;refine RW.cond_f rfl (RW.skip (RW.sr 1 rfl ?_));obtain ⟨v9,e9,h20⟩:=A2 h19;refine rl.call rfl rfl rfl (A7.z (r':=.agg (C0 8 9 10 v9)) (H':=[some ⟨A9 false x0,0⟩,some ⟨A8 false x1,0⟩,some ⟨[.nils,.nils,.j 0,.nils,.j 0,.j 0,.j 0,.j 0],0⟩,some ⟨C0 5 6 7 v1,0⟩,some ⟨B5 false v3.1,0⟩,some ⟨fl (encS true) v1.Disk.Sectors,1⟩,some ⟨fl (A1 true) v1.Disk.Cache,2⟩,some ⟨fl (A6 true) v1.Used,4⟩,some ⟨fl (encS true) v9.Disk.Sectors,1⟩,some ⟨fl (A1 true) v9.Disk.Cache,2⟩,some ⟨fl (A6 true) v9.Used,4⟩]) (En e9) ?_);refine rl.f 2 rfl (RW.seq (RW.sdrw (A0.op rfl rfl ?_)));obtain ⟨v10,e10,h21⟩:=A2 h20;refine A0.call rfl rfl rfl (A7.y (r':=.agg [.j v10.No,.j v10.Gen,.j v10.End,.und]) (Fh e10) ⟨rfl,?_⟩);refine A0.op rfl rfl (A0.op rfl rfl ?_);obtain ⟨v11,e11,h22⟩:=A2 h21;refine A0.call rfl rfl rfl (A7.y (r':=.j v11) (Pf e11) ⟨rfl,?_⟩);refine A0.op rfl rfl ?_
   refine A0.gen rfl rfl fun b hb=>?_
   cases b
   ·have h23:=A3 h22 hb;refine A0.done (RW.cond_f rfl (RW.skip ?_));obtain ⟨v12,e12,h24⟩:=A2 h23;refine RW.gh (Gh.blk (b:=10) rfl (Ek B3 e12)) ?_
    refine RW.gh (Gh.expose_raw (b:=10) (j:=3) rfl rfl (by decide) (B9.fown _)) ?_
    refine RW.sr 6 rfl ?_;refine rl.op (Bl rfl rfl rfl rfl e12) ?_;refine rl.f 1 rfl ?_;refine RW.kp [4,6,8,9,11,14] [(4,.ptr 1 0),(6,.ptr 2 0),(8,.ptr 3 0),(9,.ptr 4 0),(11,.ptr 11 0),(14,.ptr 10 ((w64 ((v9.Used.length:Int) - 1)).toNat*4))] [some ⟨A9 false x0,0⟩,some ⟨A8 false x1,0⟩,some ⟨[.nils,.nils,.j 0,.nils,.j 0,.j 0,.j 0,.j 0],0⟩,some ⟨C0 5 6 7 v1,0⟩,some ⟨B5 false v3.1,0⟩,some ⟨fl (encS true) v1.Disk.Sectors,1⟩,some ⟨fl (A1 true) v1.Disk.Cache,2⟩,some ⟨fl (A6 true) v1.Used,4⟩,some ⟨fl (encS true) v9.Disk.Sectors,1⟩,some ⟨fl (A1 true) v9.Disk.Cache,2⟩,some ⟨fl (A6 true) (v9.Used.take (w64 ((v9.Used.length:Int) - 1)).toNat)++((G6 12 v12)++fl (A6 true) (v9.Used.drop ((w64 ((v9.Used.length:Int) - 1)).toNat+1))),4⟩,some ⟨C0 8 9 10 v9,0⟩,some ⟨fl (A8 true) v12.Items,9⟩] rfl rfl ?_;refine RW.sr 3 rfl ?_;refine rl.op (Q7 (off':=1) B3 rfl rfl e12 rfl rfl) ?_;refine rl.f 2 rfl (RW.sr 1 rfl ?_);obtain ⟨v13,e13,h25⟩:=A2 h24;refine rl.call rfl rfl rfl (A7.y (r':=.tup [.str v13.1,.bool v13.2]) (T3 e13) ?_);refine rl.f 5 rfl ?_;refine RW.kp [4,6,8,11,14,15] [(4,.ptr 1 0),(6,.ptr 2 0),(8,.ptr 3 0),(11,.ptr 11 0),(14,.ptr 10 ((w64 ((v9.Used.length:Int) - 1)).toNat*4)),(15,.str v13.1)] [some ⟨A9 false x0,0⟩,some ⟨A8 false x1,0⟩,some ⟨[.nils,.nils,.j 0,.nils,.j 0,.j 0,.j 0,.j 0],0⟩,some ⟨C0 5 6 7 v1,0⟩,some ⟨[.j v12.Gen,.j v3.1.Seq,.str v3.1.Body],0⟩,some ⟨fl (encS true) v1.Disk.Sectors,1⟩,some ⟨fl (A1 true) v1.Disk.Cache,2⟩,some ⟨fl (A6 true) v1.Used,4⟩,some ⟨fl (encS true) v9.Disk.Sectors,1⟩,some ⟨fl (A1 true) v9.Disk.Cache,2⟩,some ⟨fl (A6 true) (v9.Used.take (w64 ((v9.Used.length:Int) - 1)).toNat)++((G6 12 v12)++fl (A6 true) (v9.Used.drop ((w64 ((v9.Used.length:Int) - 1)).toNat+1))),4⟩,some ⟨C0 8 9 10 v9,0⟩,some ⟨fl (A8 true) v12.Items,9⟩] rfl rfl ?_;refine RW.sdrw (A0.op rfl rfl (A0.op rfl rfl (A0.op rfl rfl (A0.op rfl rfl (A0.op rfl rfl ?_)))));refine A0.op rfl (Q7 (off':=0) B3 rfl rfl e12 rfl rfl) ?_;refine A0.op rfl rfl (A0.op rfl rfl (A0.op rfl rfl ?_));refine A0.op rfl (Q7 (off':=2) B3 rfl rfl e12 rfl rfl) ?_
    refine A0.op rfl rfl ?_;obtain ⟨v14,e14,h26⟩:=A2 h25;refine A0.call rfl rfl rfl (A7.y (r':=.tup [.agg (A5 false v14.1),.bool v14.2]) (P7 e14) ⟨rfl,?_⟩);refine A0.op rfl rfl (A0.op rfl rfl (A0.op rfl rfl ?_));refine A0.chnB rfl rfl (.here (.rx rfl) (.here (.rx rfl) (.here (.rx rfl) (.here (.cl rfl rfl (A7.y (r':=.tup [.agg (A5 false v14.1),.bool v14.2]) (P7 e14) ⟨rfl,rfl⟩)) (.here (.rx rfl) (.here (.rx (Q7 (off':=2) B3 rfl rfl e12 rfl rfl)) (.here (.rx rfl) (.here (.rx rfl) (.here (.rx rfl) (.here (.rx (Q7 (off':=0) B3 rfl rfl e12 rfl rfl)) (.here (.rx rfl) (.here (.rx rfl) (.here (.rx rfl) (.here (.rx rfl) (.here (.rx rfl) .nil))))))))))))))) ?_;refine A0.chnB rfl rfl (.here (.rx rfl) (.skip rfl (.skip rfl (.skip rfl (.skip rfl (.skip rfl (.skip rfl (.skip rfl (.skip rfl (.skip rfl (.skip rfl (.skip rfl (.skip rfl (.skip rfl (.skip rfl .nil))))))))))))))) ?_;refine A0.op rfl rfl (A0.done ?_);refine RW.kp [4,6,8,11,14,15,17,18] [(4,.ptr 1 0),(6,.ptr 2 0),(8,.ptr 3 0),(11,.ptr 11 0),(14,.ptr 10 ((w64 ((v9.Used.length:Int) - 1)).toNat*4)),(15,.str v13.1),(17,.ptr 13 0),(18,.bool v14.2)] [some ⟨A9 false x0,0⟩,some ⟨A8 false x1,0⟩,some ⟨[.nils,.nils,.j 0,.nils,.j 0,.j 0,.j 0,.j 0],0⟩,some ⟨C0 5 6 7 v1,0⟩,some ⟨[.j v12.Gen,.j v3.1.Seq,.str v3.1.Body],0⟩,some ⟨fl (encS true) v1.Disk.Sectors,1⟩,some ⟨fl (A1 true) v1.Disk.Cache,2⟩,some ⟨fl (A6 true) v1.Used,4⟩,some ⟨fl (encS true) v9.Disk.Sectors,1⟩,some ⟨fl (A1 true) v9.Disk.Cache,2⟩,some ⟨fl (A6 true) (v9.Used.take (w64 ((v9.Used.length:Int) - 1)).toNat)++((G6 12 v12)++fl (A6 true) (v9.Used.drop ((w64 ((v9.Used.length:Int) - 1)).toNat+1))),4⟩,some ⟨C0 8 9 10 v9,0⟩,some ⟨fl (A8 true) v12.Items,9⟩,some ⟨A5 false v14.1,0⟩] rfl rfl ?_;refine RW.seq (RW.sf 2 rfl ?_)
    cases hb:(!v14.2)
    ·have h27:=A3 h26 hb;refine RW.cond_f rfl (RW.skip (RW.sr 1 rfl ?_));obtain ⟨v15,e15,h28⟩:=A2 h27;refine rl.call rfl rfl rfl (A7.z (r':=.agg (C3 14 15 v15)) (H':=[some ⟨A9 false x0,0⟩,some ⟨A8 false x1,0⟩,some ⟨[.nils,.nils,.j 0,.nils,.j 0,.j 0,.j 0,.j 0],0⟩,some ⟨C0 5 6 7 v1,0⟩,some ⟨[.j v12.Gen,.j v3.1.Seq,.str v3.1.Body],0⟩,some ⟨fl (encS true) v1.Disk.Sectors,1⟩,some ⟨fl (A1 true) v1.Disk.Cache,2⟩,some ⟨fl (A6 true) v1.Used,4⟩,some ⟨fl (encS true) v9.Disk.Sectors,1⟩,some ⟨fl (A1 true) v9.Disk.Cache,2⟩,some ⟨fl (A6 true) (v9.Used.take (w64 ((v9.Used.length:Int) - 1)).toNat)++((G6 12 v12)++fl (A6 true) (v9.Used.drop ((w64 ((v9.Used.length:Int) - 1)).toNat+1))),4⟩,some ⟨C0 8 9 10 v9,0⟩,some ⟨fl (A8 true) v12.Items,9⟩,some ⟨A5 false v14.1,0⟩,some ⟨fl (encS true) v15.Sectors,1⟩,some ⟨fl (A1 true) v15.Cache,2⟩]) (Dv e15) ?_);refine rl.f 2 rfl (RW.sr 3 rfl ?_);refine rl.op (Q7 (off':=2) B3 rfl rfl e12 rfl rfl) ?_;refine rl.run 5 rfl ?_;refine rl.op0 (Wt (off':=2) (vs':=[.j v12.No,.j v12.Gen,.j (w64 (v12.End+(v13.1.length:Int))),.sl 12 0 v12.Items.length]) B3 e12 rfl rfl rfl rfl rfl rfl rfl rfl rfl) ?_;refine rl.done ?_;refine RW.kp [4,6,11,14] [(4,.ptr 1 0),(6,.ptr 2 0),(11,.ptr 11 0),(14,.ptr 10 ((w64 ((v9.Used.length:Int) - 1)).toNat*4))] [some ⟨A9 false x0,0⟩,some ⟨A8 false x1,0⟩,some ⟨[.nils,.nils,.j 0,.nils,.j 0,.j 0,.j 0,.j 0],0⟩,some ⟨C0 5 6 7 v1,0⟩,some ⟨[.j v12.Gen,.j v3.1.Seq,.str v3.1.Body],0⟩,some ⟨fl (encS true) v1.Disk.Sectors,1⟩,some ⟨fl (A1 true) v1.Disk.Cache,2⟩,some ⟨fl (A6 true) v1.Used,4⟩,some ⟨fl (encS true) v9.Disk.Sectors,1⟩,some ⟨fl (A1 true) v9.Disk.Cache,2⟩,some ⟨fl (A6 true) (v9.Used.take (w64 ((v9.Used.length:Int) - 1)).toNat)++([.j v12.No,.j v12.Gen,.j (w64 (v12.End+(v13.1.length:Int))),.sl 12 0 v12.Items.length]++fl (A6 true) (v9.Used.drop ((w64 ((v9.Used.length:Int) - 1)).toNat+1))),4⟩,some ⟨[.sl 14 0 v15.Sectors.length,.sl 15 0 v15.Cache.length,.j v9.Segs,.sl 10 0 v9.Used.length,.j v9.NextGen,.j v9.NextSeq,.j v9.Stamp,.j v9.NextValid],0⟩,some ⟨fl (A8 true) v12.Items,9⟩,some ⟨A5 false v14.1,0⟩,some ⟨fl (encS true) v15.Sectors,1⟩,some ⟨fl (A1 true) v15.Cache,2⟩] rfl rfl ?_
     refine RW.sdrw (A0.op rfl rfl (A0.op rfl rfl (A0.op rfl rfl (A0.op rfl rfl ?_))));refine A0.op rfl (Q7 (off':=3) B3 rfl rfl e12 rfl rfl) ?_;refine A0.op rfl rfl ?_;refine A0.chnB rfl rfl (.skip rfl (.here (.rx (Q7 (off':=3) B3 rfl rfl e12 rfl rfl)) (.here (.rx rfl) (.here (.rx rfl) (.here (.rx rfl) (.here (.rx rfl) .nil)))))) ?_;obtain ⟨v16,e16,h29⟩:=A2 h28;refine A0.chnB rfl (R5 rfl rfl (Q0 (l:=v12.Items) (m:=[x1]) (o:=true) B9 rfl rfl (L2 (m:=[x1]) (o:=true) M1 rfl rfl) rfl (M1.fst _ _) e16)) (.skip rfl (.skip rfl (.skip rfl (.skip rfl (.skip rfl (.here (.rx rfl) .nil)))))) ?_;refine A0.op rfl rfl (A0.op rfl rfl ?_);refine A0.chn rfl (Wt (off':=3) (vs':=[.j v12.No,.j v12.Gen,.j (w64 (v12.End+(v13.1.length:Int))),.sl 17 0 v16.length]) B3 e12 rfl rfl rfl rfl rfl rfl rfl rfl rfl) ?_;refine A0.done ?_;refine RW.kp [4,6,11] [(4,.ptr 1 0),(6,.ptr 2 0),(11,.ptr 11 0)] [some ⟨A9 false x0,0⟩,some ⟨A8 false x1,0⟩,some ⟨[.nils,.nils,.j 0,.nils,.j 0,.j 0,.j 0,.j 0],0⟩,some ⟨C0 5 6 7 v1,0⟩,some ⟨[.j v12.Gen,.j v3.1.Seq,.str v3.1.Body],0⟩,some ⟨fl (encS true) v1.Disk.Sectors,1⟩,some ⟨fl (A1 true) v1.Disk.Cache,2⟩,some ⟨fl (A6 true) v1.Used,4⟩,some ⟨fl (encS true) v9.Disk.Sectors,1⟩,some ⟨fl (A1 true) v9.Disk.Cache,2⟩,some ⟨fl (A6 true) (v9.Used.take (w64 ((v9.Used.length:Int) - 1)).toNat)++([.j v12.No,.j v12.Gen,.j (w64 (v12.End+(v13.1.length:Int))),.sl 17 0 v16.length]++fl (A6 true) (v9.Used.drop ((w64 ((v9.Used.length:Int) - 1)).toNat+1))),4⟩,some ⟨[.sl 14 0 v15.Sectors.length,.sl 15 0 v15.Cache.length,.j v9.Segs,.sl 10 0 v9.Used.length,.j v9.NextGen,.j v9.NextSeq,.j v9.Stamp,.j v9.NextValid],0⟩,none,some ⟨A5 false v14.1,0⟩,some ⟨fl (encS true) v15.Sectors,1⟩,some ⟨fl (A1 true) v15.Cache,2⟩,some ⟨fl (A8 true) [x1],9⟩,some ⟨fl (A8 true) v16,9⟩] rfl rfl ?_;refine RW.sf 8 rfl (RW.sf 9 rfl ?_);refine RW.kp [6,11] [(6,.ptr 2 0),(11,.ptr 11 0)] [some ⟨A9 false x0,0⟩,some ⟨A8 false x1,0⟩,some ⟨[.nils,.nils,.j 0,.nils,.j 0,.j 0,.j 0,.j 0],0⟩,some ⟨C0 5 6 7 v1,0⟩,some ⟨[.j v12.Gen,.j v3.1.Seq,.str v3.1.Body],0⟩,some ⟨fl (encS true) v1.Disk.Sectors,1⟩,some ⟨fl (A1 true) v1.Disk.Cache,2⟩,some ⟨fl (A6 true) v1.Used,4⟩,some ⟨fl (encS true) v9.Disk.Sectors,1⟩,some ⟨fl (A1 true) v9.Disk.Cache,2⟩,some ⟨fl (A6 true) (v9.Used.take (w64 ((v9.Used.length:Int) - 1)).toNat)++([.j v12.No,.j v12.Gen,.j (w64 (v12.End+(v13.1.length:Int))),.sl 17 0 v16.length]++fl (A6 true) (v9.Used.drop ((w64 ((v9.Used.length:Int) - 1)).toNat+1))),4⟩,some ⟨[.sl 14 0 v15.Sectors.length,.sl 15 0 v15.Cache.length,.j v9.Segs,.sl 10 0 v9.Used.length,.j v9.NextGen,.j (if w64 (x1.Seq+1)>v9.NextSeq then w64 (x1.Seq+1) else v9.NextSeq),.j v9.Stamp,.j (if w64 (x1.Rec.Valid+1)>v9.NextValid then w64 (x1.Rec.Valid+1) else v9.NextValid)],0⟩,none,some ⟨A5 false v14.1,0⟩,some ⟨fl (encS true) v15.Sectors,1⟩,some ⟨fl (A1 true) v15.Cache,2⟩,some ⟨fl (A8 true) [x1],9⟩,some ⟨fl (A8 true) v16,9⟩] rfl rfl ?_
     refine RW.sf 3 rfl ?_
     refine RW.gh (Gh.absorb_rawq (b:=10) (j:=3) (m:=17) rfl rfl rfl (by decide) (by decide) rfl (B9.flen true _) (B9.fown _)) ?_
     obtain ⟨v17,e17,h30⟩:=A2 h29;refine RW.gh (Gh.blk (b:=10) rfl (Wy B3 e12 e17 rfl)) ?_;refine RW.ret ?_;cases h30
     exact RRet.m rfl (OutT.tup (.cons (OutL.agg (.cons (OutR.ownq ekS rfl rfl) rfl (.cons (OutR.ownq B4 rfl rfl) rfl (.i (.cons (OutR.ownq B3 rfl (Z6 e17)) rfl (.i (.i (.i (.i .nil))))))))) (.cons .bool .nil)))
    ·have h31:=A4 h26 hb;refine RW.cond_t rfl (RW.sf 3 rfl ?_)
     refine RW.gh (Gh.absorb_rawq (b:=10) (j:=3) (m:=12) rfl rfl rfl (by decide) (by decide) rfl (B9.flen true _) (B9.fown _)) ?_
     refine RW.gh (Gh.blk (b:=10) rfl (Ek B3 e12).symm) ?_;refine RW.ret ?_;cases h31
     exact RRet.y
   ·have h32:=A4 h22 hb;refine A0.done (RW.cond_t rfl (RW.sr 2 rfl ?_));obtain ⟨v18,e18,h33⟩:=A2 h32;refine rl.call rfl rfl rfl (A7.z (r':=.tup [.agg (C0 12 13 14 v18.1),.bool v18.2]) (H':=[some ⟨A9 false x0,0⟩,some ⟨A8 false x1,0⟩,some ⟨[.nils,.nils,.j 0,.nils,.j 0,.j 0,.j 0,.j 0],0⟩,some ⟨C0 5 6 7 v1,0⟩,some ⟨B5 false v3.1,0⟩,some ⟨fl (encS true) v1.Disk.Sectors,1⟩,some ⟨fl (A1 true) v1.Disk.Cache,2⟩,some ⟨fl (A6 true) v1.Used,4⟩,some ⟨fl (encS true) v9.Disk.Sectors,1⟩,some ⟨fl (A1 true) v9.Disk.Cache,2⟩,some ⟨fl (A6 true) v9.Used,4⟩,some ⟨C0 8 9 10 v9,0⟩,some ⟨fl (encS true) v18.1.Disk.Sectors,1⟩,some ⟨fl (A1 true) v18.1.Disk.Cache,2⟩,some ⟨fl (A6 true) v18.1.Used,4⟩]) (Un e18) ?_);refine rl.f 6 rfl ?_;refine RW.kp [4,6,8,9,11,12,13] [(4,.ptr 1 0),(6,.ptr 2 0),(8,.ptr 3 0),(9,.ptr 4 0),(11,.ptr 11 0),(12,.ptr 15 0),(13,.bool v18.2)] [some ⟨A9 false x0,0⟩,some ⟨A8 false x1,0⟩,some ⟨[.nils,.nils,.j 0,.nils,.j 0,.j 0,.j 0,.j 0],0⟩,some ⟨C0 5 6 7 v1,0⟩,some ⟨B5 false v3.1,0⟩,some ⟨fl (encS true) v1.Disk.Sectors,1⟩,some ⟨fl (A1 true) v1.Disk.Cache,2⟩,some ⟨fl (A6 true) v1.Used,4⟩,some ⟨fl (encS true) v9.Disk.Sectors,1⟩,some ⟨fl (A1 true) v9.Disk.Cache,2⟩,some ⟨fl (A6 true) v9.Used,4⟩,some ⟨C0 8 9 10 v9,0⟩,some ⟨fl (encS true) v18.1.Disk.Sectors,1⟩,some ⟨fl (A1 true) v18.1.Disk.Cache,2⟩,some ⟨fl (A6 true) v18.1.Used,4⟩,some ⟨C0 12 13 14 v18.1,0⟩] rfl rfl ?_;refine RW.seq (RW.sf 2 rfl ?_)
    cases hb:(!v18.2)
    ·have h34:=A3 h33 hb;refine RW.cond_f rfl (RW.skip (RW.reg (rl.f 2 rfl ?_)));obtain ⟨v19,e19,h35⟩:=A2 h34;refine RW.gh (Gh.blk (b:=14) rfl (Ek B3 e19)) ?_
     refine RW.gh (Gh.expose_raw (b:=14) (j:=3) rfl rfl (by decide) (B9.fown _)) ?_
     refine RW.sr 6 rfl ?_;refine rl.op (Bl rfl rfl rfl rfl e19) ?_;refine rl.f 1 rfl ?_;refine RW.kp [4,6,8,9,11,14] [(4,.ptr 1 0),(6,.ptr 2 0),(8,.ptr 3 0),(9,.ptr 4 0),(11,.ptr 11 0),(14,.ptr 14 ((w64 ((v18.1.Used.length:Int) - 1)).toNat*4))] [some ⟨A9 false x0,0⟩,some ⟨A8 false x1,0⟩,some ⟨[.nils,.nils,.j 0,.nils,.j 0,.j 0,.j 0,.j 0],0⟩,some ⟨C0 5 6 7 v1,0⟩,some ⟨B5 false v3.1,0⟩,some ⟨fl (encS true) v1.Disk.Sectors,1⟩,some ⟨fl (A1 true) v1.Disk.Cache,2⟩,some ⟨fl (A6 true) v1.Used,4⟩,some ⟨fl (encS true) v9.Disk.Sectors,1⟩,some ⟨fl (A1 true) v9.Disk.Cache,2⟩,some ⟨fl (A6 true) v9.Used,4⟩,some ⟨C0 12 13 14 v18.1,0⟩,some ⟨fl (encS true) v18.1.Disk.Sectors,1⟩,some ⟨fl (A1 true) v18.1.Disk.Cache,2⟩,some ⟨fl (A6 true) (v18.1.Used.take (w64 ((v18.1.Used.length:Int) - 1)).toNat)++((G6 16 v19)++fl (A6 true) (v18.1.Used.drop ((w64 ((v18.1.Used.length:Int) - 1)).toNat+1))),4⟩,some ⟨C0 12 13 14 v18.1,0⟩,some ⟨fl (A8 true) v19.Items,9⟩] rfl rfl ?_;refine RW.sr 3 rfl ?_;refine rl.op (Q7 (off':=1) B3 rfl rfl e19 rfl rfl) ?_;refine rl.f 2 rfl (RW.sr 1 rfl ?_);obtain ⟨v20,e20,h36⟩:=A2 h35;refine rl.call rfl rfl rfl (A7.y (r':=.tup [.str v20.1,.bool v20.2]) (T3 e20) ?_);refine rl.f 5 rfl ?_;refine RW.kp [4,6,8,11,14,15] [(4,.ptr 1 0),(6,.ptr 2 0),(8,.ptr 3 0),(11,.ptr 11 0),(14,.ptr 14 ((w64 ((v18.1.Used.length:Int) - 1)).toNat*4)),(15,.str v20.1)] [some ⟨A9 false x0,0⟩,some ⟨A8 false x1,0⟩,some ⟨[.nils,.nils,.j 0,.nils,.j 0,.j 0,.j 0,.j 0],0⟩,some ⟨C0 5 6 7 v1,0⟩,some ⟨[.j v19.Gen,.j v3.1.Seq,.str v3.1.Body],0⟩,some ⟨fl (encS true) v1.Disk.Sectors,1⟩,some ⟨fl (A1 true) v1.Disk.Cache,2⟩,some ⟨fl (A6 true) v1.Used,4⟩,some ⟨fl (encS true) v9.Disk.Sectors,1⟩,some ⟨fl (A1 true) v9.Disk.Cache,2⟩,some ⟨fl (A6 true) v9.Used,4⟩,some ⟨C0 12 13 14 v18.1,0⟩,some ⟨fl (encS true) v18.1.Disk.Sectors,1⟩,some ⟨fl (A1 true) v18.1.Disk.Cache,2⟩,some ⟨fl (A6 true) (v18.1.Used.take (w64 ((v18.1.Used.length:Int) - 1)).toNat)++((G6 16 v19)++fl (A6 true) (v18.1.Used.drop ((w64 ((v18.1.Used.length:Int) - 1)).toNat+1))),4⟩,some ⟨C0 12 13 14 v18.1,0⟩,some ⟨fl (A8 true) v19.Items,9⟩] rfl rfl ?_
     refine RW.sdrw (A0.op rfl rfl (A0.op rfl rfl (A0.op rfl rfl (A0.op rfl rfl (A0.op rfl rfl ?_)))));refine A0.op rfl (Q7 (off':=0) B3 rfl rfl e19 rfl rfl) ?_;refine A0.op rfl rfl (A0.op rfl rfl (A0.op rfl rfl ?_));refine A0.op rfl (Q7 (off':=2) B3 rfl rfl e19 rfl rfl) ?_;refine A0.op rfl rfl ?_;obtain ⟨v21,e21,h37⟩:=A2 h36;refine A0.call rfl rfl rfl (A7.y (r':=.tup [.agg (A5 false v21.1),.bool v21.2]) (P7 e21) ⟨rfl,?_⟩);refine A0.op rfl rfl (A0.op rfl rfl (A0.op rfl rfl ?_));refine A0.chnB rfl rfl (.here (.rx rfl) (.here (.rx rfl) (.here (.rx rfl) (.here (.cl rfl rfl (A7.y (r':=.tup [.agg (A5 false v21.1),.bool v21.2]) (P7 e21) ⟨rfl,rfl⟩)) (.here (.rx rfl) (.here (.rx (Q7 (off':=2) B3 rfl rfl e19 rfl rfl)) (.here (.rx rfl) (.here (.rx rfl) (.here (.rx rfl) (.here (.rx (Q7 (off':=0) B3 rfl rfl e19 rfl rfl)) (.here (.rx rfl) (.here (.rx rfl) (.here (.rx rfl) (.here (.rx rfl) (.here (.rx rfl) .nil))))))))))))))) ?_;refine A0.chnB rfl rfl (.here (.rx rfl) (.skip rfl (.skip rfl (.skip rfl (.skip rfl (.skip rfl (.skip rfl (.skip rfl (.skip rfl (.skip rfl (.skip rfl (.skip rfl (.skip rfl (.skip rfl (.skip rfl .nil))))))))))))))) ?_;refine A0.op rfl rfl (A0.done ?_);refine RW.kp [4,6,8,11,14,15,17,18] [(4,.ptr 1 0),(6,.ptr 2 0),(8,.ptr 3 0),(11,.ptr 11 0),(14,.ptr 14 ((w64 ((v18.1.Used.length:Int) - 1)).toNat*4)),(15,.str v20.1),(17,.ptr 17 0),(18,.bool v21.2)] [some ⟨A9 false x0,0⟩,some ⟨A8 false x1,0⟩,some ⟨[.nils,.nils,.j 0,.nils,.j 0,.j 0,.j 0,.j 0],0⟩,some ⟨C0 5 6 7 v1,0⟩,some ⟨[.j v19.Gen,.j v3.1.Seq,.str v3.1.Body],0⟩,some ⟨fl (encS true) v1.Disk.Sectors,1⟩,some ⟨fl (A1 true) v1.Disk.Cache,2⟩,some ⟨fl (A6 true) v1.Used,4⟩,some ⟨fl (encS true) v9.Disk.Sectors,1⟩,some ⟨fl (A1 true) v9.Disk.Cache,2⟩,some ⟨fl (A6 true) v9.Used,4⟩,some ⟨C0 12 13 14 v18.1,0⟩,some ⟨fl (encS true) v18.1.Disk.Sectors,1⟩,some ⟨fl (A1 true) v18.1.Disk.Cache,2⟩,some ⟨fl (A6 true) (v18.1.Used.take (w64 ((v18.1.Used.length:Int) - 1)).toNat)++((G6 16 v19)++fl (A6 true) (v18.1.Used.drop ((w64 ((v18.1.Used.length:Int) - 1)).toNat+1))),4⟩,some ⟨C0 12 13 14 v18.1,0⟩,some ⟨fl (A8 true) v19.Items,9⟩,some ⟨A5 false v21.1,0⟩] rfl rfl ?_
     refine RW.seq (RW.sf 2 rfl ?_)
     cases hb:(!v21.2)
     ·have h38:=A3 h37 hb;refine RW.cond_f rfl (RW.skip (RW.sr 1 rfl ?_));obtain ⟨v22,e22,h39⟩:=A2 h38;refine rl.call rfl rfl rfl (A7.z (r':=.agg (C3 18 19 v22)) (H':=[some ⟨A9 false x0,0⟩,some ⟨A8 false x1,0⟩,some ⟨[.nils,.nils,.j 0,.nils,.j 0,.j 0,.j 0,.j 0],0⟩,some ⟨C0 5 6 7 v1,0⟩,some ⟨[.j v19.Gen,.j v3.1.Seq,.str v3.1.Body],0⟩,some ⟨fl (encS true) v1.Disk.Sectors,1⟩,some ⟨fl (A1 true) v1.Disk.Cache,2⟩,some ⟨fl (A6 true) v1.Used,4⟩,some ⟨fl (encS true) v9.Disk.Sectors,1⟩,some ⟨fl (A1 true) v9.Disk.Cache,2⟩,some ⟨fl (A6 true) v9.Used,4⟩,some ⟨C0 12 13 14 v18.1,0⟩,some ⟨fl (encS true) v18.1.Disk.Sectors,1⟩,some ⟨fl (A1 true) v18.1.Disk.Cache,2⟩,some ⟨fl (A6 true) (v18.1.Used.take (w64 ((v18.1.Used.length:Int) - 1)).toNat)++((G6 16 v19)++fl (A6 true) (v18.1.Used.drop ((w64 ((v18.1.Used.length:Int) - 1)).toNat+1))),4⟩,some ⟨C0 12 13 14 v18.1,0⟩,some ⟨fl (A8 true) v19.Items,9⟩,some ⟨A5 false v21.1,0⟩,some ⟨fl (encS true) v22.Sectors,1⟩,some ⟨fl (A1 true) v22.Cache,2⟩]) (Dv e22) ?_);refine rl.f 2 rfl (RW.sr 3 rfl ?_);refine rl.op (Q7 (off':=2) B3 rfl rfl e19 rfl rfl) ?_;refine rl.run 5 rfl ?_;refine rl.op0 (Wt (off':=2) (vs':=[.j v19.No,.j v19.Gen,.j (w64 (v19.End+(v20.1.length:Int))),.sl 16 0 v19.Items.length]) B3 e19 rfl rfl rfl rfl rfl rfl rfl rfl rfl) ?_;refine rl.done ?_;refine RW.kp [4,6,11,14] [(4,.ptr 1 0),(6,.ptr 2 0),(11,.ptr 11 0),(14,.ptr 14 ((w64 ((v18.1.Used.length:Int) - 1)).toNat*4))] [some ⟨A9 false x0,0⟩,some ⟨A8 false x1,0⟩,some ⟨[.nils,.nils,.j 0,.nils,.j 0,.j 0,.j 0,.j 0],0⟩,some ⟨C0 5 6 7 v1,0⟩,some ⟨[.j v19.Gen,.j v3.1.Seq,.str v3.1.Body],0⟩,some ⟨fl (encS true) v1.Disk.Sectors,1⟩,some ⟨fl (A1 true) v1.Disk.Cache,2⟩,some ⟨fl (A6 true) v1.Used,4⟩,some ⟨fl (encS true) v9.Disk.Sectors,1⟩,some ⟨fl (A1 true) v9.Disk.Cache,2⟩,some ⟨fl (A6 true) v9.Used,4⟩,some ⟨[.sl 18 0 v22.Sectors.length,.sl 19 0 v22.Cache.length,.j v18.1.Segs,.sl 14 0 v18.1.Used.length,.j v18.1.NextGen,.j v18.1.NextSeq,.j v18.1.Stamp,.j v18.1.NextValid],0⟩,some ⟨fl (encS true) v18.1.Disk.Sectors,1⟩,some ⟨fl (A1 true) v18.1.Disk.Cache,2⟩,some ⟨fl (A6 true) (v18.1.Used.take (w64 ((v18.1.Used.length:Int) - 1)).toNat)++([.j v19.No,.j v19.Gen,.j (w64 (v19.End+(v20.1.length:Int))),.sl 16 0 v19.Items.length]++fl (A6 true) (v18.1.Used.drop ((w64 ((v18.1.Used.length:Int) - 1)).toNat+1))),4⟩,some ⟨C0 12 13 14 v18.1,0⟩,some ⟨fl (A8 true) v19.Items,9⟩,some ⟨A5 false v21.1,0⟩,some ⟨fl (encS true) v22.Sectors,1⟩,some ⟨fl (A1 true) v22.Cache,2⟩] rfl rfl ?_
      refine RW.sdrw (A0.op rfl rfl (A0.op rfl rfl (A0.op rfl rfl (A0.op rfl rfl ?_))));refine A0.op rfl (Q7 (off':=3) B3 rfl rfl e19 rfl rfl) ?_;refine A0.op rfl rfl ?_;refine A0.chnB rfl rfl (.skip rfl (.here (.rx (Q7 (off':=3) B3 rfl rfl e19 rfl rfl)) (.here (.rx rfl) (.here (.rx rfl) (.here (.rx rfl) (.here (.rx rfl) .nil)))))) ?_;obtain ⟨v23,e23,h40⟩:=A2 h39;refine A0.chnB rfl (R5 rfl rfl (Q0 (l:=v19.Items) (m:=[x1]) (o:=true) B9 rfl rfl (L2 (m:=[x1]) (o:=true) M1 rfl rfl) rfl (M1.fst _ _) e23)) (.skip rfl (.skip rfl (.skip rfl (.skip rfl (.skip rfl (.here (.rx rfl) .nil)))))) ?_;refine A0.op rfl rfl (A0.op rfl rfl ?_);refine A0.chn rfl (Wt (off':=3) (vs':=[.j v19.No,.j v19.Gen,.j (w64 (v19.End+(v20.1.length:Int))),.sl 21 0 v23.length]) B3 e19 rfl rfl rfl rfl rfl rfl rfl rfl rfl) ?_;refine A0.done ?_;refine RW.kp [4,6,11] [(4,.ptr 1 0),(6,.ptr 2 0),(11,.ptr 11 0)] [some ⟨A9 false x0,0⟩,some ⟨A8 false x1,0⟩,some ⟨[.nils,.nils,.j 0,.nils,.j 0,.j 0,.j 0,.j 0],0⟩,some ⟨C0 5 6 7 v1,0⟩,some ⟨[.j v19.Gen,.j v3.1.Seq,.str v3.1.Body],0⟩,some ⟨fl (encS true) v1.Disk.Sectors,1⟩,some ⟨fl (A1 true) v1.Disk.Cache,2⟩,some ⟨fl (A6 true) v1.Used,4⟩,some ⟨fl (encS true) v9.Disk.Sectors,1⟩,some ⟨fl (A1 true) v9.Disk.Cache,2⟩,some ⟨fl (A6 true) v9.Used,4⟩,some ⟨[.sl 18 0 v22.Sectors.length,.sl 19 0 v22.Cache.length,.j v18.1.Segs,.sl 14 0 v18.1.Used.length,.j v18.1.NextGen,.j v18.1.NextSeq,.j v18.1.Stamp,.j v18.1.NextValid],0⟩,some ⟨fl (encS true) v18.1.Disk.Sectors,1⟩,some ⟨fl (A1 true) v18.1.Disk.Cache,2⟩,some ⟨fl (A6 true) (v18.1.Used.take (w64 ((v18.1.Used.length:Int) - 1)).toNat)++([.j v19.No,.j v19.Gen,.j (w64 (v19.End+(v20.1.length:Int))),.sl 21 0 v23.length]++fl (A6 true) (v18.1.Used.drop ((w64 ((v18.1.Used.length:Int) - 1)).toNat+1))),4⟩,some ⟨C0 12 13 14 v18.1,0⟩,none,some ⟨A5 false v21.1,0⟩,some ⟨fl (encS true) v22.Sectors,1⟩,some ⟨fl (A1 true) v22.Cache,2⟩,some ⟨fl (A8 true) [x1],9⟩,some ⟨fl (A8 true) v23,9⟩] rfl rfl ?_;refine RW.sf 8 rfl (RW.sf 9 rfl ?_);refine RW.kp [6,11] [(6,.ptr 2 0),(11,.ptr 11 0)] [some ⟨A9 false x0,0⟩,some ⟨A8 false x1,0⟩,some ⟨[.nils,.nils,.j 0,.nils,.j 0,.j 0,.j 0,.j 0],0⟩,some ⟨C0 5 6 7 v1,0⟩,some ⟨[.j v19.Gen,.j v3.1.Seq,.str v3.1.Body],0⟩,some ⟨fl (encS true) v1.Disk.Sectors,1⟩,some ⟨fl (A1 true) v1.Disk.Cache,2⟩,some ⟨fl (A6 true) v1.Used,4⟩,some ⟨fl (encS true) v9.Disk.Sectors,1⟩,some ⟨fl (A1 true) v9.Disk.Cache,2⟩,some ⟨fl (A6 true) v9.Used,4⟩,some ⟨[.sl 18 0 v22.Sectors.length,.sl 19 0 v22.Cache.length,.j v18.1.Segs,.sl 14 0 v18.1.Used.length,.j v18.1.NextGen,.j (if w64 (x1.Seq+1)>v18.1.NextSeq then w64 (x1.Seq+1) else v18.1.NextSeq),.j v18.1.Stamp,.j (if w64 (x1.Rec.Valid+1)>v18.1.NextValid then w64 (x1.Rec.Valid+1) else v18.1.NextValid)],0⟩,some ⟨fl (encS true) v18.1.Disk.Sectors,1⟩,some ⟨fl (A1 true) v18.1.Disk.Cache,2⟩,some ⟨fl (A6 true) (v18.1.Used.take (w64 ((v18.1.Used.length:Int) - 1)).toNat)++([.j v19.No,.j v19.Gen,.j (w64 (v19.End+(v20.1.length:Int))),.sl 21 0 v23.length]++fl (A6 true) (v18.1.Used.drop ((w64 ((v18.1.Used.length:Int) - 1)).toNat+1))),4⟩,some ⟨C0 12 13 14 v18.1,0⟩,none,some ⟨A5 false v21.1,0⟩,some ⟨fl (encS true) v22.Sectors,1⟩,some ⟨fl (A1 true) v22.Cache,2⟩,some ⟨fl (A8 true) [x1],9⟩,some ⟨fl (A8 true) v23,9⟩] rfl rfl ?_
      refine RW.sf 3 rfl ?_
      refine RW.gh (Gh.absorb_rawq (b:=14) (j:=3) (m:=21) rfl rfl rfl (by decide) (by decide) rfl (B9.flen true _) (B9.fown _)) ?_
      obtain ⟨v24,e24,h41⟩:=A2 h40;refine RW.gh (Gh.blk (b:=14) rfl (Wy B3 e19 e24 rfl)) ?_;refine RW.ret ?_;cases h41
      exact RRet.m rfl (OutT.tup (.cons (OutL.agg (.cons (OutR.ownq ekS rfl rfl) rfl (.cons (OutR.ownq B4 rfl rfl) rfl (.i (.cons (OutR.ownq B3 rfl (Z6 e24)) rfl (.i (.i (.i (.i .nil))))))))) (.cons .bool .nil)))
     ·have h42:=A4 h37 hb;refine RW.cond_t rfl (RW.sf 3 rfl ?_)
      refine RW.gh (Gh.absorb_rawq (b:=14) (j:=3) (m:=16) rfl rfl rfl (by decide) (by decide) rfl (B9.flen true _) (B9.fown _)) ?_
      refine RW.gh (Gh.blk (b:=14) rfl (Ek B3 e19).symm) ?_;refine RW.ret ?_;cases h42
      exact RRet.y
    ·have h43:=A4 h33 hb;refine RW.cond_t rfl (RW.sf 3 rfl (RW.ret ?_));cases h43
     exact RRet.y
  ·have h44:=A4 h4 hb;refine RW.cond_t rfl (RW.sf 3 rfl (RW.ret ?_));cases h44
   exact RRet.y
theorem Pd {x0:TLog} {x1:TRec} {x2:Int} {r:TLog×Bool} (hF:W6 x0 x1 x2=some r):B2 Tryz.prog 24 [.agg (A9 false x0),.agg (C6 false x1),.j x2] (.tup [.agg (A9 true r.1),.bool r.2]):=by
 refine B2.q Ru ?_;unfold W6 at hF;refine RW.sf 4 rfl (RW.sr 6 rfl ?_);obtain ⟨v1,e1,h1⟩:=A2 hF;refine rl.call rfl rfl rfl (A7.z (r':=.tup [.agg (C0 3 4 5 v1.1),.bool v1.2]) (H':=[some ⟨A9 false x0,0⟩,some ⟨C6 false x1,0⟩,some ⟨[.nils,.nils,.j 0,.nils,.j 0,.j 0,.j 0,.j 0],0⟩,some ⟨fl (encS true) v1.1.Disk.Sectors,1⟩,some ⟨fl (A1 true) v1.1.Disk.Cache,2⟩,some ⟨fl (A6 true) v1.1.Used,4⟩]) (Mk e1) ?_);refine rl.f 4 rfl ?_;refine RW.kp [6,7] [(6,.ptr 2 0),(7,.bool v1.2)] [some ⟨A9 false x0,0⟩,some ⟨C6 false x1,0⟩,some ⟨C0 3 4 5 v1.1,0⟩,some ⟨fl (encS true) v1.1.Disk.Sectors,1⟩,some ⟨fl (A1 true) v1.1.Disk.Cache,2⟩,some ⟨fl (A6 true) v1.1.Used,4⟩] rfl rfl ?_;refine RW.ret ?_;cases h1
 exact RRet.y
theorem B6 {x0:Int} {x1:Int} {x2:Int} {r:Bool} (hF:B7 x0 x1 x2=some r):B2 Tryz.prog 91 [.j x0,.j x1,.j x2] (.bool r):=by
 refine B2.q A2p ?_;unfold B7 at hF;refine RW.sf 1 rfl (RW.sr 2 rfl ?_)
 refine rl.gen rfl rfl fun b hb=>?_
 cases b
 ·have h1:=A3 hF hb;refine rl.f 6 rfl ?_;refine RW.kp [6] [(6,.bool false)] [] rfl rfl ?_;refine RW.ret ?_;cases h1
  exact RRet.y
 ·have h2:=A4 hF hb;refine rl.f 6 rfl ?_;refine RW.kp [6] [(6,.bool (decide (x0≤x2)))] [] rfl rfl ?_;refine RW.ret ?_;cases h2
  exact RRet.y
theorem Av {x0:TDisk} {r:Bool} (hF:M7 x0=some r):B2 Tryz.prog 89 [.agg (A5 false x0)] (.bool r):=by
 refine B2.q A0l ?_;unfold M7 at hF;refine RW.sf 2 rfl (RW.seq (RW.seq ?_));obtain ⟨y1,ey1,h1⟩:=A2 hF
 refine RW.cutq (σ:=Bool) (fun y1=>[(1,.ptr 0 0),(15,.bool y1)]) (fun y1=>[some ⟨A5 false x0,0⟩]) (fun y=>y1=y) gg ?_ ?_
 ·refine RW.reg ?_;refine rl.run 3 rfl ?_;obtain ⟨v2,e2,h2⟩:=A2 ey1;refine rl.call rfl rfl rfl (A7.y (r':=.bool v2) (B6 e2) ?_)
  cases hb:v2
  ·have h3:=A3 h2 hb;refine rl.f 7 rfl ?_;cases h3
   exact ⟨_,rfl,(Gh.y0 [0])⟩
  ·have h4:=A4 h2 hb;refine rl.run 5 rfl ?_
   refine rl.gen rfl rfl fun b hb=>?_
   cases b
   ·have h5:=A3 h4 hb;refine rl.f 1 rfl ?_;cases h5
    exact ⟨_,rfl,(Gh.y0 [0])⟩
   ·have h6:=A4 h4 hb;refine rl.f 1 rfl ?_;cases h6
    exact ⟨_,rfl,(Gh.y0 [0])⟩
 ·intro y hC
  subst hC
  cases hb:y1
  ·have h7:=A3 h1 hb;refine RW.cond_f rfl (RW.skip (RW.seq (RW.sf 1 rfl ?_)));obtain ⟨y6,ey6,h9⟩:=A2 h7
   refine RW.cutq (σ:=Unit) (fun y4=>[(1,.ptr 0 0)]) (fun y4=>[some ⟨A5 false x0,0⟩]) (fun y=>y6=.inr y) gg ?_ ?_
   ·refine RW.blk ?_
    refine RW.iter (σ:=Int) ey6 (fun s3=>[(1,.ptr 0 0),(3,.j s3)]) (fun s3=>[some ⟨A5 false x0,0⟩]) (Gh.y0 [0]) (fun s3 B o hS8 hB8 hE8=>?_)
    unfold Ar at hS8;refine RW.seq (RW.sr 4 rfl ?_)
    refine rl.gen rfl rfl fun b hb=>?_
    cases b
    ·have h10:=A3 hS8 hb;refine rl.done (RW.cond_f rfl (RW.exit (C7 ?_)));cases h10
     exact ⟨_,(hE8 _ rfl).symm,(Gh.y0 [0])⟩
    ·have h11:=A4 hS8 hb;refine rl.done (RW.cond_t rfl (RW.skip (RW.seq (RW.blk (RW.sr 3 rfl ?_)))));obtain ⟨v5,e5,h12⟩:=A2 h11;refine rl.op (B8 (enc:=encS) (o:=false) rfl rfl rfl e5) ?_;refine rl.op (E2 (off':=0) ekS rfl e5 rfl rfl rfl) ?_;refine rl.run 1 rfl ?_
     refine rl.gen rfl rfl fun b hb=>?_
     cases b
     ·have h13:=A3 h12 hb;refine rl.done ?_;refine RW.kp [1,3,29] [(1,.ptr 0 0),(3,.j s3),(29,.bool false)] [some ⟨A5 false x0,0⟩] rfl rfl ?_;refine RW.cond_f rfl (RW.skip (RW.reg (rl.f 3 rfl ?_)));cases h13
      exact hB8 _ rfl _ _ (Gh.y0 [0])
     ·have h14:=A4 h12 hb;refine rl.done ?_;refine RW.kp [1,3,29] [(1,.ptr 0 0),(3,.j s3),(29,.bool true)] [some ⟨A5 false x0,0⟩] rfl rfl ?_;refine RW.cond_t rfl (RW.sf 1 rfl (RW.ret ?_));cases h14;have h15:=elimL h9 (hE8 _ rfl);cases h15
      exact RRet.y
   ·intro y4 hC
    have h9:=elimR h9 hC;refine RW.seq (RW.sf 1 rfl ?_);obtain ⟨y13,ey13,h17⟩:=A2 h9
    refine RW.cutq (σ:=Unit) (fun y8=>[]) (fun y8=>[]) (fun y=>y13=.inr y) gg ?_ ?_
    ·refine RW.blk ?_
     refine RW.iter (σ:=Int) ey13 (fun s7=>[(1,.ptr 0 0),(4,.j s7)]) (fun s7=>[some ⟨A5 false x0,0⟩]) (Gh.y0 [0]) (fun s7 B o hS16 hB16 hE16=>?_)
     unfold Au at hS16;refine RW.seq (RW.sr 4 rfl ?_)
     refine rl.gen rfl rfl fun b hb=>?_
     cases b
     ·have h18:=A3 hS16 hb;refine rl.done (RW.cond_f rfl (RW.exit (C7 ?_)));cases h18
      exact ⟨_,(hE16 _ rfl).symm,(Gh.y0 [])⟩
     ·have h19:=A4 hS16 hb;refine rl.done (RW.cond_t rfl (RW.skip (RW.seq (RW.blk (RW.seq ?_)))));obtain ⟨y9,ey9,h20⟩:=A2 h19
      refine RW.cutq (σ:=Bool) (fun y9=>[(1,.ptr 0 0),(4,.j s7),(58,.bool y9)]) (fun y9=>[some ⟨A5 false x0,0⟩]) (fun y=>y9=y) gg ?_ ?_
      ·refine RW.drw ?_;refine A0.op rfl rfl (A0.op rfl rfl (A0.op rfl rfl ?_));obtain ⟨v10,e10,h21⟩:=A2 ey9;refine A0.op rfl (B8 (enc:=A1) (o:=false) rfl rfl rfl e10) ?_;refine A0.op rfl rfl ?_;refine A0.op rfl (E2 (off':=0) B4 rfl e10 rfl rfl rfl) ?_;refine A0.op rfl rfl (A0.op rfl rfl (A0.op rfl rfl (A0.op rfl rfl ?_)));obtain ⟨v11,e11,h22⟩:=A2 h21;refine A0.call rfl rfl rfl (A7.y (r':=.bool v11) (B6 e11) ⟨rfl,?_⟩)
       cases hb:v11
       ·have h23:=A3 h22 hb;refine A0.op rfl rfl (A0.op rfl rfl (A0.off rfl (A0.off rfl (A0.off rfl (A0.off rfl (A0.off rfl (A0.off rfl (A0.off rfl (A0.off rfl (A0.op rfl rfl (A0.done ?_)))))))))));cases h23
        exact ⟨_,rfl,(Gh.y0 [0])⟩
       ·have h24:=A4 h22 hb;refine A0.op rfl rfl (A0.op rfl rfl (A0.op rfl rfl (A0.op rfl rfl (A0.op rfl rfl ?_))));obtain ⟨v12,e12,h25⟩:=A2 h24;refine A0.op rfl (B8 (enc:=A1) (o:=false) rfl rfl rfl e12) ?_;refine A0.op rfl rfl ?_;refine A0.op rfl (E2 (off':=1) B4 rfl e12 rfl rfl rfl) ?_;refine A0.op rfl rfl ?_
        refine A0.gen rfl rfl fun b hb=>?_
        cases b
        ·have h26:=A3 h25 hb;refine A0.op rfl rfl (A0.done ?_);cases h26
         exact ⟨_,rfl,(Gh.y0 [0])⟩
        ·have h27:=A4 h25 hb;refine A0.op rfl rfl (A0.done ?_);cases h27
         exact ⟨_,rfl,(Gh.y0 [0])⟩
      ·intro y hC
       subst hC
       cases hb:y9
       ·have h28:=A3 h20 hb;refine RW.cond_f rfl (RW.skip (RW.reg (rl.f 3 rfl ?_)));cases h28
        exact hB16 _ rfl _ _ (Gh.y0 [0])
       ·have h29:=A4 h20 hb;refine RW.cond_t rfl (RW.sf 1 rfl (RW.ret ?_));cases h29;have h30:=elimL h17 (hE16 _ rfl);cases h30
        exact RRet.y
    ·intro y8 hC
     have h17:=elimR h17 hC;refine RW.sf 1 rfl (RW.ret ?_);cases h17
     exact RRet.y
  ·have h31:=A4 h1 hb;refine RW.cond_t rfl (RW.sf 1 rfl (RW.ret ?_));cases h31
   exact RRet.y
theorem Wp {x0:TDisk} {r:Int} (hF:Fr x0=some r):B2 Tryz.prog 90 [.agg (A5 false x0)] (.j r):=by
 refine B2.q A0p ?_;unfold Fr at hF;refine RW.sf 2 rfl (RW.sf 6 rfl (RW.seq (RW.sr 1 rfl ?_)));obtain ⟨v1,e1,h1⟩:=A2 hF;refine rl.call rfl rfl rfl (A7.y (r':=.bool v1) (B6 e1) ?_)
 cases hb:v1
 ·have h2:=A3 h1 hb;refine rl.f 1 rfl (RW.cond_t rfl (RW.sf 1 rfl ?_));refine RW.kp [2] [(2,.j 0)] [some ⟨A5 false x0,0⟩] rfl rfl ?_;refine RW.ret ?_;cases h2
  exact RRet.y
 ·have h3:=A4 h1 hb;refine rl.f 1 rfl (RW.cond_f rfl (RW.skip (RW.sf 2 rfl ?_)));refine RW.kp [2] [(2,.j (w64 (Int.tdiv (w64 ((x0.Sectors.length:Int) - 8)) 8)))] [some ⟨A5 false x0,0⟩] rfl rfl ?_;refine RW.ret ?_;cases h3
  exact RRet.y
theorem Hk {x0:Int} {r:Int} (hF:Q3 x0=some r):B2 Tryz.prog 171 [.j x0] (.j r):=by
 refine B2.q Wh ?_;unfold Q3 at hF;refine RW.sf 1 rfl (RW.seq (RW.sr 1 rfl ?_));obtain ⟨v1,e1,h1⟩:=A2 hF;refine rl.call rfl rfl rfl (A7.y (r':=.bool v1) (B6 e1) ?_)
 cases hb:v1
 ·have h2:=A3 h1 hb;refine rl.f 1 rfl (RW.cond_t rfl (RW.sf 1 rfl (RW.ret ?_)));cases h2
  exact RRet.y
 ·have h3:=A4 h1 hb;refine rl.f 1 rfl (RW.cond_f rfl (RW.skip (RW.sf 4 rfl (RW.ret ?_))));cases h3
  exact RRet.y
theorem Dc {x0:TDisk} {x1:Int} {r:(List UInt8)×Bool} (hF:J9 x0 x1=some r):B2 Tryz.prog 160 [.agg (A5 false x0),.j x1] (.tup [.str r.1,.bool r.2]):=by
 refine B2.q Rp ?_;unfold J9 at hF;refine RW.sf 3 rfl (RW.seq (RW.sr 5 rfl ?_));obtain ⟨v1,e1,h1⟩:=A2 hF;refine rl.call rfl rfl rfl (A7.y (r':=.bool v1) (B6 e1) ?_)
 cases hb:v1
 ·have h2:=A3 h1 hb;refine rl.f 1 rfl (RW.cond_t rfl (RW.sf 2 rfl (RW.ret ?_)));cases h2
  exact RRet.y
 ·have h3:=A4 h1 hb;refine rl.f 1 rfl (RW.cond_f rfl (RW.skip (RW.seq (RW.sf 5 rfl ?_))));refine RW.kp [1,2,6] [(1,.j x1),(2,.ptr 0 0),(6,.j (w64 ((x0.Cache.length:Int) - 1)))] [some ⟨A5 false x0,0⟩] rfl rfl ?_;obtain ⟨y6,ey6,h5⟩:=A2 h3
  refine RW.cutq (σ:=Unit) (fun y3=>[(1,.j x1),(2,.ptr 0 0)]) (fun y3=>[some ⟨A5 false x0,0⟩]) (fun y=>y6=.inr y) gg ?_ ?_
  ·refine RW.blk ?_
   refine RW.iter (σ:=Int) ey6 (fun s2=>[(1,.j x1),(2,.ptr 0 0),(6,.j s2)]) (fun s2=>[some ⟨A5 false x0,0⟩]) (Gh.y0 [0]) (fun s2 B o hS4 hB4 hE4=>?_)
   unfold L8 at hS4;refine RW.seq (RW.sr 1 rfl ?_)
   refine rl.gen rfl rfl fun b hb=>?_
   cases b
   ·have h6:=A3 hS4 hb;refine rl.done (RW.cond_f rfl (RW.exit (C7 ?_)));cases h6
    exact ⟨_,(hE4 _ rfl).symm,(Gh.y0 [0])⟩
   ·have h7:=A4 hS4 hb;refine rl.done (RW.cond_t rfl (RW.skip (RW.seq (RW.blk (RW.sr 3 rfl ?_)))));obtain ⟨v4,e4,h8⟩:=A2 h7;refine rl.op (B8 (enc:=A1) (o:=false) rfl rfl rfl e4) ?_;refine rl.run 1 rfl ?_;refine rl.op (E2 (off':=0) B4 rfl e4 rfl rfl rfl) ?_;refine rl.run 1 rfl ?_
    refine rl.gen rfl rfl fun b hb=>?_
    cases b
    ·have h9:=A3 h8 hb;refine rl.done (RW.cond_f rfl (RW.skip (RW.reg (rl.f 3 rfl ?_))));cases h9
     exact hB4 _ rfl _ _ (Gh.y0 [0])
    ·have h10:=A4 h8 hb;refine rl.done (RW.cond_t rfl (RW.sr 3 rfl ?_));obtain ⟨v5,e5,h11⟩:=A2 h10;refine rl.op (B8 (enc:=A1) (o:=false) rfl rfl rfl e5) ?_;refine rl.run 1 rfl ?_;refine rl.op (E2 (off':=1) B4 rfl e5 rfl rfl rfl) ?_;refine rl.f 2 rfl ?_;refine RW.kp [4,5] [(4,.str v5.Text),(5,.bool true)] [some ⟨A5 false x0,0⟩] rfl rfl ?_;refine RW.ret ?_;cases h11;have h12:=elimL h5 (hE4 _ rfl);cases h12
     exact RRet.y
  ·intro y3 hC
   have h5:=elimR h5 hC;refine RW.sr 3 rfl ?_;obtain ⟨v7,e7,h13⟩:=A2 h5;refine rl.op (B8 (enc:=encS) (o:=false) rfl rfl rfl e7) ?_;refine rl.op (E2 (off':=0) ekS rfl e7 rfl rfl rfl) ?_;refine rl.f 2 rfl (RW.ret ?_);cases h13
   exact RRet.y
theorem Mb {x0:TDisk} {x1:Int} {x2:Int} {r:(List UInt8)×Bool} (hF:V9 x0 x1 x2=some r):B2 Tryz.prog 188 [.agg (A5 false x0),.j x1,.j x2] (.tup [.str r.1,.bool r.2]):=by
 refine B2.q Rb ?_;unfold V9 at hF;refine RW.sf 3 rfl (RW.seq (RW.sr 1 rfl ?_));obtain ⟨v1,e1,h1⟩:=A2 hF;refine rl.call rfl rfl rfl (A7.y (r':=.bool v1) (B6 e1) ?_)
 cases hb:v1
 ·have h2:=A3 h1 hb;refine rl.f 1 rfl (RW.cond_t rfl (RW.sf 2 rfl (RW.ret ?_)));cases h2
  exact RRet.y
 ·have h3:=A4 h1 hb;refine rl.f 1 rfl (RW.cond_f rfl (RW.skip (RW.sf 1 rfl (RW.seq (RW.sf 1 rfl ?_)))));obtain ⟨y7,ey7,h5⟩:=A2 h3
  refine RW.cutq (σ:=(List UInt8)) (fun y3=>[(8,.str y3)]) (fun y3=>[]) (fun y=>y7=.inr y) gg ?_ ?_
  ·refine RW.blk ?_
   refine RW.iter (σ:=(List UInt8)×Int) ey7 (fun s2=>[(1,.j x1),(2,.j x2),(3,.ptr 0 0),(8,.str s2.1),(9,.j s2.2)]) (fun s2=>[some ⟨A5 false x0,0⟩]) (Gh.y0 [0]) (fun s2 B o hS4 hB4 hE4=>?_)
   unfold R1 at hS4;refine RW.seq (RW.sr 2 rfl ?_)
   refine rl.gen rfl rfl fun b hb=>?_
   cases b
   ·have h6:=A3 hS4 hb;refine rl.done (RW.cond_f rfl (RW.exit (C7 ?_)));cases h6
    exact ⟨_,(hE4 _ rfl).symm,(Gh.y0 [])⟩
   ·have h7:=A4 hS4 hb;refine rl.done (RW.cond_t rfl (RW.skip (RW.seq (RW.blk (RW.seq (RW.seq ?_))))));obtain ⟨y4,ey4,h8⟩:=A2 h7
    refine RW.cutq (σ:=Bool) (fun y4=>[(1,.j x1),(2,.j x2),(3,.ptr 0 0),(8,.str s2.1),(9,.j s2.2),(28,.bool y4)]) (fun y4=>[some ⟨A5 false x0,0⟩]) (fun y=>y4=y) gg ?_ ?_
    ·refine RW.reg ?_;refine rl.run 1 rfl ?_
     refine rl.gen rfl rfl fun b hb=>?_
     cases b
     ·have h9:=A3 ey4 hb;refine rl.run 5 rfl ?_
      refine rl.gen rfl rfl fun b hb=>?_
      cases b
      ·have h10:=A3 h9 hb;refine rl.f 1 rfl ?_;cases h10
       exact ⟨_,rfl,(Gh.y0 [0])⟩
      ·have h11:=A4 h9 hb;refine rl.f 1 rfl ?_;cases h11
       exact ⟨_,rfl,(Gh.y0 [0])⟩
     ·have h12:=A4 ey4 hb;refine rl.f 7 rfl ?_;cases h12
      exact ⟨_,rfl,(Gh.y0 [0])⟩
    ·intro y hC
     subst hC
     cases hb:y4
     ·have h13:=A3 h8 hb;refine RW.cond_f rfl (RW.skip (RW.sr 4 rfl ?_));obtain ⟨v5,e5,h14⟩:=A2 h13;refine rl.call rfl rfl rfl (A7.y (r':=.tup [.str v5.1,.bool v5.2]) (Dc e5) ?_);refine rl.f 5 rfl (RW.seq (RW.sf 2 rfl ?_));refine RW.kp [1,2,3,8,9,10,38] [(1,.j x1),(2,.j x2),(3,.ptr 0 0),(8,.str s2.1),(9,.j s2.2),(10,.str v5.1),(38,.bool (!v5.2))] [some ⟨A5 false x0,0⟩] rfl rfl ?_
      cases hb:(!v5.2)
      ·have h15:=A3 h14 hb;refine RW.cond_f rfl (RW.skip (RW.reg (rl.run 2 rfl ?_)));obtain ⟨v6,e6,h16⟩:=A2 h15;refine rl.op (Q8 rfl rfl e6) ?_;refine rl.f 1 rfl (RW.reg (rl.f 3 rfl ?_));cases h16
       exact hB4 _ rfl _ _ (Gh.y0 [0])
      ·have h17:=A4 h14 hb;refine RW.cond_t rfl (RW.sf 2 rfl (RW.ret ?_));cases h17;have h18:=elimL h5 (hE4 _ rfl);cases h18
       exact RRet.y
     ·have h19:=A4 h8 hb;refine RW.cond_t rfl (RW.sf 2 rfl (RW.ret ?_));cases h19;have h20:=elimL h5 (hE4 _ rfl);cases h20
      exact RRet.y
  ·intro y3 hC
   have h5:=elimR h5 hC;refine RW.sf 3 rfl (RW.ret ?_);cases h5
   exact RRet.y
theorem Jc {x0:TDisk} {x1:Int} {r:List UInt8} (hF:Ac x0 x1=some r):B2 Tryz.prog 173 [.agg (A5 false x0),.j x1] (.str r):=by
 refine B2.q Zy ?_;unfold Ac at hF;refine RW.sf 2 rfl (RW.seq (RW.sr 1 rfl ?_));obtain ⟨v1,e1,h1⟩:=A2 hF;refine rl.call rfl rfl rfl (A7.y (r':=.bool v1) (B6 e1) ?_)
 cases hb:v1
 ·have h2:=A3 h1 hb;refine rl.f 1 rfl (RW.cond_t rfl (RW.sf 1 rfl (RW.ret ?_)));cases h2
  exact RRet.y
 ·have h3:=A4 h1 hb;refine rl.f 1 rfl (RW.cond_f rfl (RW.skip (RW.sdrw (A0.op rfl rfl (A0.op rfl rfl ?_)))));obtain ⟨v2,e2,h4⟩:=A2 h3;refine A0.call rfl rfl rfl (A7.y (r':=.j v2) (Hk e2) ⟨rfl,?_⟩);obtain ⟨v3,e3,h5⟩:=A2 h4;refine A0.call rfl rfl rfl (A7.y (r':=.tup [.str v3.1,.bool v3.2]) (Mb e3) ⟨rfl,?_⟩);refine A0.op rfl rfl (A0.op rfl rfl (A0.op rfl rfl (A0.op rfl rfl (A0.op rfl rfl (A0.done ?_)))));refine RW.kp [5] [(5,.str v3.1)] [some ⟨A5 false x0,0⟩] rfl rfl ?_;refine RW.sf 2 rfl (RW.ret ?_);cases h5
  exact RRet.y
theorem C9 {x0:Int} {r:List UInt8} (hF:D6 x0=some r):B2 Tryz.prog 97 [.j x0] (.str r):=by
 refine B2.q A0g ?_;unfold D6 at hF;refine RW.sf 1 rfl (RW.sf 2 rfl (RW.seq ?_));refine RW.gh (Gh.nil_t 3 1 rfl) ?_;obtain ⟨y4,ey4,h2⟩:=A2 hF
 refine RW.cutq (σ:=Int×(List Int)) (fun y2=>[(0,.j y2.1),(3,.sl 0 0 y2.2.length)]) (fun y2=>[some ⟨fl (encB true) y2.2,1⟩]) (fun y=>y4=y) gg ?_ ?_
 ·refine RW.blk ?_
  refine RW.iter (σ:=Int×(List Int)) ey4 (fun s1=>[(0,.j s1.1),(3,.sl 0 0 s1.2.length)]) (fun s1=>[some ⟨fl (encB true) s1.2,1⟩]) (Gh.y0 [0]) (fun s1 B o hS1 hB1 hE1=>?_)
  unfold U7 at hS1;refine RW.seq (RW.sr 1 rfl ?_)
  refine rl.gen rfl rfl fun b hb=>?_
  cases b
  ·have h3:=A3 hS1 hb;refine rl.done (RW.cond_f rfl (RW.exit (C7 ?_)));cases h3
   exact ⟨_,(hE1 _ rfl).symm,(Gh.y0 [0])⟩
  ·have h4:=A4 hS1 hb;refine rl.done (RW.cond_t rfl (RW.skip (RW.blk (RW.sr 6 rfl ?_))));obtain ⟨v3,e3,h5⟩:=A2 h4;refine rl.op (R5 rfl rfl (Q0 (l:=s1.2) (m:=[IntKind.u8.wrap (w64 ((Int.tmod s1.1 128)+128))]) (o:=true) ekB rfl rfl (L2 (m:=[IntKind.u8.wrap (w64 ((Int.tmod s1.1 128)+128))]) (o:=true) fkB rfl rfl) rfl (fkB.fst _ _) e3)) ?_;refine rl.f 1 rfl (RW.reg (rl.f 3 rfl ?_));cases h5
   exact hB1 _ rfl _ _ (Gh.y0 [2])
 ·intro y2 hC
  subst hC;refine RW.sr 4 rfl ?_;obtain ⟨v5,e5,h6⟩:=A2 h2;refine rl.op (R5 rfl rfl (Q0 (l:=y4.2) (m:=[IntKind.u8.wrap y4.1]) (o:=true) ekB rfl rfl (L2 (m:=[IntKind.u8.wrap y4.1]) (o:=true) fkB rfl rfl) rfl (fkB.fst _ _) e5)) ?_;refine rl.op (Gs (o:=true) (l:=v5) rfl rfl) ?_;refine rl.f 1 rfl (RW.ret ?_);cases h6
  exact RRet.y
theorem Cq {x0:List UInt8} {x1:Int} {r:Int×Int×Bool} (hF:P3 x0 x1=some r):B2 Tryz.prog 156 [.str x0,.j x1] (.tup [.j r.1,.j r.2.1,.bool r.2.2]):=by
 refine B2.q Yy ?_;unfold P3 at hF;refine RW.sf 3 rfl (RW.seq (RW.sr 3 rfl ?_));obtain ⟨v1,e1,h1⟩:=A2 hF;refine rl.call rfl rfl rfl (A7.y (r':=.bool v1) (B6 e1) ?_)
 cases hb:v1
 ·have h2:=A3 h1 hb;refine rl.f 1 rfl (RW.cond_t rfl (RW.sf 3 rfl (RW.ret ?_)));cases h2
  exact RRet.y
 ·have h3:=A4 h1 hb;refine rl.f 1 rfl (RW.cond_f rfl (RW.skip (RW.sf 1 rfl (RW.sf 1 rfl (RW.seq (RW.sreg ?_))))));refine rl.f 2 rfl ?_;obtain ⟨y10,ey10,h5⟩:=A2 h3
  refine RW.cutq (σ:=Unit) (fun y3=>[]) (fun y3=>[]) (fun y=>y10=.inr y) gg ?_ ?_
  ·refine RW.blk ?_
   refine RW.iter (σ:=Int×Int×Int) ey10 (fun s2=>[(0,.str x0),(1,.j x1),(7,.j s2.1),(8,.j s2.2.1),(9,.j s2.2.2)]) (fun s2=>[]) (Gh.y0 []) (fun s2 B o hS4 hB4 hE4=>?_)
   unfold M4 at hS4;refine RW.seq (RW.seq ?_);obtain ⟨y4,ey4,h6⟩:=A2 hS4
   refine RW.cutq (σ:=Bool) (fun y4=>[(0,.str x0),(1,.j x1),(7,.j s2.1),(8,.j s2.2.1),(9,.j s2.2.2),(25,.bool y4)]) (fun y4=>[]) (fun y=>y4=y) gg ?_ ?_
   ·refine RW.reg ?_;refine rl.run 3 rfl ?_
    refine rl.gen rfl rfl fun b hb=>?_
    cases b
    ·have h7:=A3 ey4 hb;refine rl.f 6 rfl ?_;cases h7
     exact ⟨_,rfl,(Gh.y0 [])⟩
    ·have h8:=A4 ey4 hb;refine rl.run 4 rfl ?_
     refine rl.gen rfl rfl fun b hb=>?_
     cases b
     ·have h9:=A3 h8 hb;refine rl.f 1 rfl ?_;cases h9
      exact ⟨_,rfl,(Gh.y0 [])⟩
     ·have h10:=A4 h8 hb;refine rl.f 1 rfl ?_;cases h10
      exact ⟨_,rfl,(Gh.y0 [])⟩
   ·intro y hC
    subst hC
    cases hb:y4
    ·have h11:=A3 h6 hb;refine RW.cond_f rfl (RW.exit (C7 ?_));cases h11
     exact ⟨_,(hE4 _ rfl).symm,(Gh.y0 [])⟩
    ·have h12:=A4 h6 hb;refine RW.cond_t rfl (RW.skip (RW.seq (RW.blk (RW.sr 3 rfl ?_))));obtain ⟨v5,e5,h13⟩:=A2 h12;refine rl.op (Kj rfl rfl e5) ?_;refine rl.f 6 rfl (RW.sf 3 rfl ?_);refine RW.kp [0,1,7,8,9] [(0,.str x0),(1,.j x1),(7,.j (w64 (s2.1+(w64 ((Int.tmod (w64 (v5.toNat:Int)) 128)*s2.2.1))))),(8,.j (w64 (s2.2.1*128))),(9,.j s2.2.2)] [] rfl rfl ?_;refine RW.sr 2 rfl ?_;obtain ⟨v6,e6,h14⟩:=A2 h13;refine rl.op (Kj rfl rfl e6) ?_
     refine rl.gen rfl rfl fun b hb=>?_
     cases b
     ·have h15:=A3 h14 hb;refine rl.done (RW.cond_f rfl (RW.skip (RW.reg (rl.f 3 rfl ?_))));cases h15
      exact hB4 _ rfl _ _ (Gh.y0 [])
     ·have h16:=A4 h14 hb;refine rl.done (RW.cond_t rfl (RW.seq (RW.seq ?_)));obtain ⟨y7,ey7,h17⟩:=A2 h16
      refine RW.cutq (σ:=Bool) (fun y7=>[(7,.j (w64 (s2.1+(w64 ((Int.tmod (w64 (v5.toNat:Int)) 128)*s2.2.1))))),(9,.j s2.2.2),(54,.bool y7)]) (fun y7=>[]) (fun y=>y7=y) gg ?_ ?_
      ·refine RW.drw ?_;refine A0.op rfl rfl ?_
       refine A0.gen rfl rfl fun b hb=>?_
       cases b
       ·have h18:=A3 ey7 hb;refine A0.op rfl rfl (A0.op rfl rfl ?_);obtain ⟨v8,e8,h19⟩:=A2 h18;refine A0.call rfl rfl rfl (A7.y (r':=.str v8) (C9 e8) ⟨rfl,?_⟩);refine A0.op rfl rfl (A0.op rfl rfl (A0.op rfl rfl (A0.op rfl rfl ?_)));obtain ⟨v9,e9,h20⟩:=A2 h19;refine A0.op rfl (He rfl rfl rfl Fb e9) ?_
        refine A0.gen rfl rfl fun b hb=>?_
        cases b
        ·have h21:=A3 h20 hb;refine A0.op rfl rfl (A0.done ?_);cases h21
         exact ⟨_,rfl,(Gh.y0 [])⟩
        ·have h22:=A4 h20 hb;refine A0.op rfl rfl (A0.done ?_);cases h22
         exact ⟨_,rfl,(Gh.y0 [])⟩
       ·have h23:=A4 ey7 hb;refine A0.op rfl rfl (A0.off rfl (A0.off rfl (A0.off rfl (A0.off rfl (A0.off rfl (A0.off rfl (A0.off rfl (A0.off rfl (A0.op rfl rfl (A0.done ?_))))))))));cases h23
        exact ⟨_,rfl,(Gh.y0 [])⟩
      ·intro y hC
       subst hC
       cases hb:y7
       ·have h24:=A3 h17 hb;refine RW.cond_f rfl (RW.skip (RW.sf 6 rfl (RW.ret ?_)));cases h24;have h25:=elimL h5 (hE4 _ rfl);cases h25
        exact RRet.y
       ·have h26:=A4 h17 hb;refine RW.cond_t rfl (RW.sf 3 rfl (RW.ret ?_));cases h26;have h27:=elimL h5 (hE4 _ rfl);cases h27
        exact RRet.y
  ·intro y3 hC
   have h5:=elimR h5 hC;refine RW.sf 3 rfl (RW.ret ?_);cases h5
   exact RRet.y
theorem Hd {x0:List UInt8} {x1:Int} {r:(List UInt8)×Int×Bool} (hF:T0 x0 x1=some r):B2 Tryz.prog 104 [.str x0,.j x1] (.tup [.str r.1,.j r.2.1,.bool r.2.2]):=by
 refine B2.q Tr ?_;unfold T0 at hF;refine RW.sf 3 rfl (RW.sr 2 rfl ?_);obtain ⟨v1,e1,h1⟩:=A2 hF;refine rl.call rfl rfl rfl (A7.y (r':=.tup [.j v1.1,.j v1.2.1,.bool v1.2.2]) (Cq e1) ?_);refine rl.f 7 rfl ?_;refine RW.kp [0,7,8,9] [(0,.str x0),(7,.j v1.1),(8,.j v1.2.1),(9,.bool v1.2.2)] [] rfl rfl ?_;refine RW.seq (RW.seq ?_);obtain ⟨y2,ey2,h2⟩:=A2 h1
 refine RW.cutq (σ:=Bool) (fun y2=>[(0,.str x0),(7,.j v1.1),(8,.j v1.2.1),(30,.bool y2)]) (fun y2=>[]) (fun y=>y2=y) gg ?_ ?_
 ·refine RW.reg ?_;refine rl.run 3 rfl ?_
  cases hb:(!v1.2.2)
  ·have h3:=A3 ey2 hb;refine rl.run 1 rfl ?_
   refine rl.gen rfl rfl fun b hb=>?_
   cases b
   ·have h4:=A3 h3 hb;refine rl.run 7 rfl ?_
    refine rl.gen rfl rfl fun b hb=>?_
    cases b
    ·have h5:=A3 h4 hb;refine rl.f 1 rfl ?_;cases h5
     exact ⟨_,rfl,(Gh.y0 [])⟩
    ·have h6:=A4 h4 hb;refine rl.f 1 rfl ?_;cases h6
     exact ⟨_,rfl,(Gh.y0 [])⟩
   ·have h7:=A4 h3 hb;refine rl.f 9 rfl ?_;cases h7
    exact ⟨_,rfl,(Gh.y0 [])⟩
  ·have h8:=A4 ey2 hb;refine rl.f 11 rfl ?_;cases h8
   exact ⟨_,rfl,(Gh.y0 [])⟩
 ·intro y hC
  subst hC
  cases hb:y2
  ·have h9:=A3 h2 hb;refine RW.cond_f rfl (RW.skip (RW.sr 5 rfl ?_));obtain ⟨v3,e3,h10⟩:=A2 h9;refine rl.op (He rfl rfl rfl Fb e3) ?_;refine rl.f 6 rfl ?_;refine RW.kp [4,5,6] [(4,.str v3),(5,.j (w64 (v1.2.1+v1.1))),(6,.bool true)] [] rfl rfl ?_;refine RW.ret ?_;cases h10
   exact RRet.y
  ·have h11:=A4 h2 hb;refine RW.cond_t rfl (RW.sf 3 rfl (RW.ret ?_));cases h11
   exact RRet.y
theorem Fi {x0:TFrame} {r:Bool} (hF:T5 x0=some r):B2 Tryz.prog 170 [.agg (B5 false x0)] (.bool r):=by
 refine B2.q Ye ?_;unfold T5 at hF;refine RW.sf 2 rfl (RW.seq ?_);obtain ⟨y1,ey1,h1⟩:=A2 hF
 refine RW.cutq (σ:=Bool) (fun y1=>[(2,.bool y1)]) (fun y1=>[]) (fun y=>y1=y) gg ?_ ?_
 ·refine RW.reg ?_;refine rl.run 2 rfl ?_;obtain ⟨v2,e2,h2⟩:=A2 ey1;refine rl.call rfl rfl rfl (A7.y (r':=.bool v2) (B6 e2) ?_)
  cases hb:v2
  ·have h3:=A3 h2 hb;refine rl.f 12 rfl ?_;cases h3
   exact ⟨_,rfl,(Gh.y0 [])⟩
  ·have h4:=A4 h2 hb;refine rl.run 3 rfl ?_;obtain ⟨v3,e3,h5⟩:=A2 h4;refine rl.call rfl rfl rfl (A7.y (r':=.bool v3) (B6 e3) ?_)
   cases hb:v3
   ·have h6:=A3 h5 hb;refine rl.f 8 rfl ?_;cases h6
    exact ⟨_,rfl,(Gh.y0 [])⟩
   ·have h7:=A4 h5 hb;refine rl.run 5 rfl ?_;obtain ⟨v4,e4,h8⟩:=A2 h7;refine rl.call rfl rfl rfl (A7.y (r':=.bool v4) (B6 e4) ?_);refine rl.f 2 rfl ?_;cases h8
    exact ⟨_,rfl,(Gh.y0 [])⟩
 ·intro y hC
  subst hC;refine RW.ret ?_;cases h1
  exact RRet.y
theorem Uu {x0:Int} {r:List UInt8} (hF:Et x0=some r):B2 Tryz.prog 153 [.int .u32 x0] (.str r):=by
 refine B2.q Yj ?_;unfold Et at hF;refine RW.sf 1 rfl (RW.sr 12 rfl ?_);refine rl.op (Gs (o:=true) (l:=[IntKind.u8.wrap (shrv .u32 x0 24),IntKind.u8.wrap (shrv .u32 x0 16),IntKind.u8.wrap (shrv .u32 x0 8),IntKind.u8.wrap x0]) rfl rfl) ?_;refine rl.f 1 rfl ?_;refine RW.kp [2] [(2,.str ([IntKind.u8.wrap (shrv .u32 x0 24),IntKind.u8.wrap (shrv .u32 x0 16),IntKind.u8.wrap (shrv .u32 x0 8),IntKind.u8.wrap x0].map ofI))] [some ⟨fl (encB true) [IntKind.u8.wrap (shrv .u32 x0 24),IntKind.u8.wrap (shrv .u32 x0 16),IntKind.u8.wrap (shrv .u32 x0 8),IntKind.u8.wrap x0],1⟩] rfl rfl ?_;refine RW.ret ?_;cases hF
 exact RRet.y
theorem Vf {x0:Int} {x1:List UInt8} {r:Int} (hF:Bt x0 x1=some r):B2 Tryz.prog 178 [.int .u32 x0,.str x1] (.int .u32 r):=by
 refine B2.q Zi ?_;unfold Bt at hF;refine RW.sf 1 rfl (RW.seq (RW.sf 1 rfl ?_));obtain ⟨y7,ey7,h2⟩:=A2 hF
 refine RW.cutq (σ:=Int) (fun y2=>[(0,.int .u32 y2)]) (fun y2=>[]) (fun y=>y7=y) gg ?_ ?_
 ·refine RW.blk ?_
  refine RW.iter (σ:=Int×Int) ey7 (fun s1=>[(0,.int .u32 s1.1),(1,.str x1),(5,.j s1.2)]) (fun s1=>[]) (Gh.y0 []) (fun s1 B o hS1 hB1 hE1=>?_)
  unfold X2 at hS1;refine RW.seq (RW.sr 3 rfl ?_)
  refine rl.gen rfl rfl fun b hb=>?_
  cases b
  ·have h3:=A3 hS1 hb;refine rl.done (RW.cond_f rfl (RW.exit (C7 ?_)));cases h3
   exact ⟨_,(hE1 _ rfl).symm,(Gh.y0 [])⟩
  ·have h4:=A4 hS1 hb;refine rl.done (RW.cond_t rfl (RW.skip (RW.seq (RW.blk (RW.sr 3 rfl ?_)))));obtain ⟨v3,e3,h5⟩:=A2 h4;refine rl.op (Kj rfl rfl e3) ?_;refine rl.f 3 rfl (RW.sf 1 rfl ?_);obtain ⟨y6,ey6,h7⟩:=A2 h5
   refine RW.cutq (σ:=Int) (fun y5=>[(0,.int .u32 y5),(1,.str x1),(5,.j s1.2)]) (fun y5=>[]) (fun y=>y6=y) gg ?_ ?_
   ·refine RW.blk ?_
    refine RW.iter (σ:=Int×Int) ey6 (fun s4=>[(0,.int .u32 s4.1),(1,.str x1),(5,.j s1.2),(6,.j s4.2)]) (fun s4=>[]) (Gh.y0 []) (fun s4 B o hS6 hB6 hE6=>?_)
    unfold X1 at hS6;refine RW.seq (RW.sr 1 rfl ?_)
    refine rl.gen rfl rfl fun b hb=>?_
    cases b
    ·have h8:=A3 hS6 hb;refine rl.done (RW.cond_f rfl (RW.exit (C7 ?_)));cases h8
     exact ⟨_,(hE6 _ rfl).symm,(Gh.y0 [])⟩
    ·have h9:=A4 hS6 hb;refine rl.done (RW.cond_t rfl (RW.skip (RW.seq (RW.blk (RW.sr 2 rfl ?_)))))
     refine rl.gen rfl rfl fun b hb=>?_
     cases b
     ·have h10:=A3 h9 hb;refine rl.f 1 rfl (RW.sf 3 rfl (RW.sf 1 rfl (RW.cond_f rfl (RW.skip (RW.reg (rl.run 3 rfl ?_))))));refine rl.done ?_;cases h10
      exact hB6 _ rfl _ _ (Gh.y0 [])
     ·have h11:=A4 h9 hb;refine rl.f 1 rfl (RW.sf 3 rfl (RW.sf 1 rfl (RW.cond_t rfl (RW.reg (rl.f 3 rfl ?_)))));refine RW.reg (rl.f 3 rfl ?_);cases h11
      exact hB6 _ rfl _ _ (Gh.y0 [])
   ·intro y5 hC
    subst hC;refine RW.reg (rl.f 3 rfl ?_);cases h7
    exact hB1 _ rfl _ _ (Gh.y0 [])
 ·intro y2 hC
  subst hC;refine RW.sf 2 rfl (RW.ret ?_);cases h2
  exact RRet.y
theorem Yg {x0:List UInt8} {r:Int} (hF:Ej x0=some r):B2 Tryz.prog 154 [.str x0] (.int .u32 r):=by
 refine B2.q A2f ?_;unfold Ej at hF;refine RW.sf 1 rfl (RW.sr 1 rfl ?_);obtain ⟨v1,e1,h1⟩:=A2 hF;refine rl.call rfl rfl rfl (A7.y (r':=.int .u32 v1) (Vf e1) ?_);refine rl.f 1 rfl (RW.ret ?_);cases h1
 exact RRet.y
theorem Ki {x0:List UInt8} {r:(List UInt8)×Bool} (hF:Bg x0=some r):B2 Tryz.prog 98 [.str x0] (.tup [.str r.1,.bool r.2]):=by
 refine B2.q A0x ?_;unfold Bg at hF;refine RW.sf 2 rfl (RW.seq (RW.sr 2 rfl ?_))
 refine rl.gen rfl rfl fun b hb=>?_
 cases b
 ·have h1:=A3 hF hb;refine rl.done (RW.cond_f rfl (RW.skip (RW.sr 2 rfl ?_)));obtain ⟨v1,e1,h2⟩:=A2 h1;refine rl.call rfl rfl rfl (A7.y (r':=.int .u32 v1) (Yg e1) ?_);obtain ⟨v2,e2,h3⟩:=A2 h2;refine rl.call rfl rfl rfl (A7.y (r':=.str v2) (Uu e2) ?_);obtain ⟨v3,e3,h4⟩:=A2 h3;refine rl.op (Q8 rfl rfl e3) ?_;refine rl.f 2 rfl (RW.ret ?_);cases h4
  exact RRet.y
 ·have h5:=A4 hF hb;refine rl.done (RW.cond_t rfl (RW.sf 2 rfl (RW.ret ?_)));cases h5
  exact RRet.y
theorem U2 {x0:TFrame} {r:(List UInt8)×Bool} (hF:H6 x0=some r):B2 Tryz.prog 146 [.agg (B5 false x0)] (.tup [.str r.1,.bool r.2]):=by
 refine B2.q Um ?_;unfold H6 at hF;refine RW.sf 3 rfl (RW.seq (RW.sr 1 rfl ?_));obtain ⟨v1,e1,h1⟩:=A2 hF;refine rl.call rfl rfl rfl (A7.y (r':=.bool v1) (Fi e1) ?_)
 cases hb:v1
 ·have h2:=A3 h1 hb;refine rl.f 1 rfl (RW.cond_t rfl (RW.sf 2 rfl (RW.ret ?_)));cases h2
  exact RRet.y
 ·have h3:=A4 h1 hb;refine rl.f 1 rfl (RW.cond_f rfl (RW.skip (RW.sdrw (A0.op rfl rfl (A0.op rfl rfl ?_)))));obtain ⟨v2,e2,h4⟩:=A2 h3;refine A0.call rfl rfl rfl (A7.y (r':=.str v2) (C9 e2) ⟨rfl,?_⟩);refine A0.op rfl rfl (A0.op rfl rfl ?_);obtain ⟨v3,e3,h5⟩:=A2 h4;refine A0.call rfl rfl rfl (A7.y (r':=.str v3) (C9 e3) ⟨rfl,?_⟩);obtain ⟨v4,e4,h6⟩:=A2 h5;refine A0.op rfl (Q8 rfl rfl e4) ?_;refine A0.op rfl rfl (A0.op rfl rfl (A0.op rfl rfl ?_));obtain ⟨v5,e5,h7⟩:=A2 h6;refine A0.call rfl rfl rfl (A7.y (r':=.str v5) (C9 e5) ⟨rfl,?_⟩);obtain ⟨v6,e6,h8⟩:=A2 h7;refine A0.op rfl (Q8 rfl rfl e6) ?_;refine A0.op rfl rfl (A0.op rfl rfl ?_);obtain ⟨v7,e7,h9⟩:=A2 h8;refine A0.op rfl (Q8 rfl rfl e7) ?_;obtain ⟨v8,e8,h10⟩:=A2 h9;refine A0.call rfl rfl rfl (A7.y (r':=.tup [.str v8.1,.bool v8.2]) (Ki e8) ⟨rfl,?_⟩);refine A0.op rfl rfl (A0.op rfl rfl (A0.op rfl rfl (A0.op rfl rfl (A0.done ?_))));refine RW.kp [2,3] [(2,.str v8.1),(3,.bool v8.2)] [some ⟨B5 false x0,0⟩] rfl rfl ?_;refine RW.ret ?_;cases h10
  exact RRet.y
theorem Gn {x0:List UInt8} {x1:Int} {r:TFrame×Int×Bool} (hF:R9 x0 x1=some r):B2 Tryz.prog 174 [.str x0,.j x1] (.tup [.agg (B5 true r.1),.j r.2.1,.bool r.2.2]):=by
 refine B2.q Vb ?_;unfold R9 at hF;refine RW.sf 3 rfl (RW.sr 2 rfl ?_);obtain ⟨v1,e1,h1⟩:=A2 hF;refine rl.call rfl rfl rfl (A7.y (r':=.tup [.j v1.1,.j v1.2.1,.bool v1.2.2]) (Cq e1) ?_);refine rl.f 7 rfl (RW.sr 2 rfl ?_);obtain ⟨v2,e2,h2⟩:=A2 h1;refine rl.call rfl rfl rfl (A7.y (r':=.tup [.j v2.1,.j v2.2.1,.bool v2.2.2]) (Cq e2) ?_);refine rl.f 7 rfl ?_;refine RW.kp [0,1,4,7,9,10,11,12] [(0,.str x0),(1,.j x1),(4,.ptr 0 0),(7,.j v1.1),(9,.bool v1.2.2),(10,.j v2.1),(11,.j v2.2.1),(12,.bool v2.2.2)] [some ⟨[.j 0,.j 0,.str []],0⟩] rfl rfl ?_;refine RW.sr 2 rfl ?_;obtain ⟨v3,e3,h3⟩:=A2 h2;refine rl.call rfl rfl rfl (A7.y (r':=.tup [.str v3.1,.j v3.2.1,.bool v3.2.2]) (Hd e3) ?_);refine rl.f 7 rfl (RW.sf 6 rfl ?_);refine RW.kp [0,1,4,9,12,14,15,16] [(0,.str x0),(1,.j x1),(4,.ptr 0 0),(9,.bool v1.2.2),(12,.bool v2.2.2),(14,.j v3.2.1),(15,.bool v3.2.2),(16,.ptr 1 0)] [some ⟨[.j 0,.j 0,.str []],0⟩,some ⟨[.j v1.1,.j v2.1,.str v3.1],0⟩] rfl rfl ?_;refine RW.seq (RW.seq ?_);obtain ⟨y4,ey4,h4⟩:=A2 h3
 refine RW.cutq (σ:=Bool) (fun y4=>[(0,.str x0),(1,.j x1),(4,.ptr 0 0),(14,.j v3.2.1),(16,.ptr 1 0),(64,.bool y4)]) (fun y4=>[some ⟨[.j 0,.j 0,.str []],0⟩,some ⟨[.j v1.1,.j v2.1,.str v3.1],0⟩]) (fun y=>y4=y) gg ?_ ?_
 ·refine RW.reg ?_;refine rl.run 3 rfl ?_
  cases hb:(!v1.2.2)
  ·have h5:=A3 ey4 hb;refine rl.run 4 rfl ?_
   cases hb:(!v2.2.2)
   ·have h6:=A3 h5 hb;refine rl.run 4 rfl ?_
    cases hb:(!v3.2.2)
    ·have h7:=A3 h6 hb;refine rl.run 4 rfl ?_
     refine rl.gen rfl rfl fun b hb=>?_
     cases b
     ·have h8:=A3 h7 hb;refine rl.run 3 rfl ?_
      refine rl.gen rfl rfl fun b hb=>?_
      cases b
      ·have h9:=A3 h8 hb;refine rl.f 1 rfl ?_;cases h9
       exact ⟨_,rfl,(Gh.y0 [0,1])⟩
      ·have h10:=A4 h8 hb;refine rl.f 1 rfl ?_;cases h10
       exact ⟨_,rfl,(Gh.y0 [0,1])⟩
     ·have h11:=A4 h7 hb;refine rl.f 5 rfl ?_;cases h11
      exact ⟨_,rfl,(Gh.y0 [0,1])⟩
    ·have h12:=A4 h6 hb;refine rl.f 10 rfl ?_;cases h12
     exact ⟨_,rfl,(Gh.y0 [0,1])⟩
   ·have h13:=A4 h5 hb;refine rl.f 14 rfl ?_;cases h13
    exact ⟨_,rfl,(Gh.y0 [0,1])⟩
  ·have h14:=A4 ey4 hb;refine rl.f 18 rfl ?_;cases h14
   exact ⟨_,rfl,(Gh.y0 [0,1])⟩
 ·intro y hC
  subst hC
  cases hb:y4
  ·have h15:=A3 h4 hb;refine RW.cond_f rfl (RW.skip (RW.sr 1 rfl ?_));obtain ⟨v5,e5,h16⟩:=A2 h15;refine rl.call rfl rfl rfl (A7.y (r':=.tup [.str v5.1,.bool v5.2]) (U2 e5) ?_);refine rl.f 5 rfl (RW.seq (RW.seq ?_));obtain ⟨y6,ey6,h17⟩:=A2 h16
   refine RW.cutq (σ:=Bool) (fun y6=>[(4,.ptr 0 0),(14,.j v3.2.1),(16,.ptr 1 0),(81,.bool y6)]) (fun y6=>[some ⟨[.j 0,.j 0,.str []],0⟩,some ⟨[.j v1.1,.j v2.1,.str v3.1],0⟩]) (fun y=>y6=y) gg ?_ ?_
   ·refine RW.reg ?_;refine rl.run 3 rfl ?_
    cases hb:(!v5.2)
    ·have h18:=A3 ey6 hb;refine rl.run 5 rfl ?_;obtain ⟨v7,e7,h19⟩:=A2 h18;refine rl.gop rfl (He rfl rfl rfl Fb e7) ?_
     refine rl.gen rfl rfl fun b hb=>?_
     cases b
     ·have h20:=A3 h19 hb;refine rl.f 1 rfl ?_;cases h20
      exact ⟨_,rfl,(Gh.y0 [0,1])⟩
     ·have h21:=A4 h19 hb;refine rl.f 1 rfl ?_;cases h21
      exact ⟨_,rfl,(Gh.y0 [0,1])⟩
    ·have h22:=A4 ey6 hb;refine rl.f 8 rfl ?_;cases h22
     exact ⟨_,rfl,(Gh.y0 [0,1])⟩
   ·intro y hC
    subst hC
    cases hb:y6
    ·have h23:=A3 h17 hb;refine RW.cond_f rfl (RW.skip (RW.sf 6 rfl (RW.ret ?_)));cases h23
     exact RRet.y
    ·have h24:=A4 h17 hb;refine RW.cond_t rfl (RW.sf 4 rfl (RW.ret ?_));cases h24
     exact RRet.y
  ·have h25:=A4 h4 hb;refine RW.cond_t rfl (RW.sf 4 rfl (RW.ret ?_));cases h25
   exact RRet.y
theorem Kl {x0:TDisk} {x1:Int} {r:Int} (hF:Be x0 x1=some r):B2 Tryz.prog 149 [.agg (A5 false x0),.j x1] (.j r):=by
 refine B2.q A0f ?_;unfold Be at hF;refine RW.sf 2 rfl (RW.sr 2 rfl ?_);obtain ⟨v1,e1,h1⟩:=A2 hF;refine rl.call rfl rfl rfl (A7.y (r':=.str v1) (Jc e1) ?_);obtain ⟨v2,e2,h2⟩:=A2 h1;refine rl.call rfl rfl rfl (A7.y (r':=.tup [.agg (B5 false v2.1),.j v2.2.1,.bool v2.2.2]) (Gn e2) ?_);refine rl.f 8 rfl ?_;refine RW.kp [5,7] [(5,.ptr 1 0),(7,.bool v2.2.2)] [some ⟨A5 false x0,0⟩,some ⟨B5 false v2.1,0⟩] rfl rfl ?_;refine RW.seq (RW.seq ?_);obtain ⟨y3,ey3,h3⟩:=A2 h2
 refine RW.cutq (σ:=Bool) (fun y3=>[(5,.ptr 0 0),(22,.bool y3)]) (fun y3=>[some ⟨B5 false v2.1,0⟩]) (fun y=>y3=y) gg ?_ ?_
 ·refine RW.reg ?_;refine rl.run 3 rfl ?_
  cases hb:(!v2.2.2)
  ·have h4:=A3 ey3 hb;refine rl.run 2 rfl ?_
   refine rl.gen rfl rfl fun b hb=>?_
   cases b
   ·have h5:=A3 h4 hb;refine rl.f 1 rfl ?_;cases h5
    exact ⟨_,rfl,(Gh.y0 [1])⟩
   ·have h6:=A4 h4 hb;refine rl.f 1 rfl ?_;cases h6
    exact ⟨_,rfl,(Gh.y0 [1])⟩
  ·have h7:=A4 ey3 hb;refine rl.f 4 rfl ?_;cases h7
   exact ⟨_,rfl,(Gh.y0 [1])⟩
 ·intro y hC
  subst hC
  cases hb:y3
  ·have h8:=A3 h3 hb;refine RW.cond_f rfl (RW.skip (RW.sf 3 rfl (RW.ret ?_)));cases h8
   exact RRet.y
  ·have h9:=A4 h3 hb;refine RW.cond_t rfl (RW.sf 1 rfl (RW.ret ?_));cases h9
   exact RRet.y
theorem Mf {x0:List UInt8} {x1:Int} {r:(List TFrame)×Int} (hF:V8 x0 x1=some r):B2 Tryz.prog 172 [.str x0,.j x1] (.tup [.lst true 3 (fl (B5 true) r.1) r.1.length,.j r.2]):=by
 refine B2.q Ql ?_;unfold V8 at hF;refine RW.sf 2 rfl (RW.sf 2 rfl (RW.sf 1 rfl ?_));refine RW.gh (Gh.nil_t 6 3 rfl) ?_;obtain ⟨y6,ey6,h2⟩:=A2 hF
 refine RW.cutE (fun y2=>[]) (fun y2=>[]) (fun y=>y6=.inr y) ?_ ?_
 ·refine RW.blk ?_
  refine RW.iter (σ:=Int×(List TFrame)) ey6 (fun s1=>[(0,.str x0),(1,.j x1),(6,.sl 0 0 s1.2.length),(7,.j s1.1)]) (fun s1=>[some ⟨fl (B5 true) s1.2,3⟩]) (Gh.y0 [0]) (fun s1 B o hS1 hB1 hE1=>?_)
  unfold W4 at hS1;refine RW.blk (RW.sr 2 rfl ?_);obtain ⟨v3,e3,h3⟩:=A2 hS1;refine rl.call rfl rfl rfl (A7.y (r':=.tup [.agg (B5 false v3.1),.j v3.2.1,.bool v3.2.2]) (Gn e3) ?_);refine rl.f 8 rfl (RW.seq (RW.seq ?_));obtain ⟨y4,ey4,h4⟩:=A2 h3
  refine RW.cutq (σ:=Bool) (fun y4=>[(0,.str x0),(1,.j x1),(6,.sl 0 0 s1.2.length),(7,.j s1.1),(8,.ptr 1 0),(9,.j v3.2.1),(26,.bool y4)]) (fun y4=>[some ⟨fl (B5 true) s1.2,3⟩,some ⟨B5 false v3.1,0⟩]) (fun y=>y4=y) gg ?_ ?_
  ·refine RW.reg ?_;refine rl.run 3 rfl ?_
   cases hb:(!v3.2.2)
   ·have h5:=A3 ey4 hb;refine rl.run 3 rfl ?_
    refine rl.gen rfl rfl fun b hb=>?_
    cases b
    ·have h6:=A3 h5 hb;refine rl.f 1 rfl ?_;cases h6
     exact ⟨_,rfl,(Gh.y0 [0,1])⟩
    ·have h7:=A4 h5 hb;refine rl.f 1 rfl ?_;cases h7
     exact ⟨_,rfl,(Gh.y0 [0,1])⟩
   ·have h8:=A4 ey4 hb;refine rl.f 5 rfl ?_;cases h8
    exact ⟨_,rfl,(Gh.y0 [0,1])⟩
  ·intro y hC
   subst hC
   cases hb:y4
   ·have h9:=A3 h4 hb;refine RW.cond_f rfl (RW.skip (RW.sr 3 rfl ?_));obtain ⟨v5,e5,h10⟩:=A2 h9;refine rl.op (R5 rfl rfl (Q0 (l:=s1.2) (m:=[v3.1]) (o:=true) Fd rfl rfl (L2 (m:=[v3.1]) (o:=true) Fk rfl rfl) rfl (Fk.fst _ _) e5)) ?_;refine rl.f 1 rfl (RW.reg (rl.f 2 rfl ?_));cases h10
    exact hB1 _ rfl _ _ (Gh.y0 [3])
   ·have h11:=A4 h4 hb;refine RW.cond_t rfl (RW.sf 4 rfl (RW.ret ?_));cases h11;have h12:=elimL h2 (hE1 _ rfl);cases h12
    exact RRet.y
 ·exact fun y=>y.elim
theorem Po {x0:TDisk} {x1:Int} {r:(List TFrame)×Int} (hF:X7 x0 x1=some r):B2 Tryz.prog 148 [.agg (A5 false x0),.j x1] (.tup [.lst true 3 (fl (B5 true) r.1) r.1.length,.j r.2]):=by
 refine B2.q Uk ?_;unfold X7 at hF;refine RW.sf 3 rfl (RW.sr 2 rfl ?_);obtain ⟨v1,e1,h1⟩:=A2 hF;refine rl.call rfl rfl rfl (A7.y (r':=.j v1) (Kl e1) ?_);refine rl.f 1 rfl (RW.seq (RW.sr 1 rfl ?_))
 refine rl.gen rfl rfl fun b hb=>?_
 cases b
 ·have h2:=A3 h1 hb;refine rl.done (RW.cond_f rfl (RW.skip (RW.sr 2 rfl ?_)));obtain ⟨v2,e2,h3⟩:=A2 h2;refine rl.call rfl rfl rfl (A7.y (r':=.str v2) (Jc e2) ?_);refine rl.run 1 rfl ?_;obtain ⟨v3,e3,h4⟩:=A2 h3;refine rl.call rfl rfl rfl (A7.y (r':=.tup [Ce v3.1,.j v3.2]) (Mf e3) ?_);refine rl.f 5 rfl ?_;refine RW.kp [7,8] [(7,Ce v3.1),(8,.j v3.2)] [some ⟨A5 false x0,0⟩] rfl rfl ?_;refine RW.sr 2 rfl ?_;obtain ⟨v4,e4,h5⟩:=A2 h4;refine rl.op (A58 Fd rfl rfl rfl Ly e4) ?_;obtain ⟨v5,e5,h6⟩:=A2 h5;refine rl.op (R5 rfl rfl (Gx (m:=v4) (o:=true) Fd Bd rfl (Fk.fst _ _) e5)) ?_;refine rl.f 3 rfl (RW.ret ?_);cases h6
  exact RRet.y
 ·have h7:=A4 h1 hb;refine rl.done (RW.cond_t rfl (RW.sf 3 rfl (RW.ret ?_)));cases h7
  exact RRet.y
theorem Bk {x0:TL06Cur} {r:Int×TL06Cur} (hF:J1 x0=some r):C4 Tryz.prog 0 106 [.ptr 0 0] [some ⟨[.str x0.mText,.j x0.mAt,.bool x0.mBad],0⟩] (.j r.1) [some ⟨[.str r.2.mText,.j r.2.mAt,.bool r.2.mBad],0⟩]:=by
 refine C4.q A0c ?_;unfold J1 at hF;refine RW.sf 1 rfl (RW.sdrw (A0.op rfl rfl (A0.op rfl rfl (A0.op rfl rfl (A0.op rfl rfl (A0.op rfl rfl (A0.op rfl rfl (A0.op rfl rfl (A0.op rfl rfl ?_)))))))));obtain ⟨v1,e1,h1⟩:=A2 hF;refine A0.call rfl rfl rfl (A7.y (r':=.tup [.j v1.1,.j v1.2.1,.bool v1.2.2]) (Cq e1) ⟨rfl,?_⟩);refine A0.op rfl rfl (A0.op rfl rfl (A0.op rfl rfl (A0.op rfl rfl (A0.op rfl rfl (A0.op rfl rfl (A0.op rfl rfl (A0.done ?_)))))));refine RW.kp [0,3,4,5] [(0,.ptr 0 0),(3,.j v1.1),(4,.j v1.2.1),(5,.bool v1.2.2)] [some ⟨[.str x0.mText,.j x0.mAt,.bool x0.mBad],0⟩] rfl rfl ?_;refine RW.seq (RW.sr 5 rfl ?_)
 cases hb:x0.mBad
 ·have h2:=A3 h1 hb;refine rl.f 3 rfl ?_
  cases hb:(!v1.2.2)
  ·have h3:=A3 h2 hb;refine RW.cond_f rfl (RW.skip (RW.sf 5 rfl ?_));refine RW.kp [3] [(3,.j v1.1)] [some ⟨[.str x0.mText,.j v1.2.1,.bool false],0⟩] rfl rfl ?_;refine RW.sf 2 rfl (RW.ret ?_);cases h3
   exact RRetS.m (Gh.rN [0])
  ·have h4:=A4 h2 hb;refine RW.cond_t rfl (RW.sf 4 rfl ?_);refine RW.kp [] [] [some ⟨[.str x0.mText,.j x0.mAt,.bool true],0⟩] rfl rfl ?_;refine RW.sf 1 rfl (RW.ret ?_);cases h4
   exact RRetS.m (Gh.rN [0])
 ·have h5:=A4 h1 hb;refine rl.f 3 rfl (RW.cond_t rfl (RW.sf 4 rfl ?_));refine RW.kp [] [] [some ⟨[.str x0.mText,.j x0.mAt,.bool true],0⟩] rfl rfl ?_;refine RW.sf 1 rfl (RW.ret ?_);cases h5
  exact RRetS.m (Gh.rN [0])
theorem Ke {x0:List UInt8} {r:Bool} (hF:Bc x0=some r):B2 Tryz.prog 176 [.str x0] (.bool r):=by
 refine B2.q A0d ?_;unfold Bc at hF;refine RW.sf 1 rfl (RW.seq (RW.sf 1 rfl ?_));obtain ⟨y6,ey6,h2⟩:=A2 hF
 refine RW.cutq (σ:=Unit) (fun y2=>[(0,.str x0)]) (fun y2=>[]) (fun y=>y6=.inr y) gg ?_ ?_
 ·refine RW.blk ?_
  refine RW.iter (σ:=Int) ey6 (fun s1=>[(0,.str x0),(3,.j s1)]) (fun s1=>[]) (Gh.y0 []) (fun s1 B o hS1 hB1 hE1=>?_)
  unfold U6 at hS1;refine RW.seq (RW.sr 3 rfl ?_)
  refine rl.gen rfl rfl fun b hb=>?_
  cases b
  ·have h3:=A3 hS1 hb;refine rl.done (RW.cond_f rfl (RW.exit (C7 ?_)));cases h3
   exact ⟨_,(hE1 _ rfl).symm,(Gh.y0 [])⟩
  ·have h4:=A4 hS1 hb;refine rl.done (RW.cond_t rfl (RW.skip (RW.seq (RW.blk (RW.seq ?_)))));obtain ⟨y3,ey3,h5⟩:=A2 h4
   refine RW.cutq (σ:=Bool) (fun y3=>[(0,.str x0),(3,.j s1),(19,.bool y3)]) (fun y3=>[]) (fun y=>y3=y) gg ?_ ?_
   ·refine RW.reg ?_;refine rl.run 2 rfl ?_;obtain ⟨v4,e4,h6⟩:=A2 ey3;refine rl.op (Kj rfl rfl e4) ?_
    refine rl.gen rfl rfl fun b hb=>?_
    cases b
    ·have h7:=A3 h6 hb;refine rl.run 3 rfl ?_;obtain ⟨v5,e5,h8⟩:=A2 h7;refine rl.gop rfl (Kj rfl rfl e5) ?_
     refine rl.gen rfl rfl fun b hb=>?_
     cases b
     ·have h9:=A3 h8 hb;refine rl.f 1 rfl ?_;cases h9
      exact ⟨_,rfl,(Gh.y0 [])⟩
     ·have h10:=A4 h8 hb;refine rl.f 1 rfl ?_;cases h10
      exact ⟨_,rfl,(Gh.y0 [])⟩
    ·have h11:=A4 h6 hb;refine rl.f 6 rfl ?_;cases h11
     exact ⟨_,rfl,(Gh.y0 [])⟩
   ·intro y hC
    subst hC
    cases hb:y3
    ·have h12:=A3 h5 hb;refine RW.cond_f rfl (RW.skip (RW.reg (rl.f 3 rfl ?_)));cases h12
     exact hB1 _ rfl _ _ (Gh.y0 [])
    ·have h13:=A4 h5 hb;refine RW.cond_t rfl (RW.sf 1 rfl (RW.ret ?_));cases h13;have h14:=elimL h2 (hE1 _ rfl);cases h14
     exact RRet.y
 ·intro y2 hC
  have h2:=elimR h2 hC;refine RW.sr 2 rfl ?_;obtain ⟨v7,e7,h15⟩:=A2 h2;refine rl.call rfl rfl rfl (A7.y (r':=.bool v7) (B6 e7) ?_);refine rl.f 1 rfl (RW.ret ?_);cases h15
  exact RRet.y
theorem Ll {x0:TRec} {r:Bool} (hF:Cu x0=some r):B2 Tryz.prog 151 [.agg (C6 false x0)] (.bool r):=by
 refine B2.q A21 ?_;unfold Cu at hF;refine RW.sf 2 rfl (RW.seq (RW.seq ?_));obtain ⟨y1,ey1,h1⟩:=A2 hF
 refine RW.cutq (σ:=Bool) (fun y1=>[(1,.ptr 0 0),(15,.bool y1)]) (fun y1=>[some ⟨C6 false x0,0⟩]) (fun y=>y1=y) gg ?_ ?_
 ·refine RW.reg ?_;refine rl.run 2 rfl ?_;obtain ⟨v2,e2,h2⟩:=A2 ey1;refine rl.call rfl rfl rfl (A7.y (r':=.bool v2) (B6 e2) ?_)
  cases hb:v2
  ·have h3:=A3 h2 hb;refine rl.f 7 rfl ?_;cases h3
   exact ⟨_,rfl,(Gh.y0 [0])⟩
  ·have h4:=A4 h2 hb;refine rl.run 4 rfl ?_;obtain ⟨v3,e3,h5⟩:=A2 h4;refine rl.call rfl rfl rfl (A7.y (r':=.bool v3) (B6 e3) ?_)
   cases hb:v3
   ·have h6:=A3 h5 hb;refine rl.f 2 rfl ?_;cases h6
    exact ⟨_,rfl,(Gh.y0 [0])⟩
   ·have h7:=A4 h5 hb;refine rl.f 2 rfl ?_;cases h7
    exact ⟨_,rfl,(Gh.y0 [0])⟩
 ·intro y hC
  subst hC
  cases hb:y1
  ·have h8:=A3 h1 hb;refine RW.cond_f rfl (RW.skip (RW.sr 2 rfl ?_))
   refine rl.gen rfl rfl fun b hb=>?_
   cases b
   ·have h9:=A3 h8 hb;refine rl.f 1 rfl (RW.seq ?_);obtain ⟨y4,ey4,h10⟩:=A2 h9
    refine RW.cutq (σ:=Bool) (fun y4=>[(1,.ptr 0 0),(3,.bool false),(4,.bool y4)]) (fun y4=>[some ⟨C6 false x0,0⟩]) (fun y=>y4=y) gg ?_ ?_
    ·refine RW.reg ?_;refine rl.run 2 rfl ?_
     refine rl.gen rfl rfl fun b hb=>?_
     cases b
     ·have h11:=A3 ey4 hb;refine rl.run 3 rfl ?_
      refine rl.gen rfl rfl fun b hb=>?_
      cases b
      ·have h12:=A3 h11 hb;refine rl.run 4 rfl ?_
       refine rl.gen rfl rfl fun b hb=>?_
       cases b
       ·have h13:=A3 h12 hb;refine rl.f 2 rfl ?_;cases h13
        exact ⟨_,rfl,(Gh.y0 [0])⟩
       ·have h14:=A4 h12 hb;refine rl.f 2 rfl ?_;cases h14
        exact ⟨_,rfl,(Gh.y0 [0])⟩
      ·have h15:=A4 h11 hb;refine rl.f 7 rfl ?_;cases h15
       exact ⟨_,rfl,(Gh.y0 [0])⟩
     ·have h16:=A4 ey4 hb;refine rl.f 11 rfl ?_;cases h16
      exact ⟨_,rfl,(Gh.y0 [0])⟩
    ·intro y hC
     subst hC;refine RW.seq ?_;obtain ⟨y5,ey5,h17⟩:=A2 h10
     refine RW.cutq (σ:=Bool) (fun y5=>[(1,.ptr 0 0),(3,.bool false),(4,.bool y4),(5,.bool y5)]) (fun y5=>[some ⟨C6 false x0,0⟩]) (fun y=>y5=y) gg ?_ ?_
     ·refine RW.reg ?_;refine rl.run 2 rfl ?_
      refine rl.gen rfl rfl fun b hb=>?_
      cases b
      ·have h18:=A3 ey5 hb;refine rl.run 3 rfl ?_
       refine rl.gen rfl rfl fun b hb=>?_
       cases b
       ·have h19:=A3 h18 hb;refine rl.f 2 rfl ?_;cases h19
        exact ⟨_,rfl,(Gh.y0 [0])⟩
       ·have h20:=A4 h18 hb;refine rl.f 2 rfl ?_;cases h20
        exact ⟨_,rfl,(Gh.y0 [0])⟩
      ·have h21:=A4 ey5 hb;refine rl.f 6 rfl ?_;cases h21
       exact ⟨_,rfl,(Gh.y0 [0])⟩
     ·intro y hC
      subst hC;refine RW.seq (RW.seq ?_);obtain ⟨y6,ey6,h22⟩:=A2 h17
      refine RW.cutq (σ:=Bool) (fun y6=>[(1,.ptr 0 0),(4,.bool y4),(5,.bool y5),(77,.bool y6)]) (fun y6=>[some ⟨C6 false x0,0⟩]) (fun y=>y6=y) gg ?_ ?_
      ·refine RW.reg ?_;refine rl.run 25 rfl ?_
       refine rl.gen rfl rfl fun b hb=>?_
       cases b
       ·have h23:=A3 ey6 hb;refine rl.run 3 rfl ?_
        refine rl.gen rfl rfl fun b hb=>?_
        cases b
        ·have h24:=A3 h23 hb;refine rl.run 4 rfl ?_
         refine rl.gen rfl rfl fun b hb=>?_
         cases b
         ·have h25:=A3 h24 hb;refine rl.f 3 rfl ?_;cases h25
          exact ⟨_,rfl,(Gh.y0 [0])⟩
         ·have h26:=A4 h24 hb;refine rl.f 3 rfl ?_;cases h26
          exact ⟨_,rfl,(Gh.y0 [0])⟩
        ·have h27:=A4 h23 hb;refine rl.f 8 rfl ?_;cases h27
         exact ⟨_,rfl,(Gh.y0 [0])⟩
       ·have h28:=A4 ey6 hb;refine rl.f 12 rfl ?_;cases h28
        exact ⟨_,rfl,(Gh.y0 [0])⟩
      ·intro y hC
       subst hC
       cases hb:y6
       ·have h29:=A3 h22 hb;refine RW.cond_f rfl (RW.skip (RW.seq (RW.seq ?_)));obtain ⟨y7,ey7,h30⟩:=A2 h29
        refine RW.cutq (σ:=Bool) (fun y7=>[(1,.ptr 0 0),(5,.bool y5),(93,.bool y7)]) (fun y7=>[some ⟨C6 false x0,0⟩]) (fun y=>y7=y) gg ?_ ?_
        ·refine RW.reg ?_;refine rl.run 2 rfl ?_
         cases hb:y4
         ·have h31:=A3 ey7 hb;refine rl.run 11 rfl ?_
          refine rl.gen rfl rfl fun b hb=>?_
          cases b
          ·have h32:=A3 h31 hb;refine rl.f 2 rfl ?_;cases h32
           exact ⟨_,rfl,(Gh.y0 [0])⟩
          ·have h33:=A4 h31 hb;refine rl.f 2 rfl ?_;cases h33
           exact ⟨_,rfl,(Gh.y0 [0])⟩
         ·have h34:=A4 ey7 hb;refine rl.run 2 rfl ?_;obtain ⟨v8,e8,h35⟩:=A2 h34;refine rl.call rfl rfl rfl (A7.y (r':=.bool v8) (B6 e8) ?_)
          cases hb:v8
          ·have h36:=A3 h35 hb;refine rl.f 11 rfl ?_;cases h36
           exact ⟨_,rfl,(Gh.y0 [0])⟩
          ·have h37:=A4 h35 hb;refine rl.f 11 rfl ?_;cases h37
           exact ⟨_,rfl,(Gh.y0 [0])⟩
        ·intro y hC
         subst hC
         cases hb:y7
         ·have h38:=A3 h30 hb;refine RW.cond_f rfl (RW.skip (RW.seq (RW.seq ?_)));obtain ⟨y9,ey9,h39⟩:=A2 h38
          refine RW.cutq (σ:=Bool) (fun y9=>[(1,.ptr 0 0),(109,.bool y9)]) (fun y9=>[some ⟨C6 false x0,0⟩]) (fun y=>y9=y) gg ?_ ?_
          ·refine RW.reg ?_;refine rl.run 2 rfl ?_
           cases hb:y5
           ·have h40:=A3 ey9 hb;refine rl.run 11 rfl ?_
            refine rl.gen rfl rfl fun b hb=>?_
            cases b
            ·have h41:=A3 h40 hb;refine rl.f 2 rfl ?_;cases h41
             exact ⟨_,rfl,(Gh.y0 [0])⟩
            ·have h42:=A4 h40 hb;refine rl.f 2 rfl ?_;cases h42
             exact ⟨_,rfl,(Gh.y0 [0])⟩
           ·have h43:=A4 ey9 hb;refine rl.run 2 rfl ?_;obtain ⟨v10,e10,h44⟩:=A2 h43;refine rl.call rfl rfl rfl (A7.y (r':=.bool v10) (B6 e10) ?_)
            cases hb:v10
            ·have h45:=A3 h44 hb;refine rl.f 11 rfl ?_;cases h45
             exact ⟨_,rfl,(Gh.y0 [0])⟩
            ·have h46:=A4 h44 hb;refine rl.f 11 rfl ?_;cases h46
             exact ⟨_,rfl,(Gh.y0 [0])⟩
          ·intro y hC
           subst hC
           cases hb:y9
           ·have h47:=A3 h39 hb;refine RW.cond_f rfl (RW.skip (RW.seq (RW.sr 2 rfl ?_)))
            refine rl.gen rfl rfl fun b hb=>?_
            cases b
            ·have h48:=A3 h47 hb;refine rl.done (RW.cond_f rfl (RW.skip (RW.sf 4 rfl (RW.ret ?_))));cases h48
             exact RRet.y
            ·have h49:=A4 h47 hb;refine rl.done (RW.cond_t rfl (RW.sf 5 rfl (RW.ret ?_)));cases h49
             exact RRet.y
           ·have h50:=A4 h39 hb;refine RW.cond_t rfl (RW.sf 1 rfl (RW.ret ?_));cases h50
            exact RRet.y
         ·have h51:=A4 h30 hb;refine RW.cond_t rfl (RW.sf 1 rfl (RW.ret ?_));cases h51
          exact RRet.y
       ·have h52:=A4 h22 hb;refine RW.cond_t rfl (RW.sf 1 rfl (RW.ret ?_));cases h52
        exact RRet.y
   ·have h53:=A4 h8 hb;refine rl.f 1 rfl (RW.seq ?_);obtain ⟨y11,ey11,h54⟩:=A2 h53
    refine RW.cutq (σ:=Bool) (fun y11=>[(1,.ptr 0 0),(3,.bool true),(4,.bool y11)]) (fun y11=>[some ⟨C6 false x0,0⟩]) (fun y=>y11=y) gg ?_ ?_
    ·refine RW.reg ?_;refine rl.run 2 rfl ?_
     refine rl.gen rfl rfl fun b hb=>?_
     cases b
     ·have h55:=A3 ey11 hb;refine rl.run 3 rfl ?_
      refine rl.gen rfl rfl fun b hb=>?_
      cases b
      ·have h56:=A3 h55 hb;refine rl.run 4 rfl ?_
       refine rl.gen rfl rfl fun b hb=>?_
       cases b
       ·have h57:=A3 h56 hb;refine rl.f 2 rfl ?_;cases h57
        exact ⟨_,rfl,(Gh.y0 [0])⟩
       ·have h58:=A4 h56 hb;refine rl.f 2 rfl ?_;cases h58
        exact ⟨_,rfl,(Gh.y0 [0])⟩
      ·have h59:=A4 h55 hb;refine rl.f 7 rfl ?_;cases h59
       exact ⟨_,rfl,(Gh.y0 [0])⟩
     ·have h60:=A4 ey11 hb;refine rl.f 11 rfl ?_;cases h60
      exact ⟨_,rfl,(Gh.y0 [0])⟩
    ·intro y hC
     subst hC;refine RW.seq ?_;obtain ⟨y12,ey12,h61⟩:=A2 h54
     refine RW.cutq (σ:=Bool) (fun y12=>[(1,.ptr 0 0),(3,.bool true),(4,.bool y11),(5,.bool y12)]) (fun y12=>[some ⟨C6 false x0,0⟩]) (fun y=>y12=y) gg ?_ ?_
     ·refine RW.reg ?_;refine rl.run 2 rfl ?_
      refine rl.gen rfl rfl fun b hb=>?_
      cases b
      ·have h62:=A3 ey12 hb;refine rl.run 3 rfl ?_
       refine rl.gen rfl rfl fun b hb=>?_
       cases b
       ·have h63:=A3 h62 hb;refine rl.f 2 rfl ?_;cases h63
        exact ⟨_,rfl,(Gh.y0 [0])⟩
       ·have h64:=A4 h62 hb;refine rl.f 2 rfl ?_;cases h64
        exact ⟨_,rfl,(Gh.y0 [0])⟩
      ·have h65:=A4 ey12 hb;refine rl.f 6 rfl ?_;cases h65
       exact ⟨_,rfl,(Gh.y0 [0])⟩
     ·intro y hC
      subst hC;refine RW.seq (RW.seq ?_);obtain ⟨y13,ey13,h66⟩:=A2 h61
      refine RW.cutq (σ:=Bool) (fun y13=>[(1,.ptr 0 0),(4,.bool y11),(5,.bool y12),(77,.bool y13)]) (fun y13=>[some ⟨C6 false x0,0⟩]) (fun y=>y13=y) gg ?_ ?_
      ·refine RW.reg ?_;refine rl.run 4 rfl ?_;obtain ⟨v14,e14,h67⟩:=A2 ey13;refine rl.call rfl rfl rfl (A7.y (r':=.bool v14) (Ke e14) ?_)
       cases hb:v14
       ·have h68:=A3 h67 hb;refine rl.f 33 rfl ?_;cases h68
        exact ⟨_,rfl,(Gh.y0 [0])⟩
       ·have h69:=A4 h67 hb;refine rl.run 4 rfl ?_;obtain ⟨v15,e15,h70⟩:=A2 h69;refine rl.call rfl rfl rfl (A7.y (r':=.bool v15) (Ke e15) ?_)
        cases hb:v15
        ·have h71:=A3 h70 hb;refine rl.f 28 rfl ?_;cases h71
         exact ⟨_,rfl,(Gh.y0 [0])⟩
        ·have h72:=A4 h70 hb;refine rl.run 5 rfl ?_;obtain ⟨v16,e16,h73⟩:=A2 h72;refine rl.call rfl rfl rfl (A7.y (r':=.bool v16) (B6 e16) ?_)
         cases hb:v16
         ·have h74:=A3 h73 hb;refine rl.f 22 rfl ?_;cases h74
          exact ⟨_,rfl,(Gh.y0 [0])⟩
         ·have h75:=A4 h73 hb;refine rl.f 22 rfl ?_;cases h75
          exact ⟨_,rfl,(Gh.y0 [0])⟩
      ·intro y hC
       subst hC
       cases hb:y13
       ·have h76:=A3 h66 hb;refine RW.cond_f rfl (RW.skip (RW.seq (RW.seq ?_)));obtain ⟨y17,ey17,h77⟩:=A2 h76
        refine RW.cutq (σ:=Bool) (fun y17=>[(1,.ptr 0 0),(5,.bool y12),(93,.bool y17)]) (fun y17=>[some ⟨C6 false x0,0⟩]) (fun y=>y17=y) gg ?_ ?_
        ·refine RW.reg ?_;refine rl.run 2 rfl ?_
         cases hb:y11
         ·have h78:=A3 ey17 hb;refine rl.run 11 rfl ?_
          refine rl.gen rfl rfl fun b hb=>?_
          cases b
          ·have h79:=A3 h78 hb;refine rl.f 2 rfl ?_;cases h79
           exact ⟨_,rfl,(Gh.y0 [0])⟩
          ·have h80:=A4 h78 hb;refine rl.f 2 rfl ?_;cases h80
           exact ⟨_,rfl,(Gh.y0 [0])⟩
         ·have h81:=A4 ey17 hb;refine rl.run 2 rfl ?_;obtain ⟨v18,e18,h82⟩:=A2 h81;refine rl.call rfl rfl rfl (A7.y (r':=.bool v18) (B6 e18) ?_)
          cases hb:v18
          ·have h83:=A3 h82 hb;refine rl.f 11 rfl ?_;cases h83
           exact ⟨_,rfl,(Gh.y0 [0])⟩
          ·have h84:=A4 h82 hb;refine rl.f 11 rfl ?_;cases h84
           exact ⟨_,rfl,(Gh.y0 [0])⟩
        ·intro y hC
         subst hC
         cases hb:y17
         ·have h85:=A3 h77 hb;refine RW.cond_f rfl (RW.skip (RW.seq (RW.seq ?_)));obtain ⟨y19,ey19,h86⟩:=A2 h85
          refine RW.cutq (σ:=Bool) (fun y19=>[(1,.ptr 0 0),(109,.bool y19)]) (fun y19=>[some ⟨C6 false x0,0⟩]) (fun y=>y19=y) gg ?_ ?_
          ·refine RW.reg ?_;refine rl.run 2 rfl ?_
           cases hb:y12
           ·have h87:=A3 ey19 hb;refine rl.run 11 rfl ?_
            refine rl.gen rfl rfl fun b hb=>?_
            cases b
            ·have h88:=A3 h87 hb;refine rl.f 2 rfl ?_;cases h88
             exact ⟨_,rfl,(Gh.y0 [0])⟩
            ·have h89:=A4 h87 hb;refine rl.f 2 rfl ?_;cases h89
             exact ⟨_,rfl,(Gh.y0 [0])⟩
           ·have h90:=A4 ey19 hb;refine rl.run 2 rfl ?_;obtain ⟨v20,e20,h91⟩:=A2 h90;refine rl.call rfl rfl rfl (A7.y (r':=.bool v20) (B6 e20) ?_)
            cases hb:v20
            ·have h92:=A3 h91 hb;refine rl.f 11 rfl ?_;cases h92
             exact ⟨_,rfl,(Gh.y0 [0])⟩
            ·have h93:=A4 h91 hb;refine rl.f 11 rfl ?_;cases h93
             exact ⟨_,rfl,(Gh.y0 [0])⟩
          ·intro y hC
           subst hC
           cases hb:y19
           ·have h94:=A3 h86 hb;refine RW.cond_f rfl (RW.skip (RW.seq (RW.sr 2 rfl ?_)))
            refine rl.gen rfl rfl fun b hb=>?_
            cases b
            ·have h95:=A3 h94 hb;refine rl.done (RW.cond_f rfl (RW.skip (RW.sf 4 rfl (RW.ret ?_))));cases h95
             exact RRet.y
            ·have h96:=A4 h94 hb;refine rl.done (RW.cond_t rfl (RW.sf 5 rfl (RW.ret ?_)));cases h96
             exact RRet.y
           ·have h97:=A4 h86 hb;refine RW.cond_t rfl (RW.sf 1 rfl (RW.ret ?_));cases h97
            exact RRet.y
         ·have h98:=A4 h77 hb;refine RW.cond_t rfl (RW.sf 1 rfl (RW.ret ?_));cases h98
          exact RRet.y
       ·have h99:=A4 h66 hb;refine RW.cond_t rfl (RW.sf 1 rfl (RW.ret ?_));cases h99
        exact RRet.y
  ·have h100:=A4 h1 hb;refine RW.cond_t rfl (RW.sf 1 rfl (RW.ret ?_));cases h100
   exact RRet.y
theorem L7 {x0:List UInt8} {r:List UInt8} (hF:L9 x0=some r):B2 Tryz.prog 99 [.str x0] (.str r):=by
 refine B2.q Wj ?_;unfold L9 at hF;refine RW.sf 1 rfl (RW.sr 2 rfl ?_);obtain ⟨v1,e1,h1⟩:=A2 hF;refine rl.call rfl rfl rfl (A7.y (r':=.str v1) (C9 e1) ?_);refine rl.run 1 rfl ?_;obtain ⟨v2,e2,h2⟩:=A2 h1;refine rl.op (Q8 rfl rfl e2) ?_;refine rl.f 1 rfl (RW.ret ?_);cases h2
 exact RRet.y
theorem Jd {x0:TRec} {r:(List UInt8)×Bool} (hF:Y9 x0=some r):B2 Tryz.prog 169 [.agg (C6 false x0)] (.tup [.str r.1,.bool r.2]):=by
 refine B2.q A04 ?_;unfold Y9 at hF;refine RW.sf 3 rfl (RW.seq (RW.sr 1 rfl ?_));obtain ⟨v1,e1,h1⟩:=A2 hF;refine rl.call rfl rfl rfl (A7.y (r':=.bool v1) (Ll e1) ?_)
 cases hb:v1
 ·have h2:=A3 h1 hb;refine rl.f 1 rfl (RW.cond_t rfl (RW.sf 2 rfl (RW.ret ?_)));cases h2
  exact RRet.y
 ·have h3:=A4 h1 hb;refine rl.f 1 rfl (RW.cond_f rfl (RW.skip (RW.sdrw (A0.op rfl rfl (A0.op rfl rfl (A0.op rfl rfl ?_))))));refine A0.chn rfl rfl ?_;refine A0.op rfl (Gs (o:=true) (l:=[IntKind.u8.wrap x0.Kind]) rfl rfl) ?_;refine A0.opA rfl rfl (.here (.rx rfl) .nil) ?_;refine A0.opA rfl rfl (.here (.rx rfl) .nil) ?_;obtain ⟨v2,e2,h4⟩:=A2 h3;refine A0.callA rfl rfl rfl (A7.y (r':=.str v2) (C9 e2) ⟨rfl,(.here (.cl rfl rfl (A7.y (r':=.str v2) (C9 e2) ⟨rfl,rfl⟩)) .nil),?_⟩);obtain ⟨v3,e3,h5⟩:=A2 h4;refine A0.op rfl (Q8 rfl rfl e3) ?_;refine A0.opA rfl rfl (.here (.rx rfl) .nil) ?_;refine A0.opA rfl rfl (.here (.rx rfl) .nil) ?_;obtain ⟨v4,e4,h6⟩:=A2 h5;refine A0.callA rfl rfl rfl (A7.y (r':=.str v4) (C9 e4) ⟨rfl,(.here (.cl rfl rfl (A7.y (r':=.str v4) (C9 e4) ⟨rfl,rfl⟩)) .nil),?_⟩);obtain ⟨v5,e5,h7⟩:=A2 h6;refine A0.op rfl (Q8 rfl rfl e5) ?_;refine A0.opA rfl rfl (.here (.rx rfl) .nil) ?_;refine A0.opA rfl rfl (.here (.rx rfl) .nil) ?_;obtain ⟨v6,e6,h8⟩:=A2 h7;refine A0.callA rfl rfl rfl (A7.y (r':=.str v6) (C9 e6) ⟨rfl,(.here (.cl rfl rfl (A7.y (r':=.str v6) (C9 e6) ⟨rfl,rfl⟩)) .nil),?_⟩);obtain ⟨v7,e7,h9⟩:=A2 h8;refine A0.op rfl (Q8 rfl rfl e7) ?_;refine A0.opA rfl rfl (.here (.rx rfl) .nil) ?_;refine A0.opA rfl rfl (.here (.rx rfl) .nil) ?_;obtain ⟨v8,e8,h10⟩:=A2 h9;refine A0.callA rfl rfl rfl (A7.y (r':=.str v8) (C9 e8) ⟨rfl,(.here (.cl rfl rfl (A7.y (r':=.str v8) (C9 e8) ⟨rfl,rfl⟩)) .nil),?_⟩);obtain ⟨v9,e9,h11⟩:=A2 h10;refine A0.op rfl (Q8 rfl rfl e9) ?_;refine A0.opA rfl rfl (.here (.rx rfl) .nil) ?_;refine A0.opA rfl rfl (.here (.rx rfl) .nil) ?_;obtain ⟨v10,e10,h12⟩:=A2 h11;refine A0.callA rfl rfl rfl (A7.y (r':=.str v10) (L7 e10) ⟨rfl,(.here (.cl rfl rfl (A7.y (r':=.str v10) (L7 e10) ⟨rfl,rfl⟩)) .nil),?_⟩);obtain ⟨v11,e11,h13⟩:=A2 h12;refine A0.op rfl (Q8 rfl rfl e11) ?_;refine A0.opA rfl rfl (.here (.rx rfl) .nil) ?_;refine A0.opA rfl rfl (.here (.rx rfl) .nil) ?_;obtain ⟨v12,e12,h14⟩:=A2 h13;refine A0.callA rfl rfl rfl (A7.y (r':=.str v12) (L7 e12) ⟨rfl,(.here (.cl rfl rfl (A7.y (r':=.str v12) (L7 e12) ⟨rfl,rfl⟩)) .nil),?_⟩)
  obtain ⟨v13,e13,h15⟩:=A2 h14;refine A0.op rfl (Q8 rfl rfl e13) ?_;refine A0.opA rfl rfl (.here (.rx rfl) .nil) ?_;refine A0.opA rfl rfl (.here (.rx rfl) .nil) ?_;obtain ⟨v14,e14,h16⟩:=A2 h15;refine A0.callA rfl rfl rfl (A7.y (r':=.str v14) (L7 e14) ⟨rfl,(.here (.cl rfl rfl (A7.y (r':=.str v14) (L7 e14) ⟨rfl,rfl⟩)) .nil),?_⟩);obtain ⟨v15,e15,h17⟩:=A2 h16;refine A0.op rfl (Q8 rfl rfl e15) ?_;refine A0.op rfl rfl (A0.op rfl rfl (A0.done ?_));refine RW.kp [2,3] [(2,.str v15),(3,.bool true)] [some ⟨C6 false x0,0⟩,some ⟨fl (encB true) [IntKind.u8.wrap x0.Kind],1⟩] rfl rfl ?_;refine RW.ret ?_;cases h17
  exact RRet.y
theorem X8 {x0:TL06Cur} {r:(List UInt8)×TL06Cur} (hF:E8 x0=some r):C4 Tryz.prog 0 189 [.ptr 0 0] [some ⟨[.str x0.mText,.j x0.mAt,.bool x0.mBad],0⟩] (.str r.1) [some ⟨[.str r.2.mText,.j r.2.mAt,.bool r.2.mBad],0⟩]:=by
 refine C4.q Me ?_;unfold E8 at hF;refine RW.sf 1 rfl (RW.sdrw (A0.op rfl rfl (A0.op rfl rfl (A0.op rfl rfl (A0.op rfl rfl (A0.op rfl rfl (A0.op rfl rfl (A0.op rfl rfl (A0.op rfl rfl ?_)))))))));obtain ⟨v1,e1,h1⟩:=A2 hF;refine A0.call rfl rfl rfl (A7.y (r':=.tup [.str v1.1,.j v1.2.1,.bool v1.2.2]) (Hd e1) ⟨rfl,?_⟩);refine A0.op rfl rfl (A0.op rfl rfl (A0.op rfl rfl (A0.op rfl rfl (A0.op rfl rfl (A0.op rfl rfl (A0.op rfl rfl (A0.done ?_)))))));refine RW.kp [0,3,4,5] [(0,.ptr 0 0),(3,.str v1.1),(4,.j v1.2.1),(5,.bool v1.2.2)] [some ⟨[.str x0.mText,.j x0.mAt,.bool x0.mBad],0⟩] rfl rfl ?_;refine RW.seq (RW.sr 5 rfl ?_)
 cases hb:x0.mBad
 ·have h2:=A3 h1 hb;refine rl.f 3 rfl ?_
  cases hb:(!v1.2.2)
  ·have h3:=A3 h2 hb;refine RW.cond_f rfl (RW.skip (RW.sf 5 rfl ?_));refine RW.kp [3] [(3,.str v1.1)] [some ⟨[.str x0.mText,.j v1.2.1,.bool false],0⟩] rfl rfl ?_;refine RW.sf 2 rfl (RW.ret ?_);cases h3
   exact RRetS.m (Gh.rN [0])
  ·have h4:=A4 h2 hb;refine RW.cond_t rfl (RW.sf 4 rfl ?_);refine RW.kp [] [] [some ⟨[.str x0.mText,.j x0.mAt,.bool true],0⟩] rfl rfl ?_;refine RW.sf 1 rfl (RW.ret ?_);cases h4
   exact RRetS.m (Gh.rN [0])
 ·have h5:=A4 h1 hb;refine rl.f 3 rfl (RW.cond_t rfl (RW.sf 4 rfl ?_));refine RW.kp [] [] [some ⟨[.str x0.mText,.j x0.mAt,.bool true],0⟩] rfl rfl ?_;refine RW.sf 1 rfl (RW.ret ?_);cases h5
  exact RRetS.m (Gh.rN [0])
theorem Tz {x0:List UInt8} {r:TRec×Bool} (hF:L6 x0=some r):B2 Tryz.prog 175 [.str x0] (.tup [.agg (C6 true r.1),.bool r.2]):=by
 refine B2.q Zj ?_;unfold L6 at hF;refine RW.sf 2 rfl (RW.seq (RW.sr 1 rfl ?_))
 refine rl.gen rfl rfl fun b hb=>?_
 cases b
 ·have h1:=A3 hF hb;refine rl.done (RW.cond_f rfl (RW.skip (RW.sf 4 rfl ?_)));refine RW.sdrwF [⟨[.j 0,.j 0,.j 0,.j 0,.j 0,.str [],.str [],.str []],0⟩] ?_;refine A0.op rfl rfl ?_;obtain ⟨v1,e1,h2⟩:=A2 h1;refine A0.op rfl (Kj rfl rfl e1) ?_;refine A0.op rfl rfl (A0.op rfl rfl ?_);obtain ⟨v2,e2,h3⟩:=A2 h2;refine A0.ccallB rfl rfl rfl (A7.eW (r0:=.j v2.1) (H':=[some ⟨[.j 0,.j 0,.j 0,.j 0,.j 0,.str [],.str [],.str []],0⟩,some ⟨[.str v2.2.mText,.j v2.2.mAt,.bool v2.2.mBad],0⟩,some ⟨[.j 0,.j 0,.j 0,.j 0,.j 0,.str [],.str [],.str []],0⟩]) [⟨[.str x0,.j 1,.bool false],0⟩] [⟨[.str v2.2.mText,.j v2.2.mAt,.bool v2.2.mBad],0⟩] [1] (Bk e2) ⟨(.skip rfl (.here (.rx rfl) (.here (.rx (Kj rfl rfl e1)) (.here (.rx rfl) .nil)))),?_⟩);refine A0.op rfl rfl ?_;refine A0.flt rfl (.cons rfl .nil) ?_;refine A0.chn rfl rfl ?_;refine A0.done ?_;refine RW.kp [0,2,4,5] [(0,.str x0),(2,.ptr 0 0),(4,.ptr 1 0),(5,.ptr 2 0)] [some ⟨[.j 0,.j 0,.j 0,.j 0,.j 0,.str [],.str [],.str []],0⟩,some ⟨[.str v2.2.mText,.j v2.2.mAt,.bool v2.2.mBad],0⟩,some ⟨[.j (w64 (v1.toNat:Int)),.j v2.1,.j 0,.j 0,.j 0,.str [],.str [],.str []],0⟩] rfl rfl ?_;refine RW.sr 1 rfl ?_;obtain ⟨v3,e3,h4⟩:=A2 h3;refine rl.call rfl rfl rfl (A7.eW (r0:=.j v3.1) (H':=[some ⟨[.j 0,.j 0,.j 0,.j 0,.j 0,.str [],.str [],.str []],0⟩,some ⟨[.str v3.2.mText,.j v3.2.mAt,.bool v3.2.mBad],0⟩,some ⟨[.j (w64 (v1.toNat:Int)),.j v2.1,.j 0,.j 0,.j 0,.str [],.str [],.str []],0⟩]) [⟨[.str v2.2.mText,.j v2.2.mAt,.bool v2.2.mBad],0⟩] [⟨[.str v3.2.mText,.j v3.2.mAt,.bool v3.2.mBad],0⟩] [1] (Bk e3) ?_);refine rl.f 2 rfl (RW.sr 1 rfl ?_);obtain ⟨v4,e4,h5⟩:=A2 h4;refine rl.call rfl rfl rfl (A7.eW (r0:=.j v4.1) (H':=[some ⟨[.j 0,.j 0,.j 0,.j 0,.j 0,.str [],.str [],.str []],0⟩,some ⟨[.str v4.2.mText,.j v4.2.mAt,.bool v4.2.mBad],0⟩,some ⟨[.j (w64 (v1.toNat:Int)),.j v2.1,.j v3.1,.j 0,.j 0,.str [],.str [],.str []],0⟩]) [⟨[.str v3.2.mText,.j v3.2.mAt,.bool v3.2.mBad],0⟩] [⟨[.str v4.2.mText,.j v4.2.mAt,.bool v4.2.mBad],0⟩] [1] (Bk e4) ?_);refine rl.f 2 rfl (RW.sr 1 rfl ?_)
  obtain ⟨v5,e5,h6⟩:=A2 h5;refine rl.call rfl rfl rfl (A7.eW (r0:=.j v5.1) (H':=[some ⟨[.j 0,.j 0,.j 0,.j 0,.j 0,.str [],.str [],.str []],0⟩,some ⟨[.str v5.2.mText,.j v5.2.mAt,.bool v5.2.mBad],0⟩,some ⟨[.j (w64 (v1.toNat:Int)),.j v2.1,.j v3.1,.j v4.1,.j 0,.str [],.str [],.str []],0⟩]) [⟨[.str v4.2.mText,.j v4.2.mAt,.bool v4.2.mBad],0⟩] [⟨[.str v5.2.mText,.j v5.2.mAt,.bool v5.2.mBad],0⟩] [1] (Bk e5) ?_);refine rl.f 2 rfl (RW.sr 1 rfl ?_);obtain ⟨v6,e6,h7⟩:=A2 h6;refine rl.call rfl rfl rfl (A7.eW (r0:=.str v6.1) (H':=[some ⟨[.j 0,.j 0,.j 0,.j 0,.j 0,.str [],.str [],.str []],0⟩,some ⟨[.str v6.2.mText,.j v6.2.mAt,.bool v6.2.mBad],0⟩,some ⟨[.j (w64 (v1.toNat:Int)),.j v2.1,.j v3.1,.j v4.1,.j v5.1,.str [],.str [],.str []],0⟩]) [⟨[.str v5.2.mText,.j v5.2.mAt,.bool v5.2.mBad],0⟩] [⟨[.str v6.2.mText,.j v6.2.mAt,.bool v6.2.mBad],0⟩] [1] (X8 e6) ?_);refine rl.f 2 rfl ?_;refine RW.kp [0,2,4,5] [(0,.str x0),(2,.ptr 0 0),(4,.ptr 1 0),(5,.ptr 2 0)] [some ⟨[.j 0,.j 0,.j 0,.j 0,.j 0,.str [],.str [],.str []],0⟩,some ⟨[.str v6.2.mText,.j v6.2.mAt,.bool v6.2.mBad],0⟩,some ⟨[.j (w64 (v1.toNat:Int)),.j v2.1,.j v3.1,.j v4.1,.j v5.1,.str v6.1,.str [],.str []],0⟩] rfl rfl ?_;refine RW.sr 1 rfl ?_;obtain ⟨v7,e7,h8⟩:=A2 h7;refine rl.call rfl rfl rfl (A7.eW (r0:=.str v7.1) (H':=[some ⟨[.j 0,.j 0,.j 0,.j 0,.j 0,.str [],.str [],.str []],0⟩,some ⟨[.str v7.2.mText,.j v7.2.mAt,.bool v7.2.mBad],0⟩,some ⟨[.j (w64 (v1.toNat:Int)),.j v2.1,.j v3.1,.j v4.1,.j v5.1,.str v6.1,.str [],.str []],0⟩]) [⟨[.str v6.2.mText,.j v6.2.mAt,.bool v6.2.mBad],0⟩] [⟨[.str v7.2.mText,.j v7.2.mAt,.bool v7.2.mBad],0⟩] [1] (X8 e7) ?_);refine rl.f 2 rfl (RW.sr 1 rfl ?_);obtain ⟨v8,e8,h9⟩:=A2 h8;refine rl.call rfl rfl rfl (A7.eW (r0:=.str v8.1) (H':=[some ⟨[.j 0,.j 0,.j 0,.j 0,.j 0,.str [],.str [],.str []],0⟩,some ⟨[.str v8.2.mText,.j v8.2.mAt,.bool v8.2.mBad],0⟩,some ⟨[.j (w64 (v1.toNat:Int)),.j v2.1,.j v3.1,.j v4.1,.j v5.1,.str v6.1,.str v7.1,.str []],0⟩]) [⟨[.str v7.2.mText,.j v7.2.mAt,.bool v7.2.mBad],0⟩] [⟨[.str v8.2.mText,.j v8.2.mAt,.bool v8.2.mBad],0⟩] [1] (X8 e8) ?_)
  refine rl.f 2 rfl (RW.sr 1 rfl ?_);obtain ⟨v9,e9,h10⟩:=A2 h9;refine rl.call rfl rfl rfl (A7.y (r':=.tup [.str v9.1,.bool v9.2]) (Jd e9) ?_);refine rl.f 5 rfl ?_;refine RW.kp [0,2,4,5,6,7] [(0,.str x0),(2,.ptr 0 0),(4,.ptr 1 0),(5,.ptr 2 0),(6,.str v9.1),(7,.bool v9.2)] [some ⟨[.j 0,.j 0,.j 0,.j 0,.j 0,.str [],.str [],.str []],0⟩,some ⟨[.str v8.2.mText,.j v8.2.mAt,.bool v8.2.mBad],0⟩,some ⟨[.j (w64 (v1.toNat:Int)),.j v2.1,.j v3.1,.j v4.1,.j v5.1,.str v6.1,.str v7.1,.str v8.1],0⟩] rfl rfl ?_;refine RW.seq (RW.seq ?_);obtain ⟨y10,ey10,h11⟩:=A2 h10
  refine RW.cutq (σ:=Bool) (fun y10=>[(2,.ptr 0 0),(5,.ptr 1 0),(55,.bool y10)]) (fun y10=>[some ⟨[.j 0,.j 0,.j 0,.j 0,.j 0,.str [],.str [],.str []],0⟩,some ⟨[.j (w64 (v1.toNat:Int)),.j v2.1,.j v3.1,.j v4.1,.j v5.1,.str v6.1,.str v7.1,.str v8.1],0⟩]) (fun y=>y10=y) gg ?_ ?_
  ·refine RW.reg ?_;refine rl.run 5 rfl ?_
   cases hb:v8.2.mBad
   ·have h12:=A3 ey10 hb;refine rl.run 4 rfl ?_
    cases hb:(!v9.2)
    ·have h13:=A3 h12 hb;refine rl.run 2 rfl ?_
     refine rl.gen rfl rfl fun b hb=>?_
     cases b
     ·have h14:=A3 h13 hb;refine rl.f 1 rfl ?_;cases h14
      exact ⟨_,rfl,(Gh.y0 [0,2])⟩
     ·have h15:=A4 h13 hb;refine rl.f 1 rfl ?_;cases h15
      exact ⟨_,rfl,(Gh.y0 [0,2])⟩
    ·have h16:=A4 h12 hb;refine rl.f 4 rfl ?_;cases h16
     exact ⟨_,rfl,(Gh.y0 [0,2])⟩
   ·have h17:=A4 ey10 hb;refine rl.f 8 rfl ?_;cases h17
    exact ⟨_,rfl,(Gh.y0 [0,2])⟩
  ·intro y hC
   subst hC
   cases hb:y10
   ·have h18:=A3 h11 hb;refine RW.cond_f rfl (RW.skip (RW.sf 3 rfl (RW.ret ?_)));cases h18
    exact RRet.y
   ·have h19:=A4 h11 hb;refine RW.cond_t rfl (RW.sf 3 rfl (RW.ret ?_));cases h19
    exact RRet.y
 ·have h20:=A4 hF hb;refine rl.done (RW.cond_t rfl (RW.sf 3 rfl (RW.ret ?_)));cases h20
  exact RRet.y
theorem Mu {x0:TFrame} {r:TItem×Bool} (hF:W9 x0=some r):B2 Tryz.prog 150 [.agg (B5 false x0)] (.tup [.agg (A8 true r.1),.bool r.2]):=by
 refine B2.q Uj ?_;unfold W9 at hF;refine RW.sf 3 rfl (RW.sr 2 rfl ?_);obtain ⟨v1,e1,h1⟩:=A2 hF;refine rl.call rfl rfl rfl (A7.y (r':=.tup [.agg (C6 false v1.1),.bool v1.2]) (Tz e1) ?_);refine rl.f 6 rfl (RW.seq (RW.sr 1 rfl ?_));obtain ⟨v2,e2,h2⟩:=A2 h1;refine rl.call rfl rfl rfl (A7.y (r':=.bool v2) (Fi e2) ?_)
 cases hb:v2
 ·have h3:=A3 h2 hb;refine rl.f 5 rfl ?_;refine RW.kp [1,2,4,18] [(1,.ptr 0 0),(2,.ptr 1 0),(4,.ptr 2 0),(18,.bool true)] [some ⟨B5 false x0,0⟩,some ⟨[.j 0,.j 0,.j 0,.j 0,.j 0,.j 0,.str [],.str [],.str []],0⟩,some ⟨C6 false v1.1,0⟩] rfl rfl ?_;refine RW.cond_t rfl (RW.sf 3 rfl (RW.ret ?_));cases h3
  exact RRet.y
 ·have h4:=A4 h2 hb;refine rl.f 5 rfl ?_;refine RW.kp [1,2,4,18] [(1,.ptr 0 0),(2,.ptr 1 0),(4,.ptr 2 0),(18,.bool (!v1.2))] [some ⟨B5 false x0,0⟩,some ⟨[.j 0,.j 0,.j 0,.j 0,.j 0,.j 0,.str [],.str [],.str []],0⟩,some ⟨C6 false v1.1,0⟩] rfl rfl ?_
  cases hb:(!v1.2)
  ·have h5:=A3 h4 hb;refine RW.cond_f rfl (RW.skip (RW.sf 6 rfl (RW.ret ?_)));cases h5
   exact RRet.y
  ·have h6:=A4 h4 hb;refine RW.cond_t rfl (RW.sf 3 rfl (RW.ret ?_));cases h6
   exact RRet.y
theorem Kg {x0:TDisk} {x1:Int} {r:TSeg} (hF:W3 x0 x1=some r):B2 Tryz.prog 92 [.agg (A5 false x0),.j x1] (.agg (A6 true r)):=by
 refine B2.q A0o ?_;unfold W3 at hF;refine RW.sf 2 rfl (RW.sr 2 rfl ?_);obtain ⟨v1,e1,h1⟩:=A2 hF;refine rl.call rfl rfl rfl (A7.y (r':=.tup [Ce v1.1,.j v1.2]) (Po e1) ?_);refine rl.f 5 rfl (RW.sr 3 rfl ?_);obtain ⟨v2,e2,h2⟩:=A2 h1;refine rl.call rfl rfl rfl (A7.y (r':=.j v2) (Kl e2) ?_);refine rl.f 4 rfl ?_;refine RW.kp [4,5,7] [(4,.ptr 1 0),(5,Ce v1.1),(7,.ptr 2 0)] [some ⟨A5 false x0,0⟩,some ⟨[.j 0,.j 0,.j 0,.nils],0⟩,some ⟨[.j x1,.j v2,.j v1.2,.nils],0⟩] rfl rfl ?_;refine RW.seq (RW.sf 1 rfl ?_);refine RW.gh (Gh.nil_c 2 3 9 rfl rfl) ?_;obtain ⟨y8,ey8,h4⟩:=A2 h2
 refine RW.cutq (σ:=(List TItem)) (fun y4=>[(4,.ptr 0 0),(7,.ptr 1 0)]) (fun y4=>[some ⟨[.j 0,.j 0,.j 0,.nils],0⟩,some ⟨[.j x1,.j v2,.j v1.2,.sl 2 0 y4.length],0⟩,some ⟨fl (A8 true) y4,9⟩]) (fun y=>y8=y) gg ?_ ?_
 ·refine RW.blk ?_
  refine RW.iter (σ:=Int×(List TItem)) ey8 (fun s3=>[(4,.ptr 0 0),(5,Ce v1.1),(7,.ptr 1 0),(8,.j s3.1)]) (fun s3=>[some ⟨[.j 0,.j 0,.j 0,.nils],0⟩,some ⟨[.j x1,.j v2,.j v1.2,.sl 2 0 s3.2.length],0⟩,some ⟨fl (A8 true) s3.2,9⟩]) (Gh.y0 [1,2,3]) (fun s3 B o hS3 hB3 hE3=>?_)
  unfold Dp at hS3;refine RW.seq (RW.sr 3 rfl ?_)
  refine rl.gen rfl rfl fun b hb=>?_
  cases b
  ·have h5:=A3 hS3 hb;refine rl.done (RW.cond_f rfl (RW.exit (C7 ?_)));cases h5
   exact ⟨_,(hE3 _ rfl).symm,(Gh.y0 [0,1,2])⟩
  ·have h6:=A4 hS3 hb;refine rl.done (RW.cond_t rfl (RW.skip (RW.seq (RW.blk (RW.sr 2 rfl ?_)))));obtain ⟨v5,e5,h7⟩:=A2 h6;refine rl.op (B8 (enc:=B5) (o:=false) rfl rfl rfl e5) ?_;refine rl.op (F6 (off':=0) (vs:=(B5 false v5)) Fd rfl e5 rfl rfl rfl) ?_;obtain ⟨v6,e6,h8⟩:=A2 h7;refine rl.call rfl rfl rfl (A7.y (r':=.tup [.agg (A8 false v6.1),.bool v6.2]) (Mu e6) ?_);refine rl.f 6 rfl ?_;refine RW.kp [4,5,7,8,9,10] [(4,.ptr 0 0),(5,Ce v1.1),(7,.ptr 1 0),(8,.j s3.1),(9,.ptr 3 0),(10,.bool v6.2)] [some ⟨[.j 0,.j 0,.j 0,.nils],0⟩,some ⟨[.j x1,.j v2,.j v1.2,.sl 2 0 s3.2.length],0⟩,some ⟨fl (A8 true) s3.2,9⟩,some ⟨A8 false v6.1,0⟩] rfl rfl ?_;refine RW.sf 1 rfl ?_
   cases hb:v6.2
   ·have h9:=A3 h8 hb;refine RW.cond_f rfl (RW.skip (RW.reg (rl.f 3 rfl ?_)));cases h9
    exact hB3 _ rfl _ _ (Gh.y0 [0,1,2])
   ·have h10:=A4 h8 hb;refine RW.cond_t rfl (RW.reg (rl.run 4 rfl ?_));obtain ⟨v7,e7,h11⟩:=A2 h10;refine rl.op (R5 rfl rfl (Q0 (l:=s3.2) (m:=[v6.1]) (o:=true) B9 rfl rfl (L2 (m:=[v6.1]) (o:=true) M1 rfl rfl) rfl (M1.fst _ _) e7)) ?_;refine rl.f 2 rfl (RW.reg (rl.f 3 rfl ?_));cases h11
    exact hB3 _ rfl _ _ (Gh.y0 [0,1,5])
 ·intro y4 hC
  subst hC;refine RW.sf 2 rfl (RW.ret ?_);cases h4
  exact RRet.y
theorem Tu {x0:List TItem} {r:Bool} (hF:Cb x0=some r):B2 Tryz.prog 93 [E6 x0] (.bool r):=by
 refine B2.q Yz ?_;unfold Cb at hF;refine RW.sf 1 rfl (RW.seq (RW.sf 1 rfl ?_));obtain ⟨y16,ey16,h2⟩:=A2 hF
 refine RW.cutq (σ:=Unit) (fun y2=>[(0,E6 x0)]) (fun y2=>[]) (fun y=>y16=.inr y) gg ?_ ?_
 ·refine RW.blk ?_
  refine RW.iter (σ:=Int) ey16 (fun s1=>[(0,E6 x0),(3,.j s1)]) (fun s1=>[]) (Gh.y0 []) (fun s1 B o hS1 hB1 hE1=>?_)
  unfold Y2 at hS1;refine RW.seq (RW.sr 3 rfl ?_)
  refine rl.gen rfl rfl fun b hb=>?_
  cases b
  ·have h3:=A3 hS1 hb;refine rl.done (RW.cond_f rfl (RW.exit (C7 ?_)));cases h3
   exact ⟨_,(hE1 _ rfl).symm,(Gh.y0 [])⟩
  ·have h4:=A4 hS1 hb;refine rl.done (RW.cond_t rfl (RW.skip (RW.seq (RW.blk (RW.seq (RW.seq ?_))))));obtain ⟨y3,ey3,h5⟩:=A2 h4
   refine RW.cutq (σ:=Bool) (fun y3=>[(0,E6 x0),(3,.j s1),(26,.bool y3)]) (fun y3=>[]) (fun y=>y3=y) gg ?_ ?_
   ·refine RW.reg ?_;refine rl.run 2 rfl ?_;obtain ⟨v4,e4,h6⟩:=A2 ey3;refine rl.op (B8 (enc:=A8) (o:=false) rfl rfl rfl e4) ?_;refine rl.run 1 rfl ?_;refine rl.op (E2 (off':=0) B9 rfl e4 rfl rfl rfl) ?_;obtain ⟨v5,e5,h7⟩:=A2 h6;refine rl.call rfl rfl rfl (A7.y (r':=.bool v5) (B6 e5) ?_)
    cases hb:v5
    ·have h8:=A3 h7 hb;refine rl.f 10 rfl ?_;cases h8
     exact ⟨_,rfl,(Gh.y0 [])⟩
    ·have h9:=A4 h7 hb;refine rl.run 4 rfl ?_;obtain ⟨v6,e6,h10⟩:=A2 h9;refine rl.gop rfl (B8 (enc:=A8) (o:=false) rfl rfl rfl e6) ?_;refine rl.run 1 rfl ?_;refine rl.gop rfl (F6 (off':=1) (vs:=(C6 false v6.Rec)) B9 rfl e6 rfl rfl rfl) ?_;obtain ⟨v7,e7,h11⟩:=A2 h10;refine rl.call rfl rfl rfl (A7.y (r':=.bool v7) (Ll e7) ?_)
     cases hb:v7
     ·have h12:=A3 h11 hb;refine rl.f 2 rfl ?_;cases h12
      exact ⟨_,rfl,(Gh.y0 [])⟩
     ·have h13:=A4 h11 hb;refine rl.f 2 rfl ?_;cases h13
      exact ⟨_,rfl,(Gh.y0 [])⟩
   ·intro y hC
    subst hC
    cases hb:y3
    ·have h14:=A3 h5 hb;refine RW.cond_f rfl (RW.skip (RW.sf 1 rfl ?_));obtain ⟨y15,ey15,h16⟩:=A2 h14
     refine RW.cutq (σ:=Unit) (fun y9=>[(0,E6 x0),(3,.j s1)]) (fun y9=>[]) (fun y=>y15=.inr y) gg ?_ ?_
     ·refine RW.blk ?_
      refine RW.iter (σ:=Int) ey15 (fun s8=>[(0,E6 x0),(3,.j s1),(4,.j s8)]) (fun s8=>[]) (Gh.y0 []) (fun s8 B o hS15 hB15 hE15=>?_)
      unfold Ag at hS15;refine RW.seq (RW.sr 2 rfl ?_)
      refine rl.gen rfl rfl fun b hb=>?_
      cases b
      ·have h17:=A3 hS15 hb;refine rl.done (RW.cond_f rfl (RW.exit (C7 ?_)));cases h17
       exact ⟨_,(hE15 _ rfl).symm,(Gh.y0 [])⟩
      ·have h18:=A4 hS15 hb;refine rl.done (RW.cond_t rfl (RW.skip (RW.seq (RW.blk (RW.seq ?_)))));obtain ⟨y10,ey10,h19⟩:=A2 h18
       refine RW.cutq (σ:=Bool) (fun y10=>[(0,E6 x0),(3,.j s1),(4,.j s8),(53,.bool y10)]) (fun y10=>[]) (fun y=>y10=y) gg ?_ ?_
       ·refine RW.drw ?_;refine A0.op rfl rfl (A0.op rfl rfl ?_);obtain ⟨v11,e11,h20⟩:=A2 ey10;refine A0.op rfl (B8 (enc:=A8) (o:=false) rfl rfl rfl e11) ?_;refine A0.op rfl rfl ?_;refine A0.op rfl (E2 (off':=0) B9 rfl e11 rfl rfl rfl) ?_;refine A0.op rfl rfl (A0.op rfl rfl ?_);obtain ⟨v12,e12,h21⟩:=A2 h20;refine A0.op rfl (B8 (enc:=A8) (o:=false) rfl rfl rfl e12) ?_;refine A0.op rfl rfl ?_;refine A0.op rfl (E2 (off':=0) B9 rfl e12 rfl rfl rfl) ?_
        refine A0.gen rfl rfl fun b hb=>?_
        cases b
        ·have h22:=A3 h21 hb;refine A0.op rfl rfl (A0.off rfl (A0.off rfl (A0.off rfl (A0.off rfl (A0.off rfl (A0.off rfl (A0.off rfl (A0.off rfl (A0.off rfl (A0.op rfl rfl (A0.done ?_)))))))))));cases h22
         exact ⟨_,rfl,(Gh.y0 [])⟩
        ·have h23:=A4 h21 hb;refine A0.op rfl rfl (A0.op rfl rfl (A0.op rfl rfl ?_));obtain ⟨v13,e13,h24⟩:=A2 h23;refine A0.op rfl (B8 (enc:=A8) (o:=false) rfl rfl rfl e13) ?_;refine A0.op rfl (F6 (off':=0) (vs:=(A8 false v13)) B9 rfl e13 rfl rfl rfl) ?_;refine A0.op rfl rfl (A0.op rfl rfl ?_);obtain ⟨v14,e14,h25⟩:=A2 h24;refine A0.op rfl (B8 (enc:=A8) (o:=false) rfl rfl rfl e14) ?_;refine A0.op rfl (F6 (off':=0) (vs:=(A8 false v14)) B9 rfl e14 rfl rfl rfl) ?_
         refine A0.gen rfl rfl fun b hb=>?_
         cases b
         ·have h26:=A3 h25 hb;refine A0.op rfl rfl (A0.done ?_);cases h26
          exact ⟨_,rfl,(Gh.y0 [])⟩
         ·have h27:=A4 h25 hb;refine A0.op rfl rfl (A0.done ?_);cases h27
          exact ⟨_,rfl,(Gh.y0 [])⟩
       ·intro y hC
        subst hC
        cases hb:y10
        ·have h28:=A3 h19 hb;refine RW.cond_f rfl (RW.skip (RW.reg (rl.f 3 rfl ?_)));cases h28
         exact hB15 _ rfl _ _ (Gh.y0 [])
        ·have h29:=A4 h19 hb;refine RW.cond_t rfl (RW.sf 1 rfl (RW.ret ?_));cases h29;have h30:=elimL h16 (hE15 _ rfl);cases h30;have h31:=elimL h2 (hE1 _ rfl);cases h31
         exact RRet.y
     ·intro y9 hC
      have h16:=elimR h16 hC;refine RW.reg (rl.f 3 rfl ?_);cases h16
      exact hB1 _ rfl _ _ (Gh.y0 [])
    ·have h32:=A4 h5 hb;refine RW.cond_t rfl (RW.sf 1 rfl (RW.ret ?_));cases h32;have h33:=elimL h2 (hE1 _ rfl);cases h33
     exact RRet.y
 ·intro y2 hC
  have h2:=elimR h2 hC;refine RW.sf 4 rfl (RW.ret ?_);cases h2
  exact RRet.y
theorem Zn {x0:TLog} {r:Bool} (hF:Ep x0=some r):B2 Tryz.prog 32 [.agg (A9 false x0)] (.bool r):=by
 refine B2.q A22 ?_;unfold Ep at hF;refine RW.sf 2 rfl (RW.seq (RW.seq ?_));obtain ⟨y1,ey1,h1⟩:=A2 hF
 refine RW.cutq (σ:=Bool) (fun y1=>[(1,.ptr 0 0),(40,.bool y1)]) (fun y1=>[some ⟨A9 false x0,0⟩]) (fun y=>y1=y) gg ?_ ?_
 ·refine RW.drw ?_;refine A0.op rfl rfl (A0.op rfl rfl ?_);obtain ⟨v2,e2,h2⟩:=A2 ey1;refine A0.call rfl rfl rfl (A7.y (r':=.bool v2) (Av e2) ⟨rfl,?_⟩)
  cases hb:v2
  ·have h3:=A3 h2 hb;refine A0.op rfl rfl (A0.op rfl rfl (A0.off rfl (A0.off rfl (A0.off rfl (A0.off rfl (A0.off rfl (A0.op rfl rfl (A0.op rfl rfl (A0.off rfl (A0.off rfl (A0.off rfl ?_)))))))))));refine A0.op rfl rfl (A0.op rfl rfl (A0.off rfl (A0.off rfl (A0.off rfl (A0.off rfl (A0.off rfl (A0.off rfl (A0.op rfl rfl (A0.op rfl rfl (A0.off rfl (A0.off rfl ?_)))))))))));refine A0.off rfl (A0.off rfl (A0.off rfl (A0.off rfl (A0.off rfl (A0.op rfl rfl (A0.done ?_))))));cases h3
   exact ⟨_,rfl,(Gh.y0 [0])⟩
  ·have h4:=A4 h2 hb;refine A0.op rfl rfl (A0.op rfl rfl (A0.op rfl rfl (A0.op rfl rfl (A0.op rfl rfl (A0.op rfl rfl ?_)))))
   refine A0.gen rfl rfl fun b hb=>?_
   cases b
   ·have h5:=A3 h4 hb;refine A0.op rfl rfl (A0.op rfl rfl (A0.op rfl rfl (A0.op rfl rfl ?_)))
    refine A0.gen rfl rfl fun b hb=>?_
    cases b
    ·have h6:=A3 h5 hb;refine A0.op rfl rfl (A0.op rfl rfl (A0.op rfl rfl (A0.op rfl rfl (A0.op rfl rfl (A0.op rfl rfl ?_)))));obtain ⟨v3,e3,h7⟩:=A2 h6;refine A0.call rfl rfl rfl (A7.y (r':=.j v3) (Wp e3) ⟨rfl,?_⟩)
     refine A0.gen rfl rfl fun b hb=>?_
     cases b
     ·have h8:=A3 h7 hb;refine A0.op rfl rfl (A0.op rfl rfl (A0.op rfl rfl (A0.op rfl rfl (A0.op rfl rfl (A0.op rfl rfl (A0.op rfl rfl ?_))))));obtain ⟨v4,e4,h9⟩:=A2 h8;refine A0.call rfl rfl rfl (A7.y (r':=.bool v4) (B6 e4) ⟨rfl,?_⟩)
      cases hb:v4
      ·have h10:=A3 h9 hb;refine A0.op rfl rfl (A0.op rfl rfl (A0.done ?_));cases h10
       exact ⟨_,rfl,(Gh.y0 [0])⟩
      ·have h11:=A4 h9 hb;refine A0.op rfl rfl (A0.op rfl rfl (A0.done ?_));cases h11
       exact ⟨_,rfl,(Gh.y0 [0])⟩
     ·have h12:=A4 h7 hb;refine A0.op rfl rfl (A0.op rfl rfl (A0.off rfl (A0.off rfl (A0.off rfl (A0.off rfl (A0.off rfl (A0.off rfl (A0.off rfl (A0.op rfl rfl (A0.done ?_))))))))));cases h12
      exact ⟨_,rfl,(Gh.y0 [0])⟩
    ·have h13:=A4 h5 hb;refine A0.op rfl rfl (A0.op rfl rfl (A0.off rfl (A0.off rfl (A0.off rfl (A0.off rfl (A0.off rfl (A0.off rfl (A0.op rfl rfl (A0.op rfl rfl (A0.off rfl (A0.off rfl ?_)))))))))));refine A0.off rfl (A0.off rfl (A0.off rfl (A0.off rfl (A0.off rfl (A0.op rfl rfl (A0.done ?_))))));cases h13
     exact ⟨_,rfl,(Gh.y0 [0])⟩
   ·have h14:=A4 h4 hb;refine A0.op rfl rfl (A0.op rfl rfl (A0.off rfl (A0.off rfl (A0.off rfl (A0.op rfl rfl (A0.op rfl rfl (A0.off rfl (A0.off rfl (A0.off rfl (A0.off rfl (A0.off rfl ?_)))))))))));refine A0.off rfl (A0.op rfl rfl (A0.op rfl rfl (A0.off rfl (A0.off rfl (A0.off rfl (A0.off rfl (A0.off rfl (A0.off rfl (A0.off rfl (A0.op rfl rfl (A0.done ?_)))))))))));cases h14
    exact ⟨_,rfl,(Gh.y0 [0])⟩
 ·intro y hC
  subst hC
  cases hb:y1
  ·have h15:=A3 h1 hb;refine RW.cond_f rfl (RW.skip (RW.seq (RW.seq ?_)));obtain ⟨y5,ey5,h16⟩:=A2 h15
   refine RW.cutq (σ:=Bool) (fun y5=>[(1,.ptr 0 0),(62,.bool y5)]) (fun y5=>[some ⟨A9 false x0,0⟩]) (fun y=>y5=y) gg ?_ ?_
   ·refine RW.reg ?_;refine rl.run 2 rfl ?_;obtain ⟨v6,e6,h17⟩:=A2 ey5;refine rl.call rfl rfl rfl (A7.y (r':=.bool v6) (B6 e6) ?_)
    cases hb:v6
    ·have h18:=A3 h17 hb;refine rl.f 19 rfl ?_;cases h18
     exact ⟨_,rfl,(Gh.y0 [0])⟩
    ·have h19:=A4 h17 hb;refine rl.run 4 rfl ?_;obtain ⟨v7,e7,h20⟩:=A2 h19;refine rl.call rfl rfl rfl (A7.y (r':=.bool v7) (B6 e7) ?_)
     cases hb:v7
     ·have h21:=A3 h20 hb;refine rl.f 14 rfl ?_;cases h21
      exact ⟨_,rfl,(Gh.y0 [0])⟩
     ·have h22:=A4 h20 hb;refine rl.run 5 rfl ?_;obtain ⟨v8,e8,h23⟩:=A2 h22;refine rl.call rfl rfl rfl (A7.y (r':=.bool v8) (B6 e8) ?_)
      cases hb:v8
      ·have h24:=A3 h23 hb;refine rl.f 8 rfl ?_;cases h24
       exact ⟨_,rfl,(Gh.y0 [0])⟩
      ·have h25:=A4 h23 hb;refine rl.run 5 rfl ?_;obtain ⟨v9,e9,h26⟩:=A2 h25;refine rl.call rfl rfl rfl (A7.y (r':=.bool v9) (B6 e9) ?_)
       cases hb:v9
       ·have h27:=A3 h26 hb;refine rl.f 2 rfl ?_;cases h27
        exact ⟨_,rfl,(Gh.y0 [0])⟩
       ·have h28:=A4 h26 hb;refine rl.f 2 rfl ?_;cases h28
        exact ⟨_,rfl,(Gh.y0 [0])⟩
   ·intro y hC
    subst hC
    cases hb:y5
    ·have h29:=A3 h16 hb;refine RW.cond_f rfl (RW.skip (RW.seq (RW.sf 1 rfl ?_)));obtain ⟨y24,ey24,h31⟩:=A2 h29
     refine RW.cutq (σ:=Unit) (fun y11=>[(1,.ptr 0 0)]) (fun y11=>[some ⟨A9 false x0,0⟩]) (fun y=>y24=.inr y) gg ?_ ?_
     ·refine RW.blk ?_
      refine RW.iter (σ:=Int) ey24 (fun s10=>[(1,.ptr 0 0),(3,.j s10)]) (fun s10=>[some ⟨A9 false x0,0⟩]) (Gh.y0 [0]) (fun s10 B o hS30 hB30 hE30=>?_)
      unfold Em at hS30;refine RW.seq (RW.sr 4 rfl ?_)
      refine rl.gen rfl rfl fun b hb=>?_
      cases b
      ·have h32:=A3 hS30 hb;refine rl.done (RW.cond_f rfl (RW.exit (C7 ?_)));cases h32
       exact ⟨_,(hE30 _ rfl).symm,(Gh.y0 [0])⟩
      ·have h33:=A4 hS30 hb;refine rl.done (RW.cond_t rfl (RW.skip (RW.seq (RW.blk (RW.sr 3 rfl ?_)))));obtain ⟨v12,e12,h34⟩:=A2 h33;refine rl.op (B8 (enc:=A6) (o:=false) rfl rfl rfl e12) ?_;refine rl.op (F6 (off':=0) (vs:=(A6 false v12)) B3 rfl e12 rfl rfl rfl) ?_;refine rl.f 2 rfl (RW.seq (RW.seq ?_));obtain ⟨y13,ey13,h35⟩:=A2 h34
       refine RW.cutq (σ:=Bool) (fun y13=>[(1,.ptr 0 0),(3,.j s10),(4,.ptr 1 0),(119,.bool y13)]) (fun y13=>[some ⟨A9 false x0,0⟩,some ⟨A6 false v12,0⟩]) (fun y=>y13=y) gg ?_ ?_
       ·refine RW.drw ?_;refine A0.op rfl rfl (A0.op rfl rfl (A0.op rfl rfl (A0.op rfl rfl (A0.op rfl rfl ?_))));obtain ⟨v14,e14,h36⟩:=A2 ey13;refine A0.call rfl rfl rfl (A7.y (r':=.bool v14) (B6 e14) ⟨rfl,?_⟩)
        cases hb:v14
        ·have h37:=A3 h36 hb;refine A0.op rfl rfl (A0.op rfl rfl (A0.off rfl (A0.off rfl (A0.off rfl (A0.op rfl rfl (A0.op rfl rfl (A0.off rfl (A0.off rfl (A0.off rfl (A0.off rfl (A0.off rfl ?_)))))))))));refine A0.op rfl rfl (A0.op rfl rfl (A0.off rfl (A0.off rfl (A0.off rfl (A0.off rfl (A0.off rfl (A0.off rfl (A0.off rfl (A0.off rfl (A0.off rfl (A0.off rfl ?_)))))))))));refine A0.off rfl (A0.off rfl (A0.off rfl (A0.off rfl (A0.op rfl rfl (A0.op rfl rfl (A0.off rfl (A0.off rfl (A0.off rfl (A0.off rfl (A0.off rfl (A0.off rfl ?_)))))))))));refine A0.off rfl (A0.off rfl (A0.op rfl rfl (A0.done ?_)));cases h37
         exact ⟨_,rfl,(Gh.y0 [0,1])⟩
        ·have h38:=A4 h36 hb;refine A0.op rfl rfl (A0.op rfl rfl (A0.op rfl rfl (A0.op rfl rfl ?_)))
         refine A0.gen rfl rfl fun b hb=>?_
         cases b
         ·have h39:=A3 h38 hb;refine A0.op rfl rfl (A0.op rfl rfl (A0.op rfl rfl (A0.op rfl rfl (A0.op rfl rfl (A0.op rfl rfl ?_)))))
          refine A0.gen rfl rfl fun b hb=>?_
          cases b
          ·have h40:=A3 h39 hb;refine A0.op rfl rfl (A0.op rfl rfl (A0.op rfl rfl ?_))
           refine A0.gen rfl rfl fun b hb=>?_
           cases b
           ·have h41:=A3 h40 hb;refine A0.op rfl rfl (A0.off rfl (A0.off rfl (A0.off rfl (A0.off rfl (A0.off rfl (A0.off rfl (A0.off rfl (A0.off rfl (A0.off rfl (A0.off rfl (A0.op rfl rfl ?_)))))))))));refine A0.op rfl rfl (A0.op rfl rfl (A0.op rfl rfl (A0.op rfl rfl (A0.op rfl rfl (A0.op rfl rfl (A0.op rfl rfl ?_))))));obtain ⟨v15,e15,h42⟩:=A2 h41;refine A0.call rfl rfl rfl (A7.y (r':=.agg (A6 false v15)) (Kg e15) ⟨rfl,?_⟩);obtain ⟨v16,e16,h43⟩:=A2 h42;refine A0.call rfl rfl rfl (A7.y (r':=.bool v16) (Fg e16) ⟨rfl,?_⟩)
            cases hb:v16
            ·have h44:=A3 h43 hb;refine A0.op rfl rfl (A0.op rfl rfl (A0.done ?_));cases h44
             exact ⟨_,rfl,(Gh.y0 [0,1])⟩
            ·have h45:=A4 h43 hb;refine A0.op rfl rfl (A0.op rfl rfl (A0.done ?_));cases h45
             exact ⟨_,rfl,(Gh.y0 [0,1])⟩
           ·have h46:=A4 h40 hb;refine A0.op rfl rfl (A0.op rfl rfl (A0.op rfl rfl (A0.op rfl rfl (A0.op rfl rfl ?_))));obtain ⟨v17,e17,h47⟩:=A2 h46;refine A0.op rfl (B8 (enc:=A6) (o:=false) rfl rfl rfl e17) ?_;refine A0.op rfl rfl ?_;refine A0.op rfl (E2 (off':=1) B3 rfl e17 rfl rfl rfl) ?_;refine A0.op rfl rfl (A0.op rfl rfl ?_)
            refine A0.gen rfl rfl fun b hb=>?_
            cases b
            ·have h48:=A3 h47 hb;refine A0.op rfl rfl (A0.op rfl rfl (A0.op rfl rfl (A0.op rfl rfl (A0.op rfl rfl (A0.op rfl rfl (A0.op rfl rfl (A0.op rfl rfl ?_)))))));obtain ⟨v18,e18,h49⟩:=A2 h48;refine A0.call rfl rfl rfl (A7.y (r':=.agg (A6 false v18)) (Kg e18) ⟨rfl,?_⟩);obtain ⟨v19,e19,h50⟩:=A2 h49;refine A0.call rfl rfl rfl (A7.y (r':=.bool v19) (Fg e19) ⟨rfl,?_⟩)
             cases hb:v19
             ·have h51:=A3 h50 hb;refine A0.op rfl rfl (A0.op rfl rfl (A0.done ?_));cases h51
              exact ⟨_,rfl,(Gh.y0 [0,1])⟩
             ·have h52:=A4 h50 hb;refine A0.op rfl rfl (A0.op rfl rfl (A0.done ?_));cases h52
              exact ⟨_,rfl,(Gh.y0 [0,1])⟩
            ·have h53:=A4 h47 hb;refine A0.op rfl rfl (A0.op rfl rfl (A0.op rfl rfl (A0.off rfl (A0.off rfl (A0.off rfl (A0.off rfl (A0.off rfl (A0.off rfl (A0.off rfl (A0.off rfl (A0.op rfl rfl ?_)))))))))));refine A0.done ?_;cases h53
             exact ⟨_,rfl,(Gh.y0 [0,1])⟩
          ·have h54:=A4 h39 hb;refine A0.op rfl rfl (A0.op rfl rfl (A0.off rfl (A0.off rfl (A0.off rfl (A0.off rfl (A0.off rfl (A0.off rfl (A0.off rfl (A0.off rfl (A0.off rfl (A0.off rfl ?_)))))))))));refine A0.off rfl (A0.off rfl (A0.off rfl (A0.off rfl (A0.op rfl rfl (A0.op rfl rfl (A0.off rfl (A0.off rfl (A0.off rfl (A0.off rfl (A0.off rfl (A0.off rfl ?_)))))))))));refine A0.off rfl (A0.off rfl (A0.op rfl rfl (A0.done ?_)));cases h54
           exact ⟨_,rfl,(Gh.y0 [0,1])⟩
         ·have h55:=A4 h38 hb;refine A0.op rfl rfl (A0.op rfl rfl (A0.off rfl (A0.off rfl (A0.off rfl (A0.off rfl (A0.off rfl (A0.op rfl rfl (A0.op rfl rfl (A0.off rfl (A0.off rfl (A0.off rfl ?_)))))))))));refine A0.off rfl (A0.off rfl (A0.off rfl (A0.off rfl (A0.off rfl (A0.off rfl (A0.off rfl (A0.off rfl (A0.off rfl (A0.off rfl (A0.off rfl (A0.op rfl rfl ?_)))))))))));refine A0.op rfl rfl (A0.off rfl (A0.off rfl (A0.off rfl (A0.off rfl (A0.off rfl (A0.off rfl (A0.off rfl (A0.off rfl (A0.op rfl rfl (A0.done ?_))))))))));cases h55
          exact ⟨_,rfl,(Gh.y0 [0,1])⟩
       ·intro y hC
        subst hC
        cases hb:y13
        ·have h56:=A3 h35 hb;refine RW.cond_f rfl (RW.skip (RW.sf 1 rfl ?_));obtain ⟨y23,ey23,h58⟩:=A2 h56
         refine RW.cutq (σ:=Unit) (fun y21=>[(1,.ptr 0 0),(3,.j s10)]) (fun y21=>[some ⟨A9 false x0,0⟩]) (fun y=>y23=.inr y) gg ?_ ?_
         ·refine RW.blk ?_
          refine RW.iter (σ:=Int) ey23 (fun s20=>[(1,.ptr 0 0),(3,.j s10),(4,.ptr 1 0),(5,.j s20)]) (fun s20=>[some ⟨A9 false x0,0⟩,some ⟨A6 false v12,0⟩]) (Gh.y0 [0,1]) (fun s20 B o hS57 hB57 hE57=>?_)
          unfold Bu at hS57;refine RW.seq (RW.sr 2 rfl ?_)
          refine rl.gen rfl rfl fun b hb=>?_
          cases b
          ·have h59:=A3 hS57 hb;refine rl.done (RW.cond_f rfl (RW.exit (C7 ?_)));cases h59
           exact ⟨_,(hE57 _ rfl).symm,(Gh.y0 [0])⟩
          ·have h60:=A4 hS57 hb;refine rl.done (RW.cond_t rfl (RW.skip (RW.seq (RW.blk (RW.sdrw (A0.op rfl rfl (A0.op rfl rfl (A0.op rfl rfl ?_))))))));obtain ⟨v22,e22,h61⟩:=A2 h60;refine A0.op rfl (B8 (enc:=A6) (o:=false) rfl rfl rfl e22) ?_;refine A0.op rfl rfl ?_;refine A0.op rfl (E2 (off':=0) B3 rfl e22 rfl rfl rfl) ?_;refine A0.op rfl rfl (A0.op rfl rfl ?_)
           refine A0.gen rfl rfl fun b hb=>?_
           cases b
           ·have h62:=A3 h61 hb;refine A0.done ?_;refine RW.kp [1,3,4,5,133] [(1,.ptr 0 0),(3,.j s10),(4,.ptr 1 0),(5,.j s20),(133,.bool false)] [some ⟨A9 false x0,0⟩,some ⟨A6 false v12,0⟩] rfl rfl ?_;refine RW.cond_f rfl (RW.skip (RW.reg (rl.f 3 rfl ?_)));cases h62
            exact hB57 _ rfl _ _ (Gh.y0 [0,1])
           ·have h63:=A4 h61 hb;refine A0.done ?_;refine RW.kp [1,3,4,5,133] [(1,.ptr 0 0),(3,.j s10),(4,.ptr 1 0),(5,.j s20),(133,.bool true)] [some ⟨A9 false x0,0⟩,some ⟨A6 false v12,0⟩] rfl rfl ?_;refine RW.cond_t rfl (RW.sf 1 rfl (RW.ret ?_));cases h63;have h64:=elimL h58 (hE57 _ rfl);cases h64;have h65:=elimL h31 (hE30 _ rfl);cases h65
            exact RRet.y
         ·intro y21 hC
          have h58:=elimR h58 hC;refine RW.reg (rl.f 3 rfl ?_);cases h58
          exact hB30 _ rfl _ _ (Gh.y0 [0])
        ·have h66:=A4 h35 hb;refine RW.cond_t rfl (RW.sf 1 rfl (RW.ret ?_));cases h66;have h67:=elimL h31 (hE30 _ rfl);cases h67
         exact RRet.y
     ·intro y11 hC
      have h31:=elimR h31 hC;refine RW.sr 1 rfl ?_;obtain ⟨v25,e25,h68⟩:=A2 h31;refine rl.call rfl rfl rfl (A7.y (r':=E6 v25) (Fc e25) ?_);refine rl.f 1 rfl (RW.seq (RW.sf 1 rfl ?_));obtain ⟨y31,ey31,h70⟩:=A2 h68
      refine RW.cutq (σ:=Unit) (fun y27=>[(6,E6 v25)]) (fun y27=>[]) (fun y=>y31=.inr y) gg ?_ ?_
      ·refine RW.blk ?_
       refine RW.iter (σ:=Int) ey31 (fun s26=>[(1,.ptr 0 0),(6,E6 v25),(7,.j s26)]) (fun s26=>[some ⟨A9 false x0,0⟩]) (Gh.y0 [0]) (fun s26 B o hS69 hB69 hE69=>?_)
       unfold Es at hS69;refine RW.seq (RW.sr 3 rfl ?_)
       refine rl.gen rfl rfl fun b hb=>?_
       cases b
       ·have h71:=A3 hS69 hb;refine rl.done (RW.cond_f rfl (RW.exit (C7 ?_)));cases h71
        exact ⟨_,(hE69 _ rfl).symm,(Gh.y0 [])⟩
       ·have h72:=A4 hS69 hb;refine rl.done (RW.cond_t rfl (RW.skip (RW.seq (RW.blk (RW.seq ?_)))));obtain ⟨y28,ey28,h73⟩:=A2 h72
        refine RW.cutq (σ:=Bool) (fun y28=>[(1,.ptr 0 0),(6,E6 v25),(7,.j s26),(160,.bool y28)]) (fun y28=>[some ⟨A9 false x0,0⟩]) (fun y=>y28=y) gg ?_ ?_
        ·refine RW.drw ?_;refine A0.op rfl rfl (A0.op rfl rfl ?_);obtain ⟨v29,e29,h74⟩:=A2 ey28;refine A0.op rfl (B8 (enc:=A8) (o:=false) rfl rfl rfl e29) ?_;refine A0.op rfl rfl ?_;refine A0.op rfl (E2 (off':=0) B9 rfl e29 rfl rfl rfl) ?_;refine A0.op rfl rfl (A0.op rfl rfl ?_)
         refine A0.gen rfl rfl fun b hb=>?_
         cases b
         ·have h75:=A3 h74 hb;refine A0.op rfl rfl (A0.op rfl rfl (A0.op rfl rfl ?_));obtain ⟨v30,e30,h76⟩:=A2 h75;refine A0.op rfl (B8 (enc:=A8) (o:=false) rfl rfl rfl e30) ?_;refine A0.op rfl rfl (A0.op rfl rfl ?_);refine A0.op rfl (E2 (off':=2) B9 rfl e30 rfl rfl rfl) ?_;refine A0.op rfl rfl (A0.op rfl rfl ?_)
          refine A0.gen rfl rfl fun b hb=>?_
          cases b
          ·have h77:=A3 h76 hb;refine A0.op rfl rfl (A0.done ?_);cases h77
           exact ⟨_,rfl,(Gh.y0 [0])⟩
          ·have h78:=A4 h76 hb;refine A0.op rfl rfl (A0.done ?_);cases h78
           exact ⟨_,rfl,(Gh.y0 [0])⟩
         ·have h79:=A4 h74 hb;refine A0.op rfl rfl (A0.off rfl (A0.off rfl (A0.off rfl (A0.off rfl (A0.off rfl (A0.off rfl (A0.off rfl (A0.off rfl (A0.off rfl (A0.op rfl rfl (A0.done ?_)))))))))));cases h79
          exact ⟨_,rfl,(Gh.y0 [0])⟩
        ·intro y hC
         subst hC
         cases hb:y28
         ·have h80:=A3 h73 hb;refine RW.cond_f rfl (RW.skip (RW.reg (rl.f 3 rfl ?_)));cases h80
          exact hB69 _ rfl _ _ (Gh.y0 [0])
         ·have h81:=A4 h73 hb;refine RW.cond_t rfl (RW.sf 1 rfl (RW.ret ?_));cases h81;have h82:=elimL h70 (hE69 _ rfl);cases h82
          exact RRet.y
      ·intro y27 hC
       have h70:=elimR h70 hC;refine RW.sr 1 rfl ?_;obtain ⟨v32,e32,h83⟩:=A2 h70;refine rl.call rfl rfl rfl (A7.y (r':=.bool v32) (Tu e32) ?_);refine rl.f 1 rfl (RW.ret ?_);cases h83
       exact RRet.y
    ·have h84:=A4 h16 hb;refine RW.cond_t rfl (RW.sf 1 rfl (RW.ret ?_));cases h84
     exact RRet.y
  ·have h85:=A4 h1 hb;refine RW.cond_t rfl (RW.sf 1 rfl (RW.ret ?_));cases h85
   exact RRet.y
theorem H4 {x0:TDisk} {r:TDisk} (hF:D2 x0=some r):B2 Tryz.prog 109 [.agg (A5 false x0)] (.agg (A5 true r)):=by
 refine B2.q Xu ?_;unfold D2 at hF;refine RW.sf 2 rfl (RW.sdrw (A0.op rfl rfl (A0.op rfl rfl (A0.op rfl rfl ?_))));obtain ⟨v1,e1,h1⟩:=A2 hF;refine A0.chn rfl (R5 rfl rfl (Gx (m:=x0.Sectors) (o:=true) ekS Bd rfl (fkS.fst _ _) e1)) ?_;refine A0.opA rfl rfl (.here (.rx rfl) .nil) ?_;refine A0.opA rfl rfl (.here (.rx rfl) .nil) ?_;refine A0.opA rfl rfl (.here (.rx rfl) .nil) ?_;obtain ⟨v2,e2,h2⟩:=A2 h1;refine A0.chn rfl (R5 rfl rfl (Gx (m:=x0.Cache) (o:=true) B4 Bd rfl (Fj.fst _ _) e2)) ?_;refine A0.op rfl rfl ?_;refine A0.chn rfl rfl ?_;refine A0.done ?_;refine RW.kp [2] [(2,.ptr 1 0)] [some ⟨A5 false x0,0⟩,some ⟨[.sl 2 0 v1.length,.sl 3 0 v2.length],0⟩,some ⟨fl (encS true) v1,1⟩,some ⟨fl (A1 true) v2,2⟩] rfl rfl ?_;refine RW.ret ?_;cases h2
 exact RRet.y
theorem Y1 {x0:TLog} {r:TLog} (hF:L3 x0=some r):B2 Tryz.prog 85 [.agg (A9 false x0)] (.agg (A9 true r)):=by
 refine B2.q Xt ?_;unfold L3 at hF;refine RW.sf 2 rfl (RW.sf 3 rfl (RW.sr 2 rfl ?_));obtain ⟨v1,e1,h1⟩:=A2 hF;refine rl.call rfl rfl rfl (A7.z (r':=.agg (C3 3 4 v1)) (H':=[some ⟨A9 false x0,0⟩,some ⟨[.nils,.nils,.j 0,.nils,.j 0,.j 0,.j 0,.j 0],0⟩,some ⟨A9 false x0,0⟩,some ⟨fl (encS true) v1.Sectors,1⟩,some ⟨fl (A1 true) v1.Cache,2⟩]) (H4 e1) ?_);refine rl.f 2 rfl (RW.sf 3 rfl (RW.seq (RW.sf 1 rfl ?_)));refine RW.gh (Gh.nil_c 2 3 4 rfl rfl) ?_;obtain ⟨y7,ey7,h3⟩:=A2 h1
 refine RW.cutq (σ:=(List TSeg)) (fun y3=>[(2,.ptr 0 0),(3,.ptr 1 0)]) (fun y3=>[some ⟨[.nils,.nils,.j 0,.nils,.j 0,.j 0,.j 0,.j 0],0⟩,some ⟨[.sl 2 0 v1.Sectors.length,.sl 3 0 v1.Cache.length,.j x0.Segs,.sl 4 0 y3.length,.j x0.NextGen,.j x0.NextSeq,.j x0.Stamp,.j x0.NextValid],0⟩,some ⟨fl (encS true) v1.Sectors,1⟩,some ⟨fl (A1 true) v1.Cache,2⟩,some ⟨fl (A6 true) y3,4⟩]) (fun y=>y7=y) gg ?_ ?_
 ·refine RW.blk ?_
  refine RW.iter (σ:=Int×(List TSeg)) ey7 (fun s2=>[(1,.ptr 0 0),(2,.ptr 1 0),(3,.ptr 2 0),(4,.j s2.1)]) (fun s2=>[some ⟨A9 false x0,0⟩,some ⟨[.nils,.nils,.j 0,.nils,.j 0,.j 0,.j 0,.j 0],0⟩,some ⟨[.sl 3 0 v1.Sectors.length,.sl 4 0 v1.Cache.length,.j x0.Segs,.sl 5 0 s2.2.length,.j x0.NextGen,.j x0.NextSeq,.j x0.Stamp,.j x0.NextValid],0⟩,some ⟨fl (encS true) v1.Sectors,1⟩,some ⟨fl (A1 true) v1.Cache,2⟩,some ⟨fl (A6 true) s2.2,4⟩]) (Gh.y0 [0,1,2,3,4,5]) (fun s2 B o hS2 hB2 hE2=>?_)
  unfold R7 at hS2;refine RW.seq (RW.sr 4 rfl ?_)
  refine rl.gen rfl rfl fun b hb=>?_
  cases b
  ·have h4:=A3 hS2 hb;refine rl.done (RW.cond_f rfl (RW.exit (C7 ?_)));cases h4
   exact ⟨_,(hE2 _ rfl).symm,(Gh.y0 [1,2,3,4,5])⟩
  ·have h5:=A4 hS2 hb;refine rl.done (RW.cond_t rfl (RW.skip (RW.seq (RW.blk (RW.sr 3 rfl ?_)))));obtain ⟨v4,e4,h6⟩:=A2 h5;refine rl.op (B8 (enc:=A6) (o:=false) rfl rfl rfl e4) ?_;refine rl.op (F6 (off':=0) (vs:=(A6 false v4)) B3 rfl e4 rfl rfl rfl) ?_;refine rl.f 2 rfl (RW.sr 3 rfl ?_);obtain ⟨v5,e5,h7⟩:=A2 h6;refine rl.op (R5 rfl rfl (Gx (m:=v4.Items) (o:=true) B9 Bd rfl (M1.fst _ _) e5)) ?_;refine rl.f 2 rfl ?_;refine RW.kp [1,2,3,4,5] [(1,.ptr 0 0),(2,.ptr 1 0),(3,.ptr 2 0),(4,.j s2.1),(5,.ptr 6 0)] [some ⟨A9 false x0,0⟩,some ⟨[.nils,.nils,.j 0,.nils,.j 0,.j 0,.j 0,.j 0],0⟩,some ⟨[.sl 3 0 v1.Sectors.length,.sl 4 0 v1.Cache.length,.j x0.Segs,.sl 5 0 s2.2.length,.j x0.NextGen,.j x0.NextSeq,.j x0.Stamp,.j x0.NextValid],0⟩,some ⟨fl (encS true) v1.Sectors,1⟩,some ⟨fl (A1 true) v1.Cache,2⟩,some ⟨fl (A6 true) s2.2,4⟩,some ⟨[.j v4.No,.j v4.Gen,.j v4.End,.sl 7 0 v5.length],0⟩,some ⟨fl (A8 true) v5,9⟩] rfl rfl ?_;refine RW.reg (rl.run 4 rfl ?_);obtain ⟨v6,e6,h8⟩:=A2 h7;refine rl.op (R5 rfl rfl (Lj B3 rfl rfl (Ve rfl rfl rfl) e6)) ?_;refine rl.f 2 rfl ?_
   refine RW.gh (Gh.absorb_rawq (b:=9) (j:=3) (m:=7) rfl rfl rfl (by decide) (by decide) rfl (B9.flen true _) (B9.fown _)) ?_
   refine RW.gh (Gh.blk (b:=9) rfl (Qw (enc:=A6) e6 rfl)) ?_;refine RW.reg (rl.f 3 rfl ?_);cases h8
   exact hB2 _ rfl _ _ (Gh.y0 [0,1,2,3,4,9])
 ·intro y3 hC
  subst hC;refine RW.sf 2 rfl (RW.ret ?_);cases h3
  exact RRet.y
theorem Jj {x0:TLog} {x1:TItem} {r:Bool} (hF:T4 x0 x1=some r):B2 Tryz.prog 86 [.agg (A9 false x0),.agg (A8 false x1)] (.bool r):=by
 refine B2.q A06 ?_;unfold T4 at hF;refine RW.sf 3 rfl (RW.sr 1 rfl ?_);obtain ⟨v1,e1,h1⟩:=A2 hF;refine rl.call rfl rfl rfl (A7.y (r':=E6 v1) (Fc e1) ?_);refine rl.f 1 rfl (RW.seq (RW.sf 1 rfl ?_));obtain ⟨y7,ey7,h3⟩:=A2 h1
 refine RW.cutq (σ:=Unit) (fun y3=>[(5,E6 v1)]) (fun y3=>[]) (fun y=>y7=.inr y) gg ?_ ?_
 ·refine RW.blk ?_
  refine RW.iter (σ:=Int) ey7 (fun s2=>[(3,.ptr 0 0),(5,E6 v1),(6,.j s2)]) (fun s2=>[some ⟨A8 false x1,0⟩]) (Gh.y0 [1]) (fun s2 B o hS2 hB2 hE2=>?_)
  unfold X0 at hS2;refine RW.seq (RW.sr 3 rfl ?_)
  refine rl.gen rfl rfl fun b hb=>?_
  cases b
  ·have h4:=A3 hS2 hb;refine rl.done (RW.cond_f rfl (RW.exit (C7 ?_)));cases h4
   exact ⟨_,(hE2 _ rfl).symm,(Gh.y0 [])⟩
  ·have h5:=A4 hS2 hb;refine rl.done (RW.cond_t rfl (RW.skip (RW.seq (RW.blk (RW.seq ?_)))));obtain ⟨y4,ey4,h6⟩:=A2 h5
   refine RW.cutq (σ:=Bool) (fun y4=>[(3,.ptr 0 0),(5,E6 v1),(6,.j s2),(30,.bool y4)]) (fun y4=>[some ⟨A8 false x1,0⟩]) (fun y=>y4=y) gg ?_ ?_
   ·refine RW.drw ?_;refine A0.op rfl rfl (A0.op rfl rfl ?_);obtain ⟨v5,e5,h7⟩:=A2 ey4;refine A0.op rfl (B8 (enc:=A8) (o:=false) rfl rfl rfl e5) ?_;refine A0.op rfl rfl ?_;refine A0.op rfl (E2 (off':=0) B9 rfl e5 rfl rfl rfl) ?_;refine A0.op rfl rfl (A0.op rfl rfl ?_)
    refine A0.gen rfl rfl fun b hb=>?_
    cases b
    ·have h8:=A3 h7 hb;refine A0.op rfl rfl (A0.off rfl (A0.off rfl (A0.off rfl (A0.off rfl (A0.off rfl (A0.off rfl (A0.op rfl rfl (A0.done ?_))))))));cases h8
     exact ⟨_,rfl,(Gh.y0 [0])⟩
    ·have h9:=A4 h7 hb;refine A0.op rfl rfl (A0.op rfl rfl (A0.op rfl rfl ?_));obtain ⟨v6,e6,h10⟩:=A2 h9;refine A0.op rfl (B8 (enc:=A8) (o:=false) rfl rfl rfl e6) ?_;refine A0.op rfl (F6 (off':=0) (vs:=(A8 false v6)) B9 rfl e6 rfl rfl rfl) ?_;refine A0.op rfl rfl ?_
     refine A0.gen rfl rfl fun b hb=>?_
     cases b
     ·have h11:=A3 h10 hb;refine A0.op rfl rfl (A0.done ?_);cases h11
      exact ⟨_,rfl,(Gh.y0 [0])⟩
     ·have h12:=A4 h10 hb;refine A0.op rfl rfl (A0.done ?_);cases h12
      exact ⟨_,rfl,(Gh.y0 [0])⟩
   ·intro y hC
    subst hC
    cases hb:y4
    ·have h13:=A3 h6 hb;refine RW.cond_f rfl (RW.skip (RW.reg (rl.f 3 rfl ?_)));cases h13
     exact hB2 _ rfl _ _ (Gh.y0 [0])
    ·have h14:=A4 h6 hb;refine RW.cond_t rfl (RW.sf 1 rfl (RW.ret ?_));cases h14;have h15:=elimL h3 (hE2 _ rfl);cases h15
     exact RRet.y
 ·intro y3 hC
  have h3:=elimR h3 hC;refine RW.sf 4 rfl (RW.ret ?_);cases h3
  exact RRet.y
theorem T2 {x0:TDisk} {r:TDisk} (hF:G4 x0=some r):B2 Tryz.prog 111 [.agg (A5 false x0)] (.agg (A5 true r)):=by
 refine B2.q Th ?_;unfold G4 at hF;refine RW.sf 2 rfl (RW.sr 1 rfl ?_);obtain ⟨v1,e1,h1⟩:=A2 hF;refine rl.call rfl rfl rfl (A7.z (r':=.agg (C3 2 3 v1)) (H':=[some ⟨A5 false x0,0⟩,some ⟨[.nils,.nils],0⟩,some ⟨fl (encS true) v1.Sectors,1⟩,some ⟨fl (A1 true) v1.Cache,2⟩]) (H4 e1) ?_);refine rl.f 2 rfl (RW.seq (RW.sr 1 rfl ?_));obtain ⟨v2,e2,h2⟩:=A2 h1;refine rl.call rfl rfl rfl (A7.y (r':=.bool v2) (Av e2) ?_)
 cases hb:v2
 ·have h3:=A3 h2 hb;refine rl.f 1 rfl (RW.cond_t rfl (RW.sf 2 rfl (RW.ret ?_)));cases h3
  exact RRet.y
 ·have h4:=A4 h2 hb;refine rl.f 1 rfl (RW.cond_f rfl (RW.skip (RW.seq (RW.sf 1 rfl ?_))));obtain ⟨y9,ey9,h6⟩:=A2 h4
  refine RW.cutq (σ:=(List (List UInt8))) (fun y4=>[(2,.ptr 0 0),(3,.ptr 1 0)]) (fun y4=>[some ⟨[.nils,.nils],0⟩,some ⟨[.sl 2 0 y4.length,.sl 3 0 v1.Cache.length],0⟩,some ⟨fl (encS true) y4,1⟩,some ⟨fl (A1 true) v1.Cache,2⟩]) (fun y=>y9=y) gg ?_ ?_
  ·refine RW.blk ?_
   refine RW.iter (σ:=Int×(List (List UInt8))) ey9 (fun s3=>[(1,.ptr 0 0),(2,.ptr 1 0),(3,.ptr 2 0),(4,.j s3.1)]) (fun s3=>[some ⟨A5 false x0,0⟩,some ⟨[.nils,.nils],0⟩,some ⟨[.sl 3 0 s3.2.length,.sl 4 0 v1.Cache.length],0⟩,some ⟨fl (encS true) s3.2,1⟩,some ⟨fl (A1 true) v1.Cache,2⟩]) (Gh.y0 [0,1,4,2,3]) (fun s3 B o hS5 hB5 hE5=>?_)
   unfold Ao at hS5;refine RW.seq (RW.sr 4 rfl ?_)
   refine rl.gen rfl rfl fun b hb=>?_
   cases b
   ·have h7:=A3 hS5 hb;refine rl.done (RW.cond_f rfl (RW.exit (C7 ?_)));cases h7
    exact ⟨_,(hE5 _ rfl).symm,(Gh.y0 [1,2,3,4])⟩
   ·have h8:=A4 hS5 hb;refine rl.done (RW.cond_t rfl (RW.skip (RW.seq (RW.blk (RW.drw (A0.op rfl rfl (A0.op rfl rfl (A0.op rfl rfl (A0.op rfl rfl (A0.op rfl rfl ?_))))))))));obtain ⟨v5,e5,h9⟩:=A2 h8;refine A0.op rfl (B8 (enc:=A1) (o:=false) rfl rfl rfl e5) ?_;refine A0.op rfl rfl ?_;refine A0.op rfl (E2 (off':=0) B4 rfl e5 rfl rfl rfl) ?_;refine A0.op rfl rfl (A0.op rfl rfl (A0.op rfl rfl ?_));obtain ⟨v6,e6,h10⟩:=A2 h9;refine A0.op rfl (B8 (enc:=A1) (o:=false) rfl rfl rfl e6) ?_;refine A0.op rfl rfl ?_;refine A0.op rfl (E2 (off':=1) B4 rfl e6 rfl rfl rfl) ?_;obtain ⟨v7,e7,h11⟩:=A2 h10;refine A0.op rfl (Bl rfl rfl rfl rfl e7) ?_;obtain ⟨v8,e8,h12⟩:=A2 h11;refine A0.chn rfl (Yr (off':=0) (o:=true) (e':=v6.Text) ekS e7 rfl rfl rfl rfl rfl rfl rfl rfl rfl e8) ?_;refine A0.done (RW.reg (rl.f 3 rfl ?_));cases h12
    exact hB5 _ rfl _ _ (Gh.ren0 [0,1,2,3,4] (.c rfl rfl (.keep (ekS.rlst) (.keep (B4.rlst) .nil)) (.c rfl rfl (.keep .nils (.keep .nils .nil)) (.c rfl rfl (.slq rfl (Z6 e8) (.slq rfl rfl .nil)) (.same rfl (ekS.fref _ _) (.same rfl (B4.fref _ _) .nil))))) rfl (.p rfl rfl (.p rfl rfl (.p rfl rfl (.i rfl .nil)))))
  ·intro y4 hC
   subst hC;refine RW.sf 3 rfl (RW.sf 2 rfl (RW.ret ?_));cases h6
   exact RRet.y
theorem Pe {x0:TItem} {x1:Int} {r:TFrame×Bool} (hF:Z4 x0 x1=some r):B2 Tryz.prog 145 [.agg (A8 false x0),.j x1] (.tup [.agg (B5 true r.1),.bool r.2]):=by
 refine B2.q Rv ?_;unfold Z4 at hF;refine RW.sf 3 rfl (RW.sr 2 rfl ?_);obtain ⟨v1,e1,h1⟩:=A2 hF;refine rl.call rfl rfl rfl (A7.y (r':=.tup [.str v1.1,.bool v1.2]) (Jd e1) ?_);refine rl.f 5 rfl (RW.sf 7 rfl ?_);refine RW.kp [4,7,8] [(4,.ptr 1 0),(7,.bool v1.2),(8,.ptr 2 0)] [some ⟨A8 false x0,0⟩,some ⟨[.j 0,.j 0,.str []],0⟩,some ⟨[.j x1,.j x0.Seq,.str v1.1],0⟩] rfl rfl ?_;refine RW.seq (RW.seq ?_);obtain ⟨y2,ey2,h2⟩:=A2 h1
 refine RW.cutq (σ:=Bool) (fun y2=>[(4,.ptr 0 0),(8,.ptr 1 0),(26,.bool y2)]) (fun y2=>[some ⟨[.j 0,.j 0,.str []],0⟩,some ⟨[.j x1,.j x0.Seq,.str v1.1],0⟩]) (fun y=>y2=y) gg ?_ ?_
 ·refine RW.reg ?_;refine rl.run 3 rfl ?_
  cases hb:(!v1.2)
  ·have h3:=A3 ey2 hb;refine rl.run 1 rfl ?_;obtain ⟨v3,e3,h4⟩:=A2 h3;refine rl.call rfl rfl rfl (A7.y (r':=.bool v3) (Fi e3) ?_)
   cases hb:v3
   ·have h5:=A3 h4 hb;refine rl.f 2 rfl ?_;cases h5
    exact ⟨_,rfl,(Gh.y0 [1,2])⟩
   ·have h6:=A4 h4 hb;refine rl.f 2 rfl ?_;cases h6
    exact ⟨_,rfl,(Gh.y0 [1,2])⟩
  ·have h7:=A4 ey2 hb;refine rl.f 4 rfl ?_;cases h7
   exact ⟨_,rfl,(Gh.y0 [1,2])⟩
 ·intro y hC
  subst hC
  cases hb:y2
  ·have h8:=A3 h2 hb;refine RW.cond_f rfl (RW.skip (RW.sf 3 rfl (RW.ret ?_)));cases h8
   exact RRet.y
  ·have h9:=A4 h2 hb;refine RW.cond_t rfl (RW.sf 3 rfl (RW.ret ?_));cases h9
   exact RRet.y
end Go.Proofs.YtldndhdohlfpgaaGreat.V
