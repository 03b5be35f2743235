/- What a call comes to. -/
import Derived.Test.YtldndhdohlfpgaaGreatXD1
namespace Go.Proofs.YtldndhdohlfpgaaGreat.V
open Go Go.Proofs Go.RowKit
set_option maxRecDepth 100000
set_option maxHeartbeats 4000000
theorem Fw {x0:TDisk} {x1:Int} {x2:List UInt8} {r:TDisk×Bool} (hF:K2 x0 x1 x2=some r):B2 Tryz.prog 141 [.agg (A5 false x0),.j x1,.str x2] (.tup [.agg (A5 true r.1),.bool r.2]):=by
 refine B2.q Mv ?_;unfold K2 at hF;refine RW.sf 3 rfl (RW.sr 1 rfl ?_);obtain ⟨v1,e1,h1⟩:=A2 hF;refine rl.call rfl rfl rfl (A7.z (r':=.agg (C3 2 3 v1)) (H':=[some ⟨A5 false x0,0⟩,some ⟨[.nils,.nils],0⟩,some ⟨fl (encS true) v1.Sectors,1⟩,some ⟨fl (A1 true) v1.Cache,2⟩]) (H4 e1) ?_);refine rl.f 2 rfl (RW.seq (RW.seq ?_));obtain ⟨y2,ey2,h2⟩:=A2 h1
 refine RW.cutq (σ:=Bool) (fun y2=>[(1,.j x1),(2,.str x2),(6,.ptr 0 0),(8,.ptr 1 0),(33,.bool y2)]) (fun y2=>[some ⟨[.nils,.nils],0⟩,some ⟨C3 2 3 v1,0⟩,some ⟨fl (encS true) v1.Sectors,1⟩,some ⟨fl (A1 true) v1.Cache,2⟩]) (fun y=>y2=y) gg ?_ ?_
 ·refine RW.reg ?_;refine rl.run 1 rfl ?_;obtain ⟨v3,e3,h3⟩:=A2 ey2;refine rl.call rfl rfl rfl (A7.y (r':=.bool v3) (Av e3) ?_)
  cases hb:v3
  ·have h4:=A3 h3 hb;refine rl.f 21 rfl ?_;cases h4
   exact ⟨_,rfl,(Gh.y0 [1,4,2,3])⟩
  ·have h5:=A4 h3 hb;refine rl.run 7 rfl ?_;obtain ⟨v4,e4,h6⟩:=A2 h5;refine rl.call rfl rfl rfl (A7.y (r':=.bool v4) (B6 e4) ?_)
   cases hb:v4
   ·have h7:=A3 h6 hb;refine rl.f 13 rfl ?_;cases h7
    exact ⟨_,rfl,(Gh.y0 [1,4,2,3])⟩
   ·have h8:=A4 h6 hb;refine rl.run 5 rfl ?_
    refine rl.gen rfl rfl fun b hb=>?_
    cases b
    ·have h9:=A3 h8 hb;refine rl.run 5 rfl ?_
     refine rl.gen rfl rfl fun b hb=>?_
     cases b
     ·have h10:=A3 h9 hb;refine rl.f 1 rfl ?_;cases h10
      exact ⟨_,rfl,(Gh.y0 [1,4,2,3])⟩
     ·have h11:=A4 h9 hb;refine rl.f 1 rfl ?_;cases h11
      exact ⟨_,rfl,(Gh.y0 [1,4,2,3])⟩
    ·have h12:=A4 h8 hb;refine rl.f 7 rfl ?_;cases h12
     exact ⟨_,rfl,(Gh.y0 [1,4,2,3])⟩
 ·intro y hC
  subst hC
  cases hb:y2
  ·have h13:=A3 h2 hb;refine RW.cond_f rfl (RW.skip (RW.sr 6 rfl ?_));obtain ⟨v5,e5,h14⟩:=A2 h13;refine rl.op (R5 rfl rfl (Q0 (l:=v1.Cache) (m:=[({ At:=x1,Text:=x2 }:TWrite)]) (o:=true) B4 rfl rfl (L2 (m:=[({ At:=x1,Text:=x2 }:TWrite)]) (o:=true) Fj rfl rfl) rfl (Fj.fst _ _) e5)) ?_;refine rl.f 2 rfl ?_;refine RW.kp [6,8] [(6,.ptr 0 0),(8,.ptr 1 0)] [some ⟨[.nils,.nils],0⟩,some ⟨[.sl 2 0 v1.Sectors.length,.sl 5 0 v5.length],0⟩,some ⟨fl (encS true) v1.Sectors,1⟩,none,some ⟨fl (A1 true) [({ At:=x1,Text:=x2 }:TWrite)],2⟩,some ⟨fl (A1 true) v5,2⟩] rfl rfl ?_;refine RW.sf 3 rfl (RW.ret ?_);cases h14
   exact RRet.y
  ·have h15:=A4 h2 hb;refine RW.cond_t rfl (RW.sf 3 rfl (RW.ret ?_));cases h15
   exact RRet.y
theorem Gf {x0:TDisk} {x1:Int} {x2:Int} {x3:List UInt8} {r:TDisk×Bool} (hF:H8 x0 x1 x2 x3=some r):B2 Tryz.prog 110 [.agg (A5 false x0),.j x1,.j x2,.str x3] (.tup [.agg (A5 true r.1),.bool r.2]):=by
 refine B2.q Rr ?_;unfold H8 at hF;refine RW.sf 3 rfl (RW.sr 1 rfl ?_);obtain ⟨v1,e1,h1⟩:=A2 hF;refine rl.call rfl rfl rfl (A7.z (r':=.agg (C3 2 3 v1)) (H':=[some ⟨A5 false x0,0⟩,some ⟨[.nils,.nils],0⟩,some ⟨fl (encS true) v1.Sectors,1⟩,some ⟨fl (A1 true) v1.Cache,2⟩]) (H4 e1) ?_);refine rl.f 2 rfl (RW.seq (RW.seq ?_));obtain ⟨y2,ey2,h2⟩:=A2 h1
 refine RW.cutq (σ:=Bool) (fun y2=>[(1,.j x1),(2,.j x2),(3,.str x3),(4,.ptr 0 0),(8,.ptr 1 0),(10,.ptr 2 0),(37,.bool y2)]) (fun y2=>[some ⟨A5 false x0,0⟩,some ⟨[.nils,.nils],0⟩,some ⟨C3 3 4 v1,0⟩,some ⟨fl (encS true) v1.Sectors,1⟩,some ⟨fl (A1 true) v1.Cache,2⟩]) (fun y=>y2=y) gg ?_ ?_
 ·refine RW.reg ?_;refine rl.run 1 rfl ?_;obtain ⟨v3,e3,h3⟩:=A2 ey2;refine rl.call rfl rfl rfl (A7.y (r':=.bool v3) (B6 e3) ?_)
  cases hb:v3
  ·have h4:=A3 h3 hb;refine rl.f 15 rfl ?_;cases h4
   exact ⟨_,rfl,(Gh.y0 [0,1,4,2,3])⟩
  ·have h5:=A4 h3 hb;refine rl.run 7 rfl ?_;obtain ⟨v4,e4,h6⟩:=A2 h5;refine rl.call rfl rfl rfl (A7.y (r':=.bool v4) (B6 e4) ?_)
   cases hb:v4
   ·have h7:=A3 h6 hb;refine rl.f 7 rfl ?_;cases h7
    exact ⟨_,rfl,(Gh.y0 [0,1,4,2,3])⟩
   ·have h8:=A4 h6 hb;refine rl.run 4 rfl ?_;obtain ⟨v5,e5,h9⟩:=A2 h8;refine rl.call rfl rfl rfl (A7.y (r':=.bool v5) (Av e5) ?_)
    cases hb:v5
    ·have h10:=A3 h9 hb;refine rl.f 2 rfl ?_;cases h10
     exact ⟨_,rfl,(Gh.y0 [0,1,4,2,3])⟩
    ·have h11:=A4 h9 hb;refine rl.f 2 rfl ?_;cases h11
     exact ⟨_,rfl,(Gh.y0 [0,1,4,2,3])⟩
 ·intro y hC
  subst hC
  cases hb:y2
  ·have h12:=A3 h2 hb;refine RW.cond_f rfl (RW.skip (RW.seq (RW.sf 1 rfl ?_)));obtain ⟨y28,ey28,h14⟩:=A2 h12
   refine RW.cutq (σ:=(List (List UInt8))×(List TWrite)) (fun y7=>[(8,.ptr 0 0),(10,.ptr 1 0)]) (fun y7=>[some ⟨[.nils,.nils],0⟩,some ⟨[.sl 2 0 y7.1.length,.sl 3 0 y7.2.length],0⟩,some ⟨fl (encS true) y7.1,1⟩,some ⟨fl (A1 true) y7.2,2⟩]) (fun y=>y28=.inr y) gg ?_ ?_
   ·refine RW.blk ?_
    refine RW.iter (σ:=Int×(List (List UInt8))×(List TWrite)) ey28 (fun s6=>[(1,.j x1),(2,.j x2),(3,.str x3),(4,.ptr 0 0),(8,.ptr 1 0),(10,.ptr 2 0),(11,.j s6.1)]) (fun s6=>[some ⟨A5 false x0,0⟩,some ⟨[.nils,.nils],0⟩,some ⟨[.sl 3 0 s6.2.1.length,.sl 4 0 s6.2.2.length],0⟩,some ⟨fl (encS true) s6.2.1,1⟩,some ⟨fl (A1 true) s6.2.2,2⟩]) (Gh.y0 [0,1,2,3,4]) (fun s6 B o hS13 hB13 hE13=>?_)
    unfold D4 at hS13;refine RW.seq (RW.sr 3 rfl ?_)
    refine rl.gen rfl rfl fun b hb=>?_
    cases b
    ·have h15:=A3 hS13 hb;refine rl.done (RW.cond_f rfl (RW.exit (C7 ?_)));cases h15
     exact ⟨_,(hE13 _ rfl).symm,(Gh.y0 [1,2,3,4])⟩
    ·have h16:=A4 hS13 hb;refine rl.done (RW.cond_t rfl (RW.skip (RW.blk (RW.sf 7 rfl (RW.sf 5 rfl ?_)))));refine RW.kp [1,2,3,4,8,10,11,12,13] [(1,.j x1),(2,.j x2),(3,.str x3),(4,.ptr 0 0),(8,.ptr 1 0),(10,.ptr 2 0),(11,.j s6.1),(12,.j (w64 (x1+(w64 (Int.tdiv (w64 (x2+s6.1)) 32))))),(13,.j (Int.tmod (w64 (x2+s6.1)) 32))] [some ⟨A5 false x0,0⟩,some ⟨[.nils,.nils],0⟩,some ⟨[.sl 3 0 s6.2.1.length,.sl 4 0 s6.2.2.length],0⟩,some ⟨fl (encS true) s6.2.1,1⟩,some ⟨fl (A1 true) s6.2.2,2⟩] rfl rfl ?_;refine RW.sf 3 rfl (RW.seq (RW.sr 5 rfl ?_))
     refine rl.gen rfl rfl fun b hb=>?_
     cases b
     ·have h17:=A3 h16 hb;refine rl.done (RW.cond_f rfl (RW.skip (RW.sr 2 rfl ?_)));obtain ⟨v8,e8,h18⟩:=A2 h17;refine rl.call rfl rfl rfl (A7.y (r':=.tup [.str v8.1,.bool v8.2]) (Dc e8) ?_);refine rl.f 5 rfl ?_;refine RW.kp [1,2,3,4,8,10,11,12,13,14,15,16] [(1,.j x1),(2,.j x2),(3,.str x3),(4,.ptr 0 0),(8,.ptr 1 0),(10,.ptr 2 0),(11,.j s6.1),(12,.j (w64 (x1+(w64 (Int.tdiv (w64 (x2+s6.1)) 32))))),(13,.j (Int.tmod (w64 (x2+s6.1)) 32)),(14,.j (w64 (32 - (Int.tmod (w64 (x2+s6.1)) 32)))),(15,.str v8.1),(16,.bool v8.2)] [some ⟨A5 false x0,0⟩,some ⟨[.nils,.nils],0⟩,some ⟨[.sl 3 0 s6.2.1.length,.sl 4 0 s6.2.2.length],0⟩,some ⟨fl (encS true) s6.2.1,1⟩,some ⟨fl (A1 true) s6.2.2,2⟩] rfl rfl ?_;refine RW.seq (RW.seq ?_);obtain ⟨y9,ey9,h19⟩:=A2 h18
      refine RW.cutq (σ:=Bool) (fun y9=>[(1,.j x1),(2,.j x2),(3,.str x3),(4,.ptr 0 0),(8,.ptr 1 0),(10,.ptr 2 0),(11,.j s6.1),(12,.j (w64 (x1+(w64 (Int.tdiv (w64 (x2+s6.1)) 32))))),(13,.j (Int.tmod (w64 (x2+s6.1)) 32)),(14,.j (w64 (32 - (Int.tmod (w64 (x2+s6.1)) 32)))),(15,.str v8.1),(77,.bool y9)]) (fun y9=>[some ⟨A5 false x0,0⟩,some ⟨[.nils,.nils],0⟩,some ⟨[.sl 3 0 s6.2.1.length,.sl 4 0 s6.2.2.length],0⟩,some ⟨fl (encS true) s6.2.1,1⟩,some ⟨fl (A1 true) s6.2.2,2⟩]) (fun y=>y9=y) gg ?_ ?_
      ·refine RW.reg ?_;refine rl.run 3 rfl ?_
       cases hb:(!v8.2)
       ·have h20:=A3 ey9 hb;refine rl.run 2 rfl ?_
        refine rl.gen rfl rfl fun b hb=>?_
        cases b
        ·have h21:=A3 h20 hb;refine rl.f 1 rfl ?_;cases h21
         exact ⟨_,rfl,(Gh.y0 [0,1,2,3,4])⟩
        ·have h22:=A4 h20 hb;refine rl.f 1 rfl ?_;cases h22
         exact ⟨_,rfl,(Gh.y0 [0,1,2,3,4])⟩
       ·have h23:=A4 ey9 hb;refine rl.f 4 rfl ?_;cases h23
        exact ⟨_,rfl,(Gh.y0 [0,1,2,3,4])⟩
      ·intro y hC
       subst hC
       cases hb:y9
       ·have h24:=A3 h19 hb;refine RW.cond_f rfl (RW.skip ?_);refine RW.sdrwF [⟨[.nils,.nils],0⟩] ?_;refine A0.op rfl rfl (A0.op rfl rfl (A0.op rfl rfl (A0.op rfl rfl ?_)));obtain ⟨v10,e10,h25⟩:=A2 h24;refine A0.op rfl (He rfl rfl rfl Jt e10) ?_;refine A0.op rfl rfl (A0.op rfl rfl (A0.op rfl rfl (A0.op rfl rfl (A0.op rfl rfl ?_))));obtain ⟨v11,e11,h26⟩:=A2 h25;refine A0.op rfl (He rfl rfl rfl Fb e11) ?_;obtain ⟨v12,e12,h27⟩:=A2 h26;refine A0.op rfl (Q8 rfl rfl e12) ?_;refine A0.op rfl rfl (A0.op rfl rfl (A0.op rfl rfl (A0.op rfl rfl ?_)));obtain ⟨v13,e13,h28⟩:=A2 h27;refine A0.op rfl (He rfl rfl rfl Ly e13) ?_;obtain ⟨v14,e14,h29⟩:=A2 h28;refine A0.op rfl (Q8 rfl rfl e14) ?_;obtain ⟨v15,e15,h30⟩:=A2 h29;refine A0.ccall rfl rfl rfl (A7.z (r':=.tup [.agg (C3 6 7 v15.1),.bool v15.2]) (H':=[some ⟨A5 false x0,0⟩,some ⟨[.nils,.nils],0⟩,some ⟨[.sl 3 0 s6.2.1.length,.sl 4 0 s6.2.2.length],0⟩,some ⟨fl (encS true) s6.2.1,1⟩,some ⟨fl (A1 true) s6.2.2,2⟩,some ⟨[.nils,.nils],0⟩,some ⟨fl (encS true) v15.1.Sectors,1⟩,some ⟨fl (A1 true) v15.1.Cache,2⟩]) (Fw e15) ?_);refine A0.op rfl rfl (A0.op rfl rfl (A0.op rfl rfl ?_));refine A0.flt rfl (.cons rfl .nil) ?_;refine A0.chnB rfl rfl (.here (.rx rfl) (.skip rfl (.skip rfl (.skip rfl (.skip rfl (.skip rfl (.skip rfl (.skip rfl (.skip rfl (.skip rfl (.skip rfl (.skip rfl (.skip rfl (.skip rfl (.skip rfl (.skip rfl (.skip rfl (.skip rfl (.skip rfl (.skip rfl (.skip rfl .nil))))))))))))))))))))) ?_;refine A0.op rfl rfl (A0.done ?_);refine RW.kp [1,2,3,4,8,10,11,14,17,18] [(1,.j x1),(2,.j x2),(3,.str x3),(4,.ptr 0 0),(8,.ptr 1 0),(10,.ptr 2 0),(11,.j s6.1),(14,.j (w64 (32 - (Int.tmod (w64 (x2+s6.1)) 32)))),(17,.ptr 5 0),(18,.bool v15.2)] [some ⟨A5 false x0,0⟩,some ⟨[.nils,.nils],0⟩,some ⟨[.sl 3 0 s6.2.1.length,.sl 4 0 s6.2.2.length],0⟩,some ⟨fl (encS true) s6.2.1,1⟩,some ⟨fl (A1 true) s6.2.2,2⟩,some ⟨C3 6 7 v15.1,0⟩,some ⟨fl (encS true) v15.1.Sectors,1⟩,some ⟨fl (A1 true) v15.1.Cache,2⟩] rfl rfl ?_;refine RW.seq (RW.sf 2 rfl ?_)
        cases hb:(!v15.2)
        ·have h31:=A3 h30 hb;refine RW.cond_f rfl (RW.skip (RW.sf 2 rfl (RW.reg (rl.f 4 rfl ?_))));cases h31
         exact hB13 _ rfl _ _ (Gh.y0 [0,1,2,6,7])
        ·have h32:=A4 h30 hb;refine RW.cond_t rfl (RW.sr 1 rfl ?_);obtain ⟨v16,e16,h33⟩:=A2 h32;refine rl.call rfl rfl rfl (A7.z (r':=.agg (C3 8 9 v16)) (H':=[some ⟨A5 false x0,0⟩,some ⟨[.nils,.nils],0⟩,some ⟨[.sl 3 0 s6.2.1.length,.sl 4 0 s6.2.2.length],0⟩,some ⟨fl (encS true) s6.2.1,1⟩,some ⟨fl (A1 true) s6.2.2,2⟩,some ⟨C3 6 7 v15.1,0⟩,some ⟨fl (encS true) v15.1.Sectors,1⟩,some ⟨fl (A1 true) v15.1.Cache,2⟩,some ⟨fl (encS true) v16.Sectors,1⟩,some ⟨fl (A1 true) v16.Cache,2⟩]) (H4 e16) ?_);refine rl.f 2 rfl ?_;refine RW.kp [8,9] [(8,.ptr 1 0),(9,.bool false)] [some ⟨A5 false x0,0⟩,some ⟨C3 8 9 v16,0⟩,some ⟨[.sl 3 0 s6.2.1.length,.sl 4 0 s6.2.2.length],0⟩,some ⟨fl (encS true) s6.2.1,1⟩,some ⟨fl (A1 true) s6.2.2,2⟩,some ⟨C3 6 7 v15.1,0⟩,some ⟨fl (encS true) v15.1.Sectors,1⟩,some ⟨fl (A1 true) v15.1.Cache,2⟩,some ⟨fl (encS true) v16.Sectors,1⟩,some ⟨fl (A1 true) v16.Cache,2⟩] rfl rfl ?_;refine RW.ret ?_;cases h33;have h34:=elimL h14 (hE13 _ rfl);cases h34
         exact RRet.y
       ·have h35:=A4 h19 hb;refine RW.cond_t rfl (RW.sr 1 rfl ?_);obtain ⟨v17,e17,h36⟩:=A2 h35;refine rl.call rfl rfl rfl (A7.z (r':=.agg (C3 5 6 v17)) (H':=[some ⟨A5 false x0,0⟩,some ⟨[.nils,.nils],0⟩,some ⟨[.sl 3 0 s6.2.1.length,.sl 4 0 s6.2.2.length],0⟩,some ⟨fl (encS true) s6.2.1,1⟩,some ⟨fl (A1 true) s6.2.2,2⟩,some ⟨fl (encS true) v17.Sectors,1⟩,some ⟨fl (A1 true) v17.Cache,2⟩]) (H4 e17) ?_);refine rl.f 2 rfl ?_;refine RW.kp [8,9] [(8,.ptr 1 0),(9,.bool false)] [some ⟨A5 false x0,0⟩,some ⟨C3 5 6 v17,0⟩,some ⟨[.sl 3 0 s6.2.1.length,.sl 4 0 s6.2.2.length],0⟩,some ⟨fl (encS true) s6.2.1,1⟩,some ⟨fl (A1 true) s6.2.2,2⟩,some ⟨fl (encS true) v17.Sectors,1⟩,some ⟨fl (A1 true) v17.Cache,2⟩] rfl rfl ?_;refine RW.ret ?_;cases h36;have h37:=elimL h14 (hE13 _ rfl);cases h37
        exact RRet.y
     ·have h38:=A4 h16 hb;refine rl.done (RW.cond_t rfl (RW.reg (rl.f 5 rfl (RW.sr 2 rfl ?_))));obtain ⟨v18,e18,h39⟩:=A2 h38;refine rl.call rfl rfl rfl (A7.y (r':=.tup [.str v18.1,.bool v18.2]) (Dc e18) ?_);refine rl.f 5 rfl ?_;refine RW.kp [1,2,3,4,8,10,11,12,13,14,15,16] [(1,.j x1),(2,.j x2),(3,.str x3),(4,.ptr 0 0),(8,.ptr 1 0),(10,.ptr 2 0),(11,.j s6.1),(12,.j (w64 (x1+(w64 (Int.tdiv (w64 (x2+s6.1)) 32))))),(13,.j (Int.tmod (w64 (x2+s6.1)) 32)),(14,.j (w64 ((x3.length:Int) - s6.1))),(15,.str v18.1),(16,.bool v18.2)] [some ⟨A5 false x0,0⟩,some ⟨[.nils,.nils],0⟩,some ⟨[.sl 3 0 s6.2.1.length,.sl 4 0 s6.2.2.length],0⟩,some ⟨fl (encS true) s6.2.1,1⟩,some ⟨fl (A1 true) s6.2.2,2⟩] rfl rfl ?_;refine RW.seq (RW.seq ?_);obtain ⟨y19,ey19,h40⟩:=A2 h39
      refine RW.cutq (σ:=Bool) (fun y19=>[(1,.j x1),(2,.j x2),(3,.str x3),(4,.ptr 0 0),(8,.ptr 1 0),(10,.ptr 2 0),(11,.j s6.1),(12,.j (w64 (x1+(w64 (Int.tdiv (w64 (x2+s6.1)) 32))))),(13,.j (Int.tmod (w64 (x2+s6.1)) 32)),(14,.j (w64 ((x3.length:Int) - s6.1))),(15,.str v18.1),(77,.bool y19)]) (fun y19=>[some ⟨A5 false x0,0⟩,some ⟨[.nils,.nils],0⟩,some ⟨[.sl 3 0 s6.2.1.length,.sl 4 0 s6.2.2.length],0⟩,some ⟨fl (encS true) s6.2.1,1⟩,some ⟨fl (A1 true) s6.2.2,2⟩]) (fun y=>y19=y) gg ?_ ?_
      ·refine RW.reg ?_;refine rl.run 3 rfl ?_
       cases hb:(!v18.2)
       ·have h41:=A3 ey19 hb;refine rl.run 2 rfl ?_
        refine rl.gen rfl rfl fun b hb=>?_
        cases b
        ·have h42:=A3 h41 hb;refine rl.f 1 rfl ?_;cases h42
         exact ⟨_,rfl,(Gh.y0 [0,1,2,3,4])⟩
        ·have h43:=A4 h41 hb;refine rl.f 1 rfl ?_;cases h43
         exact ⟨_,rfl,(Gh.y0 [0,1,2,3,4])⟩
       ·have h44:=A4 ey19 hb;refine rl.f 4 rfl ?_;cases h44
        exact ⟨_,rfl,(Gh.y0 [0,1,2,3,4])⟩
      ·intro y hC
       subst hC
       cases hb:y19
       ·have h45:=A3 h40 hb;refine RW.cond_f rfl (RW.skip ?_);refine RW.sdrwF [⟨[.nils,.nils],0⟩] ?_;refine A0.op rfl rfl (A0.op rfl rfl (A0.op rfl rfl (A0.op rfl rfl ?_)));obtain ⟨v20,e20,h46⟩:=A2 h45;refine A0.op rfl (He rfl rfl rfl Jt e20) ?_;refine A0.op rfl rfl (A0.op rfl rfl (A0.op rfl rfl (A0.op rfl rfl (A0.op rfl rfl ?_))));obtain ⟨v21,e21,h47⟩:=A2 h46;refine A0.op rfl (He rfl rfl rfl Fb e21) ?_;obtain ⟨v22,e22,h48⟩:=A2 h47;refine A0.op rfl (Q8 rfl rfl e22) ?_;refine A0.op rfl rfl (A0.op rfl rfl (A0.op rfl rfl (A0.op rfl rfl ?_)));obtain ⟨v23,e23,h49⟩:=A2 h48;refine A0.op rfl (He rfl rfl rfl Ly e23) ?_;obtain ⟨v24,e24,h50⟩:=A2 h49;refine A0.op rfl (Q8 rfl rfl e24) ?_;obtain ⟨v25,e25,h51⟩:=A2 h50;refine A0.ccall rfl rfl rfl (A7.z (r':=.tup [.agg (C3 6 7 v25.1),.bool v25.2]) (H':=[some ⟨A5 false x0,0⟩,some ⟨[.nils,.nils],0⟩,some ⟨[.sl 3 0 s6.2.1.length,.sl 4 0 s6.2.2.length],0⟩,some ⟨fl (encS true) s6.2.1,1⟩,some ⟨fl (A1 true) s6.2.2,2⟩,some ⟨[.nils,.nils],0⟩,some ⟨fl (encS true) v25.1.Sectors,1⟩,some ⟨fl (A1 true) v25.1.Cache,2⟩]) (Fw e25) ?_);refine A0.op rfl rfl (A0.op rfl rfl (A0.op rfl rfl ?_));refine A0.flt rfl (.cons rfl .nil) ?_;refine A0.chnB rfl rfl (.here (.rx rfl) (.skip rfl (.skip rfl (.skip rfl (.skip rfl (.skip rfl (.skip rfl (.skip rfl (.skip rfl (.skip rfl (.skip rfl (.skip rfl (.skip rfl (.skip rfl (.skip rfl (.skip rfl (.skip rfl (.skip rfl (.skip rfl (.skip rfl (.skip rfl .nil))))))))))))))))))))) ?_;refine A0.op rfl rfl (A0.done ?_);refine RW.kp [1,2,3,4,8,10,11,14,17,18] [(1,.j x1),(2,.j x2),(3,.str x3),(4,.ptr 0 0),(8,.ptr 1 0),(10,.ptr 2 0),(11,.j s6.1),(14,.j (w64 ((x3.length:Int) - s6.1))),(17,.ptr 5 0),(18,.bool v25.2)] [some ⟨A5 false x0,0⟩,some ⟨[.nils,.nils],0⟩,some ⟨[.sl 3 0 s6.2.1.length,.sl 4 0 s6.2.2.length],0⟩,some ⟨fl (encS true) s6.2.1,1⟩,some ⟨fl (A1 true) s6.2.2,2⟩,some ⟨C3 6 7 v25.1,0⟩,some ⟨fl (encS true) v25.1.Sectors,1⟩,some ⟨fl (A1 true) v25.1.Cache,2⟩] rfl rfl ?_;refine RW.seq (RW.sf 2 rfl ?_)
        cases hb:(!v25.2)
        ·have h52:=A3 h51 hb;refine RW.cond_f rfl (RW.skip (RW.sf 2 rfl (RW.reg (rl.f 4 rfl ?_))));cases h52
         exact hB13 _ rfl _ _ (Gh.y0 [0,1,2,6,7])
        ·have h53:=A4 h51 hb;refine RW.cond_t rfl (RW.sr 1 rfl ?_);obtain ⟨v26,e26,h54⟩:=A2 h53;refine rl.call rfl rfl rfl (A7.z (r':=.agg (C3 8 9 v26)) (H':=[some ⟨A5 false x0,0⟩,some ⟨[.nils,.nils],0⟩,some ⟨[.sl 3 0 s6.2.1.length,.sl 4 0 s6.2.2.length],0⟩,some ⟨fl (encS true) s6.2.1,1⟩,some ⟨fl (A1 true) s6.2.2,2⟩,some ⟨C3 6 7 v25.1,0⟩,some ⟨fl (encS true) v25.1.Sectors,1⟩,some ⟨fl (A1 true) v25.1.Cache,2⟩,some ⟨fl (encS true) v26.Sectors,1⟩,some ⟨fl (A1 true) v26.Cache,2⟩]) (H4 e26) ?_);refine rl.f 2 rfl ?_;refine RW.kp [8,9] [(8,.ptr 1 0),(9,.bool false)] [some ⟨A5 false x0,0⟩,some ⟨C3 8 9 v26,0⟩,some ⟨[.sl 3 0 s6.2.1.length,.sl 4 0 s6.2.2.length],0⟩,some ⟨fl (encS true) s6.2.1,1⟩,some ⟨fl (A1 true) s6.2.2,2⟩,some ⟨C3 6 7 v25.1,0⟩,some ⟨fl (encS true) v25.1.Sectors,1⟩,some ⟨fl (A1 true) v25.1.Cache,2⟩,some ⟨fl (encS true) v26.Sectors,1⟩,some ⟨fl (A1 true) v26.Cache,2⟩] rfl rfl ?_;refine RW.ret ?_;cases h54;have h55:=elimL h14 (hE13 _ rfl);cases h55
         exact RRet.y
       ·have h56:=A4 h40 hb;refine RW.cond_t rfl (RW.sr 1 rfl ?_);obtain ⟨v27,e27,h57⟩:=A2 h56;refine rl.call rfl rfl rfl (A7.z (r':=.agg (C3 5 6 v27)) (H':=[some ⟨A5 false x0,0⟩,some ⟨[.nils,.nils],0⟩,some ⟨[.sl 3 0 s6.2.1.length,.sl 4 0 s6.2.2.length],0⟩,some ⟨fl (encS true) s6.2.1,1⟩,some ⟨fl (A1 true) s6.2.2,2⟩,some ⟨fl (encS true) v27.Sectors,1⟩,some ⟨fl (A1 true) v27.Cache,2⟩]) (H4 e27) ?_);refine rl.f 2 rfl ?_;refine RW.kp [8,9] [(8,.ptr 1 0),(9,.bool false)] [some ⟨A5 false x0,0⟩,some ⟨C3 5 6 v27,0⟩,some ⟨[.sl 3 0 s6.2.1.length,.sl 4 0 s6.2.2.length],0⟩,some ⟨fl (encS true) s6.2.1,1⟩,some ⟨fl (A1 true) s6.2.2,2⟩,some ⟨fl (encS true) v27.Sectors,1⟩,some ⟨fl (A1 true) v27.Cache,2⟩] rfl rfl ?_;refine RW.ret ?_;cases h57;have h58:=elimL h14 (hE13 _ rfl);cases h58
        exact RRet.y
   ·intro y7 hC
    have h14:=elimR h14 hC;refine RW.sf 3 rfl (RW.ret ?_);cases h14
    exact RRet.y
  ·have h59:=A4 h2 hb;refine RW.cond_t rfl (RW.sf 3 rfl (RW.ret ?_));cases h59
   exact RRet.y
theorem K9 {x0:TDisk} {x1:Int} {x2:Int} {x3:List UInt8} {r:TDisk×Bool} (hF:F4 x0 x1 x2 x3=some r):B2 Tryz.prog 147 [.agg (A5 false x0),.j x1,.j x2,.str x3] (.tup [.agg (A5 true r.1),.bool r.2]):=by
 refine B2.q We ?_;unfold F4 at hF;refine RW.sf 3 rfl (RW.seq (RW.seq ?_));obtain ⟨y1,ey1,h1⟩:=A2 hF
 refine RW.cutq (σ:=Bool) (fun y1=>[(1,.j x1),(2,.j x2),(3,.str x3),(4,.ptr 0 0),(8,.ptr 1 0),(24,.bool y1)]) (fun y1=>[some ⟨A5 false x0,0⟩,some ⟨[.nils,.nils],0⟩]) (fun y=>y1=y) gg ?_ ?_
 ·refine RW.reg ?_;refine rl.run 1 rfl ?_;obtain ⟨v2,e2,h2⟩:=A2 ey1;refine rl.call rfl rfl rfl (A7.y (r':=.bool v2) (B6 e2) ?_)
  cases hb:v2
  ·have h3:=A3 h2 hb;refine rl.f 13 rfl ?_;cases h3
   exact ⟨_,rfl,(Gh.y0 [0,1])⟩
  ·have h4:=A4 h2 hb;refine rl.run 3 rfl ?_;obtain ⟨v3,e3,h5⟩:=A2 h4;refine rl.call rfl rfl rfl (A7.y (r':=.bool v3) (B6 e3) ?_)
   cases hb:v3
   ·have h6:=A3 h5 hb;refine rl.f 9 rfl ?_;cases h6
    exact ⟨_,rfl,(Gh.y0 [0,1])⟩
   ·have h7:=A4 h5 hb;refine rl.run 7 rfl ?_
    refine rl.gen rfl rfl fun b hb=>?_
    cases b
    ·have h8:=A3 h7 hb;refine rl.f 1 rfl ?_;cases h8
     exact ⟨_,rfl,(Gh.y0 [0,1])⟩
    ·have h9:=A4 h7 hb;refine rl.f 1 rfl ?_;cases h9
     exact ⟨_,rfl,(Gh.y0 [0,1])⟩
 ·intro y hC
  subst hC
  cases hb:y1
  ·have h10:=A3 h1 hb;refine RW.cond_f rfl (RW.skip (RW.sdrw (A0.op rfl rfl (A0.op rfl rfl ?_))));obtain ⟨v4,e4,h11⟩:=A2 h10;refine A0.call rfl rfl rfl (A7.y (r':=.j v4) (Hk e4) ⟨rfl,?_⟩);refine A0.op rfl rfl (A0.op rfl rfl ?_);obtain ⟨v5,e5,h12⟩:=A2 h11;refine A0.ccall rfl rfl rfl (A7.z (r':=.tup [.agg (C3 2 3 v5.1),.bool v5.2]) (H':=[some ⟨A5 false x0,0⟩,some ⟨[.nils,.nils],0⟩,some ⟨fl (encS true) v5.1.Sectors,1⟩,some ⟨fl (A1 true) v5.1.Cache,2⟩]) (Gf e5) ?_);refine A0.op rfl rfl (A0.op rfl rfl ?_);refine A0.chn rfl rfl ?_;refine A0.op rfl rfl (A0.done ?_);refine RW.kp [8,9] [(8,.ptr 1 0),(9,.bool v5.2)] [some ⟨A5 false x0,0⟩,some ⟨C3 2 3 v5.1,0⟩,some ⟨fl (encS true) v5.1.Sectors,1⟩,some ⟨fl (A1 true) v5.1.Cache,2⟩] rfl rfl ?_;refine RW.ret ?_;cases h12
   exact RRet.y
  ·have h13:=A4 h1 hb;refine RW.cond_t rfl (RW.sr 1 rfl ?_);obtain ⟨v6,e6,h14⟩:=A2 h13;refine rl.call rfl rfl rfl (A7.z (r':=.agg (C3 2 3 v6)) (H':=[some ⟨A5 false x0,0⟩,some ⟨[.nils,.nils],0⟩,some ⟨fl (encS true) v6.Sectors,1⟩,some ⟨fl (A1 true) v6.Cache,2⟩]) (H4 e6) ?_);refine rl.f 2 rfl (RW.ret ?_);cases h14
   exact RRet.y
theorem Hq {x0:TLog} {r:List Int} (hF:M0 x0=some r):B2 Tryz.prog 34 [.agg (A9 false x0)] (.lst true 1 (fl (encI true) r) r.length):=by
 refine B2.q Wl ?_;unfold M0 at hF;refine RW.sf 2 rfl (RW.sf 2 rfl (RW.seq (RW.sf 1 rfl ?_)));refine RW.gh (Gh.nil_t 3 1 rfl) ?_;obtain ⟨y9,ey9,h2⟩:=A2 hF
 refine RW.cutq (σ:=(List Int)) (fun y2=>[(3,.sl 0 0 y2.length)]) (fun y2=>[some ⟨fl (encI true) y2,1⟩]) (fun y=>y9=y) gg ?_ ?_
 ·refine RW.blk ?_
  refine RW.iter (σ:=Int×(List Int)) ey9 (fun s1=>[(1,.ptr 0 0),(3,.sl 1 0 s1.2.length),(4,.j s1.1)]) (fun s1=>[some ⟨A9 false x0,0⟩,some ⟨fl (encI true) s1.2,1⟩]) (Gh.y0 [0,1]) (fun s1 B o hS1 hB1 hE1=>?_)
  unfold Bo at hS1;refine RW.seq (RW.seq ?_);obtain ⟨y3,ey3,h3⟩:=A2 hS1
  refine RW.cutq (σ:=Bool) (fun y3=>[(1,.ptr 0 0),(3,.sl 1 0 s1.2.length),(4,.j s1.1),(15,.bool y3)]) (fun y3=>[some ⟨A9 false x0,0⟩,some ⟨fl (encI true) s1.2,1⟩]) (fun y=>y3=y) gg ?_ ?_
  ·refine RW.reg ?_;refine rl.run 3 rfl ?_
   refine rl.gen rfl rfl fun b hb=>?_
   cases b
   ·have h4:=A3 ey3 hb;refine rl.f 4 rfl ?_;cases h4
    exact ⟨_,rfl,(Gh.y0 [0,1])⟩
   ·have h5:=A4 ey3 hb;refine rl.run 2 rfl ?_
    refine rl.gen rfl rfl fun b hb=>?_
    cases b
    ·have h6:=A3 h5 hb;refine rl.f 1 rfl ?_;cases h6
     exact ⟨_,rfl,(Gh.y0 [0,1])⟩
    ·have h7:=A4 h5 hb;refine rl.f 1 rfl ?_;cases h7
     exact ⟨_,rfl,(Gh.y0 [0,1])⟩
  ·intro y hC
   subst hC
   cases hb:y3
   ·have h8:=A3 h3 hb;refine RW.cond_f rfl (RW.exit (C7 ?_));cases h8
    exact ⟨_,(hE1 _ rfl).symm,(Gh.y0 [1])⟩
   ·have h9:=A4 h3 hb;refine RW.cond_t rfl (RW.skip (RW.seq (RW.blk (RW.sf 1 rfl (RW.seq (RW.sf 1 rfl ?_))))));obtain ⟨y7,ey7,h11⟩:=A2 h9
    refine RW.cutq (σ:=Bool) (fun y5=>[(1,.ptr 0 0),(3,.sl 1 0 s1.2.length),(4,.j s1.1),(5,.bool y5)]) (fun y5=>[some ⟨A9 false x0,0⟩,some ⟨fl (encI true) s1.2,1⟩]) (fun y=>y7=y) gg ?_ ?_
    ·refine RW.blk ?_
     refine RW.iter (σ:=Bool×Int) ey7 (fun s4=>[(1,.ptr 0 0),(3,.sl 1 0 s1.2.length),(4,.j s1.1),(5,.bool s4.1),(6,.j s4.2)]) (fun s4=>[some ⟨A9 false x0,0⟩,some ⟨fl (encI true) s1.2,1⟩]) (Gh.y0 [0,1]) (fun s4 B o hS10 hB10 hE10=>?_)
     unfold Q2 at hS10;refine RW.seq (RW.sr 4 rfl ?_)
     refine rl.gen rfl rfl fun b hb=>?_
     cases b
     ·have h12:=A3 hS10 hb;refine rl.done (RW.cond_f rfl (RW.exit (C7 ?_)));cases h12
      exact ⟨_,(hE10 _ rfl).symm,(Gh.y0 [0,1])⟩
     ·have h13:=A4 hS10 hb;refine rl.done (RW.cond_t rfl (RW.skip (RW.seq (RW.blk (RW.reg (rl.run 2 rfl ?_))))))
      cases hb:s4.1
      ·have h14:=A3 h13 hb;refine rl.run 3 rfl ?_;obtain ⟨v6,e6,h15⟩:=A2 h14;refine rl.gop rfl (B8 (enc:=A6) (o:=false) rfl rfl rfl e6) ?_;refine rl.run 1 rfl ?_;refine rl.gop rfl (E2 (off':=0) B3 rfl e6 rfl rfl rfl) ?_;refine rl.run 1 rfl ?_
       refine rl.gen rfl rfl fun b hb=>?_
       cases b
       ·have h16:=A3 h15 hb;refine rl.f 2 rfl (RW.reg (rl.f 3 rfl ?_));cases h16
        exact hB10 _ rfl _ _ (Gh.y0 [0,1])
       ·have h17:=A4 h15 hb;refine rl.f 2 rfl (RW.reg (rl.f 3 rfl ?_));cases h17
        exact hB10 _ rfl _ _ (Gh.y0 [0,1])
      ·have h18:=A4 h13 hb;refine rl.f 10 rfl (RW.reg (rl.f 3 rfl ?_));cases h18
       exact hB10 _ rfl _ _ (Gh.y0 [0,1])
    ·intro y5 hC
     subst hC;refine RW.sf 2 rfl ?_
     cases hb:(!y7)
     ·have h19:=A3 h11 hb;refine RW.cond_f rfl (RW.skip (RW.reg (rl.f 3 rfl ?_)));cases h19
      exact hB1 _ rfl _ _ (Gh.y0 [0,1])
     ·have h20:=A4 h11 hb;refine RW.cond_t rfl (RW.reg (rl.run 3 rfl ?_));obtain ⟨v8,e8,h21⟩:=A2 h20;refine rl.op (R5 rfl rfl (Q0 (l:=s1.2) (m:=[s1.1]) (o:=true) ekI rfl rfl (L2 (m:=[s1.1]) (o:=true) fkI rfl rfl) rfl (fkI.fst _ _) e8)) ?_;refine rl.f 1 rfl (RW.reg (rl.f 3 rfl ?_));cases h21
      exact hB1 _ rfl _ _ (Gh.y0 [0,3])
 ·intro y2 hC
  subst hC;refine RW.sf 2 rfl (RW.ret ?_);cases h2
  exact RRet.y
theorem Mg {x0:TLog} {x1:Int} {r:Bool×TLog} (hF:P9 x0 x1=some r):C4 Tryz.prog 0 88 [.ptr 0 0,.j x1] [some ⟨A9 true x0,0⟩] (.bool r.1) [some ⟨A9 true r.2,0⟩]:=by
 refine C4.q Lh ?_;unfold P9 at hF
 refine RW.gh (Gh.expose (b:=0) (j:=0) rfl rfl (by decide) (ekS.fown _)) ?_
 refine RW.gh (Gh.expose (b:=0) (j:=1) rfl rfl (by decide) (B4.fown _)) ?_
 refine RW.gh (Gh.expose (b:=0) (j:=3) rfl rfl (by decide) (B3.fown _)) ?_
 refine RW.sf 1 rfl (RW.sr 3 rfl ?_);obtain ⟨v1,e1,h1⟩:=A2 hF;refine rl.call rfl rfl rfl (A7.y (r':=L_I v1) (Hq e1) ?_);refine rl.f 1 rfl (RW.seq (RW.seq ?_));obtain ⟨y2,ey2,h2⟩:=A2 h1
 refine RW.cutq (σ:=Bool) (fun y2=>[(0,.ptr 0 0),(5,L_I v1),(21,.bool y2)]) (fun y2=>[some ⟨C0 1 2 3 x0,0⟩,some ⟨fl (encS true) x0.Disk.Sectors,1⟩,some ⟨fl (A1 true) x0.Disk.Cache,2⟩,some ⟨fl (A6 true) x0.Used,4⟩]) (fun y=>y2=y) gg ?_ ?_
 ·refine RW.reg ?_;refine rl.run 1 rfl ?_
  refine rl.gen rfl rfl fun b hb=>?_
  cases b
  ·have h3:=A3 ey2 hb;refine rl.run 4 rfl ?_
   refine rl.gen rfl rfl fun b hb=>?_
   cases b
   ·have h4:=A3 h3 hb;refine rl.f 1 rfl ?_;cases h4
    exact ⟨_,rfl,(Gh.rN [0,1,2,3])⟩
   ·have h5:=A4 h3 hb;refine rl.f 1 rfl ?_;cases h5
    exact ⟨_,rfl,(Gh.rN [0,1,2,3])⟩
  ·have h6:=A4 ey2 hb;refine rl.f 6 rfl ?_;cases h6
   exact ⟨_,rfl,(Gh.rN [0,1,2,3])⟩
 ·intro y hC
  subst hC
  cases hb:y2
  ·have h7:=A3 h2 hb;refine RW.cond_f rfl (RW.skip (RW.sr 5 rfl ?_));obtain ⟨v3,e3,h8⟩:=A2 h7;refine rl.call rfl rfl rfl (A7.y (r':=.tup [.str v3.1,.bool v3.2]) (U2 e3) ?_);refine rl.f 5 rfl (RW.sdrw (A0.op rfl rfl (A0.op rfl rfl (A0.op rfl rfl (A0.op rfl rfl (A0.op rfl rfl ?_))))));obtain ⟨v4,e4,h9⟩:=A2 h8;refine A0.op rfl (B8 (enc:=encI) (o:=false) rfl rfl rfl e4) ?_;refine A0.op rfl (E2 (off':=0) ekI rfl e4 rfl rfl rfl) ?_;refine A0.op rfl rfl ?_;obtain ⟨v5,e5,h10⟩:=A2 h9;refine A0.call rfl rfl rfl (A7.y (r':=.tup [.agg (A5 false v5.1),.bool v5.2]) (K9 e5) ⟨rfl,?_⟩);refine A0.op rfl rfl (A0.op rfl rfl (A0.op rfl rfl ?_));refine A0.chnB rfl rfl (.here (.rx rfl) (.here (.rx rfl) (.here (.rx rfl) (.here (.cl rfl rfl (A7.y (r':=.tup [.agg (A5 false v5.1),.bool v5.2]) (K9 e5) ⟨rfl,rfl⟩)) (.here (.rx rfl) (.here (.rx (E2 (off':=0) ekI rfl e4 rfl rfl rfl)) (.here (.rx (B8 (enc:=encI) (o:=false) rfl rfl rfl e4)) (.here (.rx rfl) (.here (.rx rfl) (.here (.rx rfl) (.here (.rx rfl) (.here (.rx rfl) .nil)))))))))))) ?_;refine A0.chnB rfl rfl (.here (.rx rfl) (.skip rfl (.skip rfl (.skip rfl (.skip rfl (.skip rfl (.skip rfl (.skip rfl (.skip rfl (.skip rfl (.skip rfl (.skip rfl .nil)))))))))))) ?_;refine A0.op rfl rfl (A0.done ?_);refine RW.kp [0,5,6,7,8,9] [(0,.ptr 0 0),(5,L_I v1),(6,.str v3.1),(7,.bool v3.2),(8,.ptr 4 0),(9,.bool v5.2)] [some ⟨C0 1 2 3 x0,0⟩,some ⟨fl (encS true) x0.Disk.Sectors,1⟩,some ⟨fl (A1 true) x0.Disk.Cache,2⟩,some ⟨fl (A6 true) x0.Used,4⟩,some ⟨A5 false v5.1,0⟩] rfl rfl ?_;refine RW.seq (RW.seq ?_);obtain ⟨y6,ey6,h11⟩:=A2 h10
   refine RW.cutq (σ:=Bool) (fun y6=>[(0,.ptr 0 0),(5,L_I v1),(6,.str v3.1),(8,.ptr 1 0),(55,.bool y6)]) (fun y6=>[some ⟨C0 2 3 4 x0,0⟩,some ⟨A5 false v5.1,0⟩,some ⟨fl (encS true) x0.Disk.Sectors,1⟩,some ⟨fl (A1 true) x0.Disk.Cache,2⟩,some ⟨fl (A6 true) x0.Used,4⟩]) (fun y=>y6=y) gg ?_ ?_
   ·refine RW.reg ?_;refine rl.run 3 rfl ?_
    cases hb:(!v3.2)
    ·have h12:=A3 ey6 hb;refine rl.run 4 rfl ?_
     cases hb:(!v5.2)
     ·have h13:=A3 h12 hb;refine rl.run 4 rfl ?_
      refine rl.gen rfl rfl fun b hb=>?_
      cases b
      ·have h14:=A3 h13 hb;refine rl.f 1 rfl ?_;cases h14
       exact ⟨_,rfl,(Gh.rN [0,4,1,2,3])⟩
      ·have h15:=A4 h13 hb;refine rl.f 1 rfl ?_;cases h15
       exact ⟨_,rfl,(Gh.rN [0,4,1,2,3])⟩
     ·have h16:=A4 h12 hb;refine rl.f 6 rfl ?_;cases h16
      exact ⟨_,rfl,(Gh.rN [0,4,1,2,3])⟩
    ·have h17:=A4 ey6 hb;refine rl.f 10 rfl ?_;cases h17
     exact ⟨_,rfl,(Gh.rN [0,4,1,2,3])⟩
   ·intro y hC
    subst hC
    cases hb:y6
    ·have h18:=A3 h11 hb;refine RW.cond_f rfl (RW.skip (RW.sr 2 rfl ?_));obtain ⟨v7,e7,h19⟩:=A2 h18;refine rl.call rfl rfl rfl (A7.z (r':=.agg (C3 5 6 v7)) (H':=[some ⟨C0 2 3 4 x0,0⟩,some ⟨A5 false v5.1,0⟩,some ⟨fl (encS true) x0.Disk.Sectors,1⟩,some ⟨fl (A1 true) x0.Disk.Cache,2⟩,some ⟨fl (A6 true) x0.Used,4⟩,some ⟨fl (encS true) v7.Sectors,1⟩,some ⟨fl (A1 true) v7.Cache,2⟩]) (T2 e7) ?_);refine rl.f 3 rfl (RW.sdrw (A0.op rfl rfl (A0.op rfl rfl (A0.op rfl rfl (A0.op rfl rfl (A0.op rfl rfl (A0.op rfl rfl ?_)))))));obtain ⟨v8,e8,h20⟩:=A2 h19;refine A0.chnmB rfl (x_mv (o:=true) B3 rfl rfl rfl rfl rfl e8) (.skip rfl (.skip rfl (.skip rfl (.skip rfl (.skip rfl (.here (.rx rfl) .nil)))))) ?_;refine A0.opA rfl rfl (.here (.rx rfl) .nil) ?_;obtain ⟨v9,e9,h21⟩:=A2 h20;refine A0.opA rfl (B8 (enc:=encI) (o:=false) rfl rfl rfl e9) (.here (.rx (B8 (enc:=encI) (o:=false) rfl rfl rfl e9)) .nil) ?_;refine A0.opA rfl (E2 (off':=0) ekI rfl e9 rfl rfl rfl) (.here (.rx (E2 (off':=0) ekI rfl e9 rfl rfl rfl)) .nil) ?_;refine A0.opA rfl rfl (.here (.rx rfl) .nil) ?_;refine A0.opA rfl rfl (.here (.rx rfl) .nil) ?_;refine A0.opA rfl rfl (.here (.rx rfl) .nil) ?_;refine A0.opA rfl rfl (.here (.rx rfl) .nil) ?_;refine A0.opA rfl rfl (.here (.rx rfl) .nil) ?_;refine A0.opA rfl rfl (.here (.rx rfl) .nil) ?_;refine A0.opA rfl rfl (.here (.rx rfl) .nil) ?_;refine A0.litA (u:=.lst false 4 [.j v9,.j x0.NextGen,.j (v3.1.length:Int),.nils] 1) rfl rfl (Lit.mk rfl rfl) (.here (.lit rfl (Lit.mk rfl rfl)) .nil) ?_;obtain ⟨v10,e10,h22⟩:=A2 h21;refine A0.chnB rfl (R5 rfl rfl (Lj B3 rfl rfl rfl e10)) (.skip rfl (.skip rfl (.skip rfl (.skip rfl (.skip rfl (.skip rfl (.skip rfl (.skip rfl (.skip rfl (.skip rfl (.skip rfl (.skip rfl (.skip rfl (.skip rfl (.skip rfl (.skip rfl (.here (.rx rfl) .nil))))))))))))))))) ?_;refine A0.op rfl rfl (A0.op rfl rfl ?_);refine A0.chn rfl rfl ?_;refine A0.done ?_;refine RW.gh (Gh.own0 (b:=8) rfl (NL.append NL.refl (NL.append (.same (.same (.same (.nils (es:=9) .nil)))) NL.refl))) ?_
     refine RW.gh (Gh.blk (b:=8) rfl (Qw (enc:=A6) e10 rfl)) ?_;refine RW.kp [0] [(0,.ptr 0 0)] [some ⟨[.sl 5 0 v7.Sectors.length,.sl 6 0 v7.Cache.length,.j x0.Segs,.sl 8 0 v10.length,.j x0.NextGen,.j x0.NextSeq,.j x0.Stamp,.j x0.NextValid],0⟩,some ⟨A5 false v5.1,0⟩,some ⟨fl (encS true) x0.Disk.Sectors,1⟩,some ⟨fl (A1 true) x0.Disk.Cache,2⟩,none,some ⟨fl (encS true) v7.Sectors,1⟩,some ⟨fl (A1 true) v7.Cache,2⟩,none,some ⟨fl (A6 true) v10,4⟩] rfl rfl ?_;refine RW.sf 8 rfl (RW.sf 1 rfl (RW.ret ?_));cases h22
     exact RRetS.m (Gh.trans (Gh.absorbq (b:=0) (j:=0) (m:=5) rfl rfl rfl (by decide) (by decide) rfl (ekS.flen true _) (ekS.fown _)) (Gh.trans (Gh.absorbq (b:=0) (j:=1) (m:=6) rfl rfl rfl (by decide) (by decide) rfl (B4.flen true _) (B4.fown _)) (Gh.trans (Gh.absorbq (b:=0) (j:=3) (m:=8) rfl rfl rfl (by decide) (by decide) rfl (B3.flen true _) (B3.fown _)) (Gh.rN [0]))))
    ·have h23:=A4 h11 hb;refine RW.cond_t rfl (RW.sf 1 rfl (RW.ret ?_));cases h23
     exact RRetS.m (Gh.trans (Gh.absorbq (b:=0) (j:=0) (m:=2) rfl rfl rfl (by decide) (by decide) rfl (ekS.flen true _) (ekS.fown _)) (Gh.trans (Gh.absorbq (b:=0) (j:=1) (m:=3) rfl rfl rfl (by decide) (by decide) rfl (B4.flen true _) (B4.fown _)) (Gh.trans (Gh.absorbq (b:=0) (j:=3) (m:=4) rfl rfl rfl (by decide) (by decide) rfl (B3.flen true _) (B3.fown _)) (Gh.rN [0]))))
  ·have h24:=A4 h2 hb;refine RW.cond_t rfl (RW.sf 1 rfl (RW.ret ?_));cases h24
   exact RRetS.m (Gh.trans (Gh.absorbq (b:=0) (j:=0) (m:=1) rfl rfl rfl (by decide) (by decide) rfl (ekS.flen true _) (ekS.fown _)) (Gh.trans (Gh.absorbq (b:=0) (j:=1) (m:=2) rfl rfl rfl (by decide) (by decide) rfl (B4.flen true _) (B4.fown _)) (Gh.trans (Gh.absorbq (b:=0) (j:=3) (m:=3) rfl rfl rfl (by decide) (by decide) rfl (B3.flen true _) (B3.fown _)) (Gh.rN [0]))))
theorem Fa {x0:TLog} {x1:TItem} {x2:Int} {r:Bool×TLog} (hF:J7 x0 x1 x2=some r):C4 Tryz.prog 0 87 [.ptr 0 0,.agg (A8 false x1),.j x2] [some ⟨A9 true x0,0⟩] (.bool r.1) [some ⟨A9 true r.2,0⟩]:=by
 refine C4.q Ui ?_;unfold J7 at hF
 refine RW.gh (Gh.expose (b:=0) (j:=0) rfl rfl (by decide) (ekS.fown _)) ?_
 refine RW.gh (Gh.expose (b:=0) (j:=1) rfl rfl (by decide) (B4.fown _)) ?_
 refine RW.gh (Gh.expose (b:=0) (j:=3) rfl rfl (by decide) (B3.fown _)) ?_
 refine RW.sf 2 rfl ?_;obtain ⟨v1,e1,h1⟩:=A2 hF;refine RW.gh (Gh.blk (b:=3) rfl (Ek B3 e1)) ?_
 refine RW.gh (Gh.expose_raw (b:=3) (j:=3) rfl rfl (by decide) (B9.fown _)) ?_
 refine RW.sdrw (A0.op rfl rfl (A0.op rfl rfl (A0.op rfl rfl (A0.op rfl rfl (A0.op rfl rfl (A0.op rfl rfl (A0.op rfl rfl (A0.op rfl rfl (A0.op rfl rfl (A0.op rfl rfl ?_))))))))));refine A0.op rfl (Bl rfl rfl rfl rfl e1) ?_;refine A0.op rfl (Ry (off':=0) (us:=(G6 5 v1)) B3 rfl rfl e1 rfl rfl rfl) ?_;refine A0.chnB rfl rfl (.here (.rx (Ry (off':=0) (us:=(G6 5 v1)) B3 rfl rfl e1 rfl rfl rfl)) (.here (.rx (Bl rfl rfl rfl rfl e1)) (.here (.rx rfl) (.here (.rx rfl) (.here (.rx rfl) (.here (.rx rfl) (.here (.rx rfl) (.here (.rx rfl) (.here (.rx rfl) (.here (.rx rfl) (.here (.rx rfl) (.here (.rx rfl) .nil)))))))))))) ?_;refine A0.chn rfl rfl ?_;refine A0.done ?_;refine RW.kp [0,2,4,7] [(0,.ptr 0 0),(2,.j x2),(4,.ptr 4 0),(7,.ptr 6 0)] [some ⟨C0 1 2 3 x0,0⟩,some ⟨fl (encS true) x0.Disk.Sectors,1⟩,some ⟨fl (A1 true) x0.Disk.Cache,2⟩,some ⟨fl (A6 true) (x0.Used.take (w64 ((x0.Used.length:Int) - 1)).toNat)++((G6 5 v1)++fl (A6 true) (x0.Used.drop ((w64 ((x0.Used.length:Int) - 1)).toNat+1))),4⟩,some ⟨A8 false x1,0⟩,some ⟨fl (A8 true) v1.Items,9⟩,some ⟨G6 5 v1,0⟩] rfl rfl ?_;refine RW.sr 3 rfl ?_;obtain ⟨v2,e2,h2⟩:=A2 h1;refine rl.call rfl rfl rfl (A7.y (r':=.tup [.agg (B5 false v2.1),.bool v2.2]) (Pe e2) ?_);refine rl.f 6 rfl (RW.sr 1 rfl ?_);obtain ⟨v3,e3,h3⟩:=A2 h2;refine rl.call rfl rfl rfl (A7.y (r':=.tup [.str v3.1,.bool v3.2]) (U2 e3) ?_);refine rl.f 5 rfl ?_;refine RW.kp [0,2,4,7,8,9,10,11] [(0,.ptr 0 0),(2,.j x2),(4,.ptr 4 0),(7,.ptr 6 0),(8,.ptr 7 0),(9,.bool v2.2),(10,.str v3.1),(11,.bool v3.2)] [some ⟨C0 1 2 3 x0,0⟩,some ⟨fl (encS true) x0.Disk.Sectors,1⟩,some ⟨fl (A1 true) x0.Disk.Cache,2⟩,some ⟨fl (A6 true) (x0.Used.take (w64 ((x0.Used.length:Int) - 1)).toNat)++((G6 5 v1)++fl (A6 true) (x0.Used.drop ((w64 ((x0.Used.length:Int) - 1)).toNat+1))),4⟩,some ⟨A8 false x1,0⟩,some ⟨fl (A8 true) v1.Items,9⟩,some ⟨G6 5 v1,0⟩,some ⟨B5 false v2.1,0⟩] rfl rfl ?_;refine RW.seq (RW.seq ?_);obtain ⟨y4,ey4,h4⟩:=A2 h3
 refine RW.cutq (σ:=Bool) (fun y4=>[(0,.ptr 0 0),(2,.j x2),(4,.ptr 1 0),(7,.ptr 2 0),(8,.ptr 3 0),(10,.str v3.1),(48,.bool y4)]) (fun y4=>[some ⟨C0 4 5 6 x0,0⟩,some ⟨A8 false x1,0⟩,some ⟨G6 7 v1,0⟩,some ⟨B5 false v2.1,0⟩,some ⟨fl (encS true) x0.Disk.Sectors,1⟩,some ⟨fl (A1 true) x0.Disk.Cache,2⟩,some ⟨fl (A6 true) (x0.Used.take (w64 ((x0.Used.length:Int) - 1)).toNat)++((G6 7 v1)++fl (A6 true) (x0.Used.drop ((w64 ((x0.Used.length:Int) - 1)).toNat+1))),4⟩,some ⟨fl (A8 true) v1.Items,9⟩]) (fun y=>y4=y) gg ?_ ?_
 ·refine RW.reg ?_;refine rl.run 3 rfl ?_
  cases hb:(!v2.2)
  ·have h5:=A3 ey4 hb;refine rl.run 4 rfl ?_
   cases hb:(!v3.2)
   ·have h6:=A3 h5 hb;refine rl.run 2 rfl ?_
    refine rl.gen rfl rfl fun b hb=>?_
    cases b
    ·have h7:=A3 h6 hb;refine rl.f 1 rfl ?_;cases h7
     exact ⟨_,rfl,(Gh.rN [0,4,6,7,1,2,3,5])⟩
    ·have h8:=A4 h6 hb;refine rl.f 1 rfl ?_;cases h8
     exact ⟨_,rfl,(Gh.rN [0,4,6,7,1,2,3,5])⟩
   ·have h9:=A4 h5 hb;refine rl.f 4 rfl ?_;cases h9
    exact ⟨_,rfl,(Gh.rN [0,4,6,7,1,2,3,5])⟩
  ·have h10:=A4 ey4 hb;refine rl.f 8 rfl ?_;cases h10
   exact ⟨_,rfl,(Gh.rN [0,4,6,7,1,2,3,5])⟩
 ·intro y hC
  subst hC
  cases hb:y4
  ·have h11:=A3 h4 hb;refine RW.cond_f rfl (RW.skip (RW.seq (RW.sr 5 rfl ?_)))
   refine rl.gen rfl rfl fun b hb=>?_
   cases b
   ·have h12:=A3 h11 hb;refine rl.done (RW.cond_f rfl (RW.skip (RW.sdrw (A0.op rfl rfl (A0.op rfl rfl (A0.op rfl rfl (A0.op rfl rfl (A0.op rfl rfl (A0.op rfl rfl (A0.op rfl rfl (A0.op rfl rfl ?_)))))))))));refine A0.op rfl rfl ?_;obtain ⟨v5,e5,h13⟩:=A2 h12;refine A0.call rfl rfl rfl (A7.y (r':=.tup [.agg (A5 false v5.1),.bool v5.2]) (K9 e5) ⟨rfl,?_⟩);refine A0.op rfl rfl (A0.op rfl rfl (A0.op rfl rfl ?_));refine A0.chnB rfl rfl (.here (.rx rfl) (.here (.rx rfl) (.here (.rx rfl) (.here (.cl rfl rfl (A7.y (r':=.tup [.agg (A5 false v5.1),.bool v5.2]) (K9 e5) ⟨rfl,rfl⟩)) (.here (.rx rfl) (.here (.rx rfl) (.here (.rx rfl) (.here (.rx rfl) (.here (.rx rfl) (.here (.rx rfl) (.here (.rx rfl) (.here (.rx rfl) (.here (.rx rfl) .nil))))))))))))) ?_;refine A0.chnB rfl rfl (.here (.rx rfl) (.skip rfl (.skip rfl (.skip rfl (.skip rfl (.skip rfl (.skip rfl (.skip rfl (.skip rfl (.skip rfl (.skip rfl (.skip rfl (.skip rfl .nil))))))))))))) ?_;refine A0.op rfl rfl (A0.done ?_);refine RW.kp [0,4,7,10,12,13] [(0,.ptr 0 0),(4,.ptr 1 0),(7,.ptr 2 0),(10,.str v3.1),(12,.ptr 8 0),(13,.bool v5.2)] [some ⟨C0 4 5 6 x0,0⟩,some ⟨A8 false x1,0⟩,some ⟨G6 7 v1,0⟩,some ⟨B5 false v2.1,0⟩,some ⟨fl (encS true) x0.Disk.Sectors,1⟩,some ⟨fl (A1 true) x0.Disk.Cache,2⟩,some ⟨fl (A6 true) (x0.Used.take (w64 ((x0.Used.length:Int) - 1)).toNat)++((G6 7 v1)++fl (A6 true) (x0.Used.drop ((w64 ((x0.Used.length:Int) - 1)).toNat+1))),4⟩,some ⟨fl (A8 true) v1.Items,9⟩,some ⟨A5 false v5.1,0⟩] rfl rfl ?_;refine RW.seq (RW.sf 2 rfl ?_)
    cases hb:(!v5.2)
    ·have h14:=A3 h13 hb;refine RW.cond_f rfl (RW.skip (RW.sr 2 rfl ?_));obtain ⟨v6,e6,h15⟩:=A2 h14;refine rl.call rfl rfl rfl (A7.z (r':=.agg (C3 9 10 v6)) (H':=[some ⟨C0 4 5 6 x0,0⟩,some ⟨A8 false x1,0⟩,some ⟨G6 7 v1,0⟩,some ⟨B5 false v2.1,0⟩,some ⟨fl (encS true) x0.Disk.Sectors,1⟩,some ⟨fl (A1 true) x0.Disk.Cache,2⟩,some ⟨fl (A6 true) (x0.Used.take (w64 ((x0.Used.length:Int) - 1)).toNat)++((G6 7 v1)++fl (A6 true) (x0.Used.drop ((w64 ((x0.Used.length:Int) - 1)).toNat+1))),4⟩,some ⟨fl (A8 true) v1.Items,9⟩,some ⟨A5 false v5.1,0⟩,some ⟨fl (encS true) v6.Sectors,1⟩,some ⟨fl (A1 true) v6.Cache,2⟩]) (T2 e6) ?_);refine rl.f 3 rfl (RW.sf 7 rfl ?_);refine RW.kp [0,4,7] [(0,.ptr 0 0),(4,.ptr 1 0),(7,.ptr 2 0)] [some ⟨[.sl 9 0 v6.Sectors.length,.sl 10 0 v6.Cache.length,.j x0.Segs,.sl 6 0 x0.Used.length,.j x0.NextGen,.j x0.NextSeq,.j x0.Stamp,.j x0.NextValid],0⟩,some ⟨A8 false x1,0⟩,some ⟨[.j v1.No,.j v1.Gen,.j (w64 (v1.End+(v3.1.length:Int))),.sl 7 0 v1.Items.length],0⟩,some ⟨B5 false v2.1,0⟩,some ⟨fl (encS true) x0.Disk.Sectors,1⟩,some ⟨fl (A1 true) x0.Disk.Cache,2⟩,some ⟨fl (A6 true) (x0.Used.take (w64 ((x0.Used.length:Int) - 1)).toNat)++((G6 7 v1)++fl (A6 true) (x0.Used.drop ((w64 ((x0.Used.length:Int) - 1)).toNat+1))),4⟩,some ⟨fl (A8 true) v1.Items,9⟩,some ⟨A5 false v5.1,0⟩,some ⟨fl (encS true) v6.Sectors,1⟩,some ⟨fl (A1 true) v6.Cache,2⟩] rfl rfl ?_;refine RW.sdrw (A0.op rfl rfl (A0.op rfl rfl (A0.op rfl rfl ?_)));obtain ⟨v7,e7,h16⟩:=A2 h15;refine A0.chn rfl (R5 rfl rfl (Gx (m:=v1.Items) (o:=true) B9 (L2 (m:=v1.Items) (o:=true) M1 rfl rfl) rfl (M1.fst _ _) e7)) ?_;refine A0.opA rfl rfl (.here (.rx rfl) .nil) ?_;refine A0.litA (u:=E6 ([x1]:List TItem)) rfl rfl (Lit.mk rfl rfl) (.here (.lit rfl (Lit.mk rfl rfl)) .nil) ?_;obtain ⟨v8,e8,h17⟩:=A2 h16;refine A0.chn rfl (R5 rfl rfl (Q0 (l:=v7) (m:=([x1]:List TItem)) (o:=true) B9 rfl rfl Bd rfl (M1.fst _ _) e8)) ?_;refine A0.op rfl rfl ?_;refine A0.chn rfl rfl ?_;refine A0.done ?_
     refine RW.gh (Gh.absorb_rawq (b:=6) (j:=3) (m:=7) rfl rfl rfl (by decide) (by decide) rfl (B9.flen true _) (B9.fown _)) ?_
     refine RW.gh (Gh.blk (b:=6) rfl (Ek B3 e1).symm) ?_;refine RW.sdrw (A0.op rfl rfl (A0.op rfl rfl (A0.op rfl rfl (A0.op rfl rfl (A0.op rfl rfl (A0.op rfl rfl (A0.op rfl rfl (A0.op rfl rfl (A0.op rfl rfl (A0.op rfl rfl (A0.op rfl rfl ?_)))))))))));obtain ⟨v9,e9,h18⟩:=A2 h17;refine A0.op rfl (Bl rfl rfl rfl rfl e9) ?_;obtain ⟨v10,e10,h19⟩:=A2 h18;refine A0.chn rfl (A39 (off':=0) B3 e9 rfl rfl rfl rfl rfl rfl rfl rfl) ?_;refine A0.done ?_
     refine RW.gh (Gh.absorb_rawq (b:=6) (j:=3) (m:=12) rfl rfl rfl (by decide) (by decide) rfl (B9.flen true _) (B9.fown _)) ?_
     refine RW.gh (Gh.blk (b:=6) rfl (Wy B3 e9 e10 rfl)) ?_;refine RW.kp [0,4] [(0,.ptr 0 0),(4,.ptr 1 0)] [some ⟨[.sl 9 0 v6.Sectors.length,.sl 10 0 v6.Cache.length,.j x0.Segs,.sl 6 0 x0.Used.length,.j x0.NextGen,.j x0.NextSeq,.j x0.Stamp,.j x0.NextValid],0⟩,some ⟨A8 false x1,0⟩,some ⟨[.j v1.No,.j v1.Gen,.j (w64 (v1.End+(v3.1.length:Int))),.sl 12 0 v8.length],0⟩,some ⟨B5 false v2.1,0⟩,some ⟨fl (encS true) x0.Disk.Sectors,1⟩,some ⟨fl (A1 true) x0.Disk.Cache,2⟩,some ⟨fl (A6 true) v10,4⟩,none,some ⟨A5 false v5.1,0⟩,some ⟨fl (encS true) v6.Sectors,1⟩,some ⟨fl (A1 true) v6.Cache,2⟩,none,none] rfl rfl ?_;refine RW.seq (RW.sdrw (A0.op rfl rfl (A0.op rfl rfl (A0.op rfl rfl (A0.op rfl rfl (A0.op rfl rfl (A0.op rfl rfl ?_)))))))
     refine A0.gen rfl rfl fun b hb=>?_
     cases b
     ·have h20:=A3 h19 hb;refine A0.done (RW.cond_f rfl (RW.skip (RW.seq (RW.sdrw (A0.op rfl rfl (A0.op rfl rfl (A0.op rfl rfl (A0.op rfl rfl (A0.op rfl rfl (A0.op rfl rfl (A0.op rfl rfl ?_)))))))))))
      refine A0.gen rfl rfl fun b hb=>?_
      cases b
      ·have h21:=A3 h20 hb;refine A0.done ?_;refine RW.kp [0,4,155] [(0,.ptr 0 0),(4,.ptr 1 0),(155,.bool false)] [some ⟨[.sl 9 0 v6.Sectors.length,.sl 10 0 v6.Cache.length,.j x0.Segs,.sl 6 0 x0.Used.length,.j x0.NextGen,.j x0.NextSeq,.j x0.Stamp,.j x0.NextValid],0⟩,some ⟨A8 false x1,0⟩,some ⟨[.j v1.No,.j v1.Gen,.j (w64 (v1.End+(v3.1.length:Int))),.sl 12 0 v8.length],0⟩,some ⟨B5 false v2.1,0⟩,some ⟨fl (encS true) x0.Disk.Sectors,1⟩,some ⟨fl (A1 true) x0.Disk.Cache,2⟩,some ⟨fl (A6 true) v10,4⟩,none,some ⟨A5 false v5.1,0⟩,some ⟨fl (encS true) v6.Sectors,1⟩,some ⟨fl (A1 true) v6.Cache,2⟩,none,none] rfl rfl ?_;refine RW.cond_f rfl (RW.skip (RW.sf 1 rfl (RW.ret ?_)));cases h21
       exact RRetS.m (Gh.trans (Gh.absorbq (b:=0) (j:=0) (m:=9) rfl rfl rfl (by decide) (by decide) rfl (ekS.flen true _) (ekS.fown _)) (Gh.trans (Gh.absorbq (b:=0) (j:=1) (m:=10) rfl rfl rfl (by decide) (by decide) rfl (B4.flen true _) (B4.fown _)) (Gh.trans (Gh.absorbq (b:=0) (j:=3) (m:=6) rfl rfl rfl (by decide) (by decide) (Z6 e10) (B3.flen true _) (B3.fown _)) (Gh.rN [0]))))
      ·have h22:=A4 h20 hb;refine A0.done ?_;refine RW.kp [0,4,155] [(0,.ptr 0 0),(4,.ptr 1 0),(155,.bool true)] [some ⟨[.sl 9 0 v6.Sectors.length,.sl 10 0 v6.Cache.length,.j x0.Segs,.sl 6 0 x0.Used.length,.j x0.NextGen,.j x0.NextSeq,.j x0.Stamp,.j x0.NextValid],0⟩,some ⟨A8 false x1,0⟩,some ⟨[.j v1.No,.j v1.Gen,.j (w64 (v1.End+(v3.1.length:Int))),.sl 12 0 v8.length],0⟩,some ⟨B5 false v2.1,0⟩,some ⟨fl (encS true) x0.Disk.Sectors,1⟩,some ⟨fl (A1 true) x0.Disk.Cache,2⟩,some ⟨fl (A6 true) v10,4⟩,none,some ⟨A5 false v5.1,0⟩,some ⟨fl (encS true) v6.Sectors,1⟩,some ⟨fl (A1 true) v6.Cache,2⟩,none,none] rfl rfl ?_;refine RW.cond_t rfl (RW.reg (rl.f 8 rfl (RW.sf 1 rfl (RW.ret ?_))));cases h22
       exact RRetS.m (Gh.trans (Gh.absorbq (b:=0) (j:=0) (m:=9) rfl rfl rfl (by decide) (by decide) rfl (ekS.flen true _) (ekS.fown _)) (Gh.trans (Gh.absorbq (b:=0) (j:=1) (m:=10) rfl rfl rfl (by decide) (by decide) rfl (B4.flen true _) (B4.fown _)) (Gh.trans (Gh.absorbq (b:=0) (j:=3) (m:=6) rfl rfl rfl (by decide) (by decide) (Z6 e10) (B3.flen true _) (B3.fown _)) (Gh.rN [0]))))
     ·have h23:=A4 h19 hb;refine A0.done (RW.cond_t rfl (RW.reg (rl.f 7 rfl (RW.seq (RW.sdrw (A0.op rfl rfl (A0.op rfl rfl (A0.op rfl rfl (A0.op rfl rfl (A0.op rfl rfl ?_))))))))));refine A0.op rfl rfl (A0.op rfl rfl ?_)
      refine A0.gen rfl rfl fun b hb=>?_
      cases b
      ·have h24:=A3 h23 hb;refine A0.done ?_;refine RW.kp [0,4,155] [(0,.ptr 0 0),(4,.ptr 1 0),(155,.bool false)] [some ⟨[.sl 9 0 v6.Sectors.length,.sl 10 0 v6.Cache.length,.j x0.Segs,.sl 6 0 x0.Used.length,.j x0.NextGen,.j (w64 (x1.Seq+1)),.j x0.Stamp,.j x0.NextValid],0⟩,some ⟨A8 false x1,0⟩,some ⟨[.j v1.No,.j v1.Gen,.j (w64 (v1.End+(v3.1.length:Int))),.sl 12 0 v8.length],0⟩,some ⟨B5 false v2.1,0⟩,some ⟨fl (encS true) x0.Disk.Sectors,1⟩,some ⟨fl (A1 true) x0.Disk.Cache,2⟩,some ⟨fl (A6 true) v10,4⟩,none,some ⟨A5 false v5.1,0⟩,some ⟨fl (encS true) v6.Sectors,1⟩,some ⟨fl (A1 true) v6.Cache,2⟩,none,none] rfl rfl ?_;refine RW.cond_f rfl (RW.skip (RW.sf 1 rfl (RW.ret ?_)));cases h24
       exact RRetS.m (Gh.trans (Gh.absorbq (b:=0) (j:=0) (m:=9) rfl rfl rfl (by decide) (by decide) rfl (ekS.flen true _) (ekS.fown _)) (Gh.trans (Gh.absorbq (b:=0) (j:=1) (m:=10) rfl rfl rfl (by decide) (by decide) rfl (B4.flen true _) (B4.fown _)) (Gh.trans (Gh.absorbq (b:=0) (j:=3) (m:=6) rfl rfl rfl (by decide) (by decide) (Z6 e10) (B3.flen true _) (B3.fown _)) (Gh.rN [0]))))
      ·have h25:=A4 h23 hb;refine A0.done ?_;refine RW.kp [0,4,155] [(0,.ptr 0 0),(4,.ptr 1 0),(155,.bool true)] [some ⟨[.sl 9 0 v6.Sectors.length,.sl 10 0 v6.Cache.length,.j x0.Segs,.sl 6 0 x0.Used.length,.j x0.NextGen,.j (w64 (x1.Seq+1)),.j x0.Stamp,.j x0.NextValid],0⟩,some ⟨A8 false x1,0⟩,some ⟨[.j v1.No,.j v1.Gen,.j (w64 (v1.End+(v3.1.length:Int))),.sl 12 0 v8.length],0⟩,some ⟨B5 false v2.1,0⟩,some ⟨fl (encS true) x0.Disk.Sectors,1⟩,some ⟨fl (A1 true) x0.Disk.Cache,2⟩,some ⟨fl (A6 true) v10,4⟩,none,some ⟨A5 false v5.1,0⟩,some ⟨fl (encS true) v6.Sectors,1⟩,some ⟨fl (A1 true) v6.Cache,2⟩,none,none] rfl rfl ?_;refine RW.cond_t rfl (RW.reg (rl.f 8 rfl (RW.sf 1 rfl (RW.ret ?_))));cases h25
       exact RRetS.m (Gh.trans (Gh.absorbq (b:=0) (j:=0) (m:=9) rfl rfl rfl (by decide) (by decide) rfl (ekS.flen true _) (ekS.fown _)) (Gh.trans (Gh.absorbq (b:=0) (j:=1) (m:=10) rfl rfl rfl (by decide) (by decide) rfl (B4.flen true _) (B4.fown _)) (Gh.trans (Gh.absorbq (b:=0) (j:=3) (m:=6) rfl rfl rfl (by decide) (by decide) (Z6 e10) (B3.flen true _) (B3.fown _)) (Gh.rN [0]))))
    ·have h26:=A4 h13 hb;refine RW.cond_t rfl (RW.sf 1 rfl ?_)
     refine RW.gh (Gh.absorb_rawq (b:=6) (j:=3) (m:=7) rfl rfl rfl (by decide) (by decide) rfl (B9.flen true _) (B9.fown _)) ?_
     refine RW.gh (Gh.blk (b:=6) rfl (Ek B3 e1).symm) ?_;refine RW.ret ?_;cases h26
     exact RRetS.m (Gh.trans (Gh.absorbq (b:=0) (j:=0) (m:=4) rfl rfl rfl (by decide) (by decide) rfl (ekS.flen true _) (ekS.fown _)) (Gh.trans (Gh.absorbq (b:=0) (j:=1) (m:=5) rfl rfl rfl (by decide) (by decide) rfl (B4.flen true _) (B4.fown _)) (Gh.trans (Gh.absorbq (b:=0) (j:=3) (m:=6) rfl rfl rfl (by decide) (by decide) rfl (B3.flen true _) (B3.fown _)) (Gh.rN [0]))))
   ·have h27:=A4 h11 hb;refine rl.done (RW.cond_t rfl (RW.seq ?_))
    refine RW.gh (Gh.absorb_rawq (b:=6) (j:=3) (m:=7) rfl rfl rfl (by decide) (by decide) rfl (B9.flen true _) (B9.fown _)) ?_
    refine RW.gh (Gh.blk (b:=6) rfl (Ek B3 e1).symm) ?_
    refine RW.gh (Gh.absorbq (b:=0) (j:=0) (m:=4) rfl rfl rfl (by decide) (by decide) rfl (ekS.flen true _) (ekS.fown _)) ?_
    refine RW.gh (Gh.absorbq (b:=0) (j:=1) (m:=5) rfl rfl rfl (by decide) (by decide) rfl (B4.flen true _) (B4.fown _)) ?_
    refine RW.gh (Gh.absorbq (b:=0) (j:=3) (m:=6) rfl rfl rfl (by decide) (by decide) rfl (B3.flen true _) (B3.fown _)) ?_
    refine RW.sr 2 rfl ?_;obtain ⟨v11,e11,h28⟩:=A2 h27;refine rl.call rfl rfl rfl (A7.eW (r0:=.bool v11.1) (H':=[some ⟨A9 true v11.2,0⟩,some ⟨A8 false x1,0⟩,some ⟨G6 7 v1,0⟩,some ⟨B5 false v2.1,0⟩,none,none,none,none]) [⟨A9 true x0,0⟩] [⟨A9 true v11.2,0⟩] [0] (Mg e11) ?_)
    cases hb:v11.1
    ·have h29:=A3 h28 hb;refine rl.f 1 rfl ?_
     refine RW.gh (Gh.expose (b:=0) (j:=0) rfl rfl (by decide) (ekS.fown _)) ?_
     refine RW.gh (Gh.expose (b:=0) (j:=1) rfl rfl (by decide) (B4.fown _)) ?_
     refine RW.gh (Gh.expose (b:=0) (j:=3) rfl rfl (by decide) (B3.fown _)) ?_
     refine RW.kp [0,4,7,8,58] [(0,.ptr 0 0),(4,.ptr 1 0),(7,.ptr 2 0),(8,.ptr 3 0),(58,.bool true)] [some ⟨C0 8 9 10 v11.2,0⟩,some ⟨A8 false x1,0⟩,some ⟨G6 7 v1,0⟩,some ⟨B5 false v2.1,0⟩,none,none,none,none,some ⟨fl (encS true) v11.2.Disk.Sectors,1⟩,some ⟨fl (A1 true) v11.2.Disk.Cache,2⟩,some ⟨fl (A6 true) v11.2.Used,4⟩] rfl rfl ?_;refine RW.cond_t rfl (RW.sf 1 rfl (RW.ret ?_));cases h29
     exact RRetS.m (Gh.trans (Gh.absorbq (b:=0) (j:=0) (m:=8) rfl rfl rfl (by decide) (by decide) rfl (ekS.flen true _) (ekS.fown _)) (Gh.trans (Gh.absorbq (b:=0) (j:=1) (m:=9) rfl rfl rfl (by decide) (by decide) rfl (B4.flen true _) (B4.fown _)) (Gh.trans (Gh.absorbq (b:=0) (j:=3) (m:=10) rfl rfl rfl (by decide) (by decide) rfl (B3.flen true _) (B3.fown _)) (Gh.rN [0]))))
    ·have h30:=A4 h28 hb;refine rl.f 1 rfl ?_
     refine RW.gh (Gh.expose (b:=0) (j:=0) rfl rfl (by decide) (ekS.fown _)) ?_
     refine RW.gh (Gh.expose (b:=0) (j:=1) rfl rfl (by decide) (B4.fown _)) ?_
     refine RW.gh (Gh.expose (b:=0) (j:=3) rfl rfl (by decide) (B3.fown _)) ?_
     refine RW.kp [0,4,7,8,58] [(0,.ptr 0 0),(4,.ptr 1 0),(7,.ptr 2 0),(8,.ptr 3 0),(58,.bool false)] [some ⟨C0 8 9 10 v11.2,0⟩,some ⟨A8 false x1,0⟩,some ⟨G6 7 v1,0⟩,some ⟨B5 false v2.1,0⟩,none,none,none,none,some ⟨fl (encS true) v11.2.Disk.Sectors,1⟩,some ⟨fl (A1 true) v11.2.Disk.Cache,2⟩,some ⟨fl (A6 true) v11.2.Used,4⟩] rfl rfl ?_;refine RW.cond_f rfl (RW.skip ?_);obtain ⟨v12,e12,h31⟩:=A2 h30;refine RW.gh (Gh.blk (b:=10) rfl (Ek B3 e12)) ?_
     refine RW.gh (Gh.expose_raw (b:=10) (j:=3) rfl rfl (by decide) (B9.fown _)) ?_
     refine RW.sdrw (A0.op rfl rfl (A0.op rfl rfl (A0.op rfl rfl (A0.op rfl rfl (A0.op rfl rfl (A0.op rfl rfl (A0.op rfl rfl (A0.op rfl rfl (A0.op rfl rfl (A0.op rfl rfl ?_))))))))));refine A0.op rfl (Bl rfl rfl rfl rfl e12) ?_;refine A0.op rfl (Ry (off':=0) (us:=(G6 11 v12)) B3 rfl rfl e12 rfl rfl rfl) ?_;refine A0.chn rfl rfl ?_;refine A0.done ?_;refine RW.kp [0,4,7,8] [(0,.ptr 0 0),(4,.ptr 1 0),(7,.ptr 2 0),(8,.ptr 3 0)] [some ⟨C0 8 9 10 v11.2,0⟩,some ⟨A8 false x1,0⟩,some ⟨G6 11 v12,0⟩,some ⟨B5 false v2.1,0⟩,none,none,none,none,some ⟨fl (encS true) v11.2.Disk.Sectors,1⟩,some ⟨fl (A1 true) v11.2.Disk.Cache,2⟩,some ⟨fl (A6 true) (v11.2.Used.take (w64 ((v11.2.Used.length:Int) - 1)).toNat)++((G6 11 v12)++fl (A6 true) (v11.2.Used.drop ((w64 ((v11.2.Used.length:Int) - 1)).toNat+1))),4⟩,some ⟨fl (A8 true) v12.Items,9⟩] rfl rfl ?_;refine RW.sf 4 rfl (RW.sr 1 rfl ?_);obtain ⟨v13,e13,h32⟩:=A2 h31;refine rl.call rfl rfl rfl (A7.y (r':=.tup [.str v13.1,.bool v13.2]) (U2 e13) ?_);refine rl.f 5 rfl (RW.seq ?_);obtain ⟨y14,ey14,h33⟩:=A2 h32
     refine RW.cutq (σ:=Bool) (fun y14=>[(0,.ptr 0 0),(4,.ptr 1 0),(7,.ptr 2 0),(10,.str v13.1),(88,.bool y14)]) (fun y14=>[some ⟨C0 3 4 5 v11.2,0⟩,some ⟨A8 false x1,0⟩,some ⟨G6 6 v12,0⟩,some ⟨fl (encS true) v11.2.Disk.Sectors,1⟩,some ⟨fl (A1 true) v11.2.Disk.Cache,2⟩,some ⟨fl (A6 true) (v11.2.Used.take (w64 ((v11.2.Used.length:Int) - 1)).toNat)++((G6 6 v12)++fl (A6 true) (v11.2.Used.drop ((w64 ((v11.2.Used.length:Int) - 1)).toNat+1))),4⟩,some ⟨fl (A8 true) v12.Items,9⟩]) (fun y=>y14=y) gg ?_ ?_
     ·refine RW.reg ?_;refine rl.run 3 rfl ?_
      cases hb:(!v13.2)
      ·have h34:=A3 ey14 hb;refine rl.run 5 rfl ?_
       refine rl.gen rfl rfl fun b hb=>?_
       cases b
       ·have h35:=A3 h34 hb;refine rl.f 1 rfl ?_;cases h35
        exact ⟨_,rfl,(Gh.rN [0,1,2,8,9,10,11])⟩
       ·have h36:=A4 h34 hb;refine rl.f 1 rfl ?_;cases h36
        exact ⟨_,rfl,(Gh.rN [0,1,2,8,9,10,11])⟩
      ·have h37:=A4 ey14 hb;refine rl.f 7 rfl ?_;cases h37
       exact ⟨_,rfl,(Gh.rN [0,1,2,8,9,10,11])⟩
     ·intro y hC
      subst hC
      cases hb:y14
      ·have h38:=A3 h33 hb;refine RW.cond_f rfl (RW.skip (RW.sdrw (A0.op rfl rfl (A0.op rfl rfl (A0.op rfl rfl (A0.op rfl rfl (A0.op rfl rfl (A0.op rfl rfl (A0.op rfl rfl (A0.op rfl rfl (A0.op rfl rfl ?_)))))))))));obtain ⟨v15,e15,h39⟩:=A2 h38;refine A0.call rfl rfl rfl (A7.y (r':=.tup [.agg (A5 false v15.1),.bool v15.2]) (K9 e15) ⟨rfl,?_⟩);refine A0.op rfl rfl (A0.op rfl rfl (A0.op rfl rfl ?_));refine A0.chnB rfl rfl (.here (.rx rfl) (.here (.rx rfl) (.here (.rx rfl) (.here (.cl rfl rfl (A7.y (r':=.tup [.agg (A5 false v15.1),.bool v15.2]) (K9 e15) ⟨rfl,rfl⟩)) (.here (.rx rfl) (.here (.rx rfl) (.here (.rx rfl) (.here (.rx rfl) (.here (.rx rfl) (.here (.rx rfl) (.here (.rx rfl) (.here (.rx rfl) (.here (.rx rfl) .nil))))))))))))) ?_;refine A0.chnB rfl rfl (.here (.rx rfl) (.skip rfl (.skip rfl (.skip rfl (.skip rfl (.skip rfl (.skip rfl (.skip rfl (.skip rfl (.skip rfl (.skip rfl (.skip rfl (.skip rfl .nil))))))))))))) ?_;refine A0.op rfl rfl (A0.done ?_);refine RW.kp [0,4,7,10,12,13] [(0,.ptr 0 0),(4,.ptr 1 0),(7,.ptr 2 0),(10,.str v13.1),(12,.ptr 7 0),(13,.bool v15.2)] [some ⟨C0 3 4 5 v11.2,0⟩,some ⟨A8 false x1,0⟩,some ⟨G6 6 v12,0⟩,some ⟨fl (encS true) v11.2.Disk.Sectors,1⟩,some ⟨fl (A1 true) v11.2.Disk.Cache,2⟩,some ⟨fl (A6 true) (v11.2.Used.take (w64 ((v11.2.Used.length:Int) - 1)).toNat)++((G6 6 v12)++fl (A6 true) (v11.2.Used.drop ((w64 ((v11.2.Used.length:Int) - 1)).toNat+1))),4⟩,some ⟨fl (A8 true) v12.Items,9⟩,some ⟨A5 false v15.1,0⟩] rfl rfl ?_;refine RW.seq (RW.sf 2 rfl ?_)
       cases hb:(!v15.2)
       ·have h40:=A3 h39 hb;refine RW.cond_f rfl (RW.skip (RW.sr 2 rfl ?_));obtain ⟨v16,e16,h41⟩:=A2 h40;refine rl.call rfl rfl rfl (A7.z (r':=.agg (C3 8 9 v16)) (H':=[some ⟨C0 3 4 5 v11.2,0⟩,some ⟨A8 false x1,0⟩,some ⟨G6 6 v12,0⟩,some ⟨fl (encS true) v11.2.Disk.Sectors,1⟩,some ⟨fl (A1 true) v11.2.Disk.Cache,2⟩,some ⟨fl (A6 true) (v11.2.Used.take (w64 ((v11.2.Used.length:Int) - 1)).toNat)++((G6 6 v12)++fl (A6 true) (v11.2.Used.drop ((w64 ((v11.2.Used.length:Int) - 1)).toNat+1))),4⟩,some ⟨fl (A8 true) v12.Items,9⟩,some ⟨A5 false v15.1,0⟩,some ⟨fl (encS true) v16.Sectors,1⟩,some ⟨fl (A1 true) v16.Cache,2⟩]) (T2 e16) ?_);refine rl.f 3 rfl (RW.sf 7 rfl ?_);refine RW.kp [0,4,7] [(0,.ptr 0 0),(4,.ptr 1 0),(7,.ptr 2 0)] [some ⟨[.sl 8 0 v16.Sectors.length,.sl 9 0 v16.Cache.length,.j v11.2.Segs,.sl 5 0 v11.2.Used.length,.j v11.2.NextGen,.j v11.2.NextSeq,.j v11.2.Stamp,.j v11.2.NextValid],0⟩,some ⟨A8 false x1,0⟩,some ⟨[.j v12.No,.j v12.Gen,.j (w64 (v12.End+(v13.1.length:Int))),.sl 6 0 v12.Items.length],0⟩,some ⟨fl (encS true) v11.2.Disk.Sectors,1⟩,some ⟨fl (A1 true) v11.2.Disk.Cache,2⟩,some ⟨fl (A6 true) (v11.2.Used.take (w64 ((v11.2.Used.length:Int) - 1)).toNat)++((G6 6 v12)++fl (A6 true) (v11.2.Used.drop ((w64 ((v11.2.Used.length:Int) - 1)).toNat+1))),4⟩,some ⟨fl (A8 true) v12.Items,9⟩,some ⟨A5 false v15.1,0⟩,some ⟨fl (encS true) v16.Sectors,1⟩,some ⟨fl (A1 true) v16.Cache,2⟩] rfl rfl ?_;refine RW.sdrw (A0.op rfl rfl (A0.op rfl rfl (A0.op rfl rfl ?_)));obtain ⟨v17,e17,h42⟩:=A2 h41;refine A0.chn rfl (R5 rfl rfl (Gx (m:=v12.Items) (o:=true) B9 (L2 (m:=v12.Items) (o:=true) M1 rfl rfl) rfl (M1.fst _ _) e17)) ?_;refine A0.opA rfl rfl (.here (.rx rfl) .nil) ?_;refine A0.litA (u:=E6 ([x1]:List TItem)) rfl rfl (Lit.mk rfl rfl) (.here (.lit rfl (Lit.mk rfl rfl)) .nil) ?_;obtain ⟨v18,e18,h43⟩:=A2 h42;refine A0.chn rfl (R5 rfl rfl (Q0 (l:=v17) (m:=([x1]:List TItem)) (o:=true) B9 rfl rfl Bd rfl (M1.fst _ _) e18)) ?_;refine A0.op rfl rfl ?_;refine A0.chn rfl rfl ?_;refine A0.done ?_
        refine RW.gh (Gh.absorb_rawq (b:=5) (j:=3) (m:=6) rfl rfl rfl (by decide) (by decide) rfl (B9.flen true _) (B9.fown _)) ?_
        refine RW.gh (Gh.blk (b:=5) rfl (Ek B3 e12).symm) ?_;refine RW.sdrw (A0.op rfl rfl (A0.op rfl rfl (A0.op rfl rfl (A0.op rfl rfl (A0.op rfl rfl (A0.op rfl rfl (A0.op rfl rfl (A0.op rfl rfl (A0.op rfl rfl (A0.op rfl rfl (A0.op rfl rfl ?_)))))))))));obtain ⟨v19,e19,h44⟩:=A2 h43;refine A0.op rfl (Bl rfl rfl rfl rfl e19) ?_;obtain ⟨v20,e20,h45⟩:=A2 h44;refine A0.chn rfl (A39 (off':=0) B3 e19 rfl rfl rfl rfl rfl rfl rfl rfl) ?_;refine A0.done ?_
        refine RW.gh (Gh.absorb_rawq (b:=5) (j:=3) (m:=11) rfl rfl rfl (by decide) (by decide) rfl (B9.flen true _) (B9.fown _)) ?_
        refine RW.gh (Gh.blk (b:=5) rfl (Wy B3 e19 e20 rfl)) ?_;refine RW.kp [0,4] [(0,.ptr 0 0),(4,.ptr 1 0)] [some ⟨[.sl 8 0 v16.Sectors.length,.sl 9 0 v16.Cache.length,.j v11.2.Segs,.sl 5 0 v11.2.Used.length,.j v11.2.NextGen,.j v11.2.NextSeq,.j v11.2.Stamp,.j v11.2.NextValid],0⟩,some ⟨A8 false x1,0⟩,some ⟨[.j v12.No,.j v12.Gen,.j (w64 (v12.End+(v13.1.length:Int))),.sl 11 0 v18.length],0⟩,some ⟨fl (encS true) v11.2.Disk.Sectors,1⟩,some ⟨fl (A1 true) v11.2.Disk.Cache,2⟩,some ⟨fl (A6 true) v20,4⟩,none,some ⟨A5 false v15.1,0⟩,some ⟨fl (encS true) v16.Sectors,1⟩,some ⟨fl (A1 true) v16.Cache,2⟩,none,none] rfl rfl ?_;refine RW.seq (RW.sdrw (A0.op rfl rfl (A0.op rfl rfl (A0.op rfl rfl (A0.op rfl rfl (A0.op rfl rfl (A0.op rfl rfl ?_)))))))
        refine A0.gen rfl rfl fun b hb=>?_
        cases b
        ·have h46:=A3 h45 hb;refine A0.done (RW.cond_f rfl (RW.skip (RW.seq (RW.sdrw (A0.op rfl rfl (A0.op rfl rfl (A0.op rfl rfl (A0.op rfl rfl (A0.op rfl rfl (A0.op rfl rfl (A0.op rfl rfl ?_)))))))))))
         refine A0.gen rfl rfl fun b hb=>?_
         cases b
         ·have h47:=A3 h46 hb;refine A0.done ?_;refine RW.kp [0,4,155] [(0,.ptr 0 0),(4,.ptr 1 0),(155,.bool false)] [some ⟨[.sl 8 0 v16.Sectors.length,.sl 9 0 v16.Cache.length,.j v11.2.Segs,.sl 5 0 v11.2.Used.length,.j v11.2.NextGen,.j v11.2.NextSeq,.j v11.2.Stamp,.j v11.2.NextValid],0⟩,some ⟨A8 false x1,0⟩,some ⟨[.j v12.No,.j v12.Gen,.j (w64 (v12.End+(v13.1.length:Int))),.sl 11 0 v18.length],0⟩,some ⟨fl (encS true) v11.2.Disk.Sectors,1⟩,some ⟨fl (A1 true) v11.2.Disk.Cache,2⟩,some ⟨fl (A6 true) v20,4⟩,none,some ⟨A5 false v15.1,0⟩,some ⟨fl (encS true) v16.Sectors,1⟩,some ⟨fl (A1 true) v16.Cache,2⟩,none,none] rfl rfl ?_;refine RW.cond_f rfl (RW.skip (RW.sf 1 rfl (RW.ret ?_)));cases h47
          exact RRetS.m (Gh.trans (Gh.absorbq (b:=0) (j:=0) (m:=8) rfl rfl rfl (by decide) (by decide) rfl (ekS.flen true _) (ekS.fown _)) (Gh.trans (Gh.absorbq (b:=0) (j:=1) (m:=9) rfl rfl rfl (by decide) (by decide) rfl (B4.flen true _) (B4.fown _)) (Gh.trans (Gh.absorbq (b:=0) (j:=3) (m:=5) rfl rfl rfl (by decide) (by decide) (Z6 e20) (B3.flen true _) (B3.fown _)) (Gh.rN [0]))))
         ·have h48:=A4 h46 hb;refine A0.done ?_;refine RW.kp [0,4,155] [(0,.ptr 0 0),(4,.ptr 1 0),(155,.bool true)] [some ⟨[.sl 8 0 v16.Sectors.length,.sl 9 0 v16.Cache.length,.j v11.2.Segs,.sl 5 0 v11.2.Used.length,.j v11.2.NextGen,.j v11.2.NextSeq,.j v11.2.Stamp,.j v11.2.NextValid],0⟩,some ⟨A8 false x1,0⟩,some ⟨[.j v12.No,.j v12.Gen,.j (w64 (v12.End+(v13.1.length:Int))),.sl 11 0 v18.length],0⟩,some ⟨fl (encS true) v11.2.Disk.Sectors,1⟩,some ⟨fl (A1 true) v11.2.Disk.Cache,2⟩,some ⟨fl (A6 true) v20,4⟩,none,some ⟨A5 false v15.1,0⟩,some ⟨fl (encS true) v16.Sectors,1⟩,some ⟨fl (A1 true) v16.Cache,2⟩,none,none] rfl rfl ?_;refine RW.cond_t rfl (RW.reg (rl.f 8 rfl (RW.sf 1 rfl (RW.ret ?_))));cases h48
          exact RRetS.m (Gh.trans (Gh.absorbq (b:=0) (j:=0) (m:=8) rfl rfl rfl (by decide) (by decide) rfl (ekS.flen true _) (ekS.fown _)) (Gh.trans (Gh.absorbq (b:=0) (j:=1) (m:=9) rfl rfl rfl (by decide) (by decide) rfl (B4.flen true _) (B4.fown _)) (Gh.trans (Gh.absorbq (b:=0) (j:=3) (m:=5) rfl rfl rfl (by decide) (by decide) (Z6 e20) (B3.flen true _) (B3.fown _)) (Gh.rN [0]))))
        ·have h49:=A4 h45 hb;refine A0.done (RW.cond_t rfl (RW.reg (rl.f 7 rfl (RW.seq (RW.sdrw (A0.op rfl rfl (A0.op rfl rfl (A0.op rfl rfl (A0.op rfl rfl (A0.op rfl rfl ?_))))))))));refine A0.op rfl rfl (A0.op rfl rfl ?_)
         refine A0.gen rfl rfl fun b hb=>?_
         cases b
         ·have h50:=A3 h49 hb;refine A0.done ?_;refine RW.kp [0,4,155] [(0,.ptr 0 0),(4,.ptr 1 0),(155,.bool false)] [some ⟨[.sl 8 0 v16.Sectors.length,.sl 9 0 v16.Cache.length,.j v11.2.Segs,.sl 5 0 v11.2.Used.length,.j v11.2.NextGen,.j (w64 (x1.Seq+1)),.j v11.2.Stamp,.j v11.2.NextValid],0⟩,some ⟨A8 false x1,0⟩,some ⟨[.j v12.No,.j v12.Gen,.j (w64 (v12.End+(v13.1.length:Int))),.sl 11 0 v18.length],0⟩,some ⟨fl (encS true) v11.2.Disk.Sectors,1⟩,some ⟨fl (A1 true) v11.2.Disk.Cache,2⟩,some ⟨fl (A6 true) v20,4⟩,none,some ⟨A5 false v15.1,0⟩,some ⟨fl (encS true) v16.Sectors,1⟩,some ⟨fl (A1 true) v16.Cache,2⟩,none,none] rfl rfl ?_;refine RW.cond_f rfl (RW.skip (RW.sf 1 rfl (RW.ret ?_)));cases h50
          exact RRetS.m (Gh.trans (Gh.absorbq (b:=0) (j:=0) (m:=8) rfl rfl rfl (by decide) (by decide) rfl (ekS.flen true _) (ekS.fown _)) (Gh.trans (Gh.absorbq (b:=0) (j:=1) (m:=9) rfl rfl rfl (by decide) (by decide) rfl (B4.flen true _) (B4.fown _)) (Gh.trans (Gh.absorbq (b:=0) (j:=3) (m:=5) rfl rfl rfl (by decide) (by decide) (Z6 e20) (B3.flen true _) (B3.fown _)) (Gh.rN [0]))))
         ·have h51:=A4 h49 hb;refine A0.done ?_;refine RW.kp [0,4,155] [(0,.ptr 0 0),(4,.ptr 1 0),(155,.bool true)] [some ⟨[.sl 8 0 v16.Sectors.length,.sl 9 0 v16.Cache.length,.j v11.2.Segs,.sl 5 0 v11.2.Used.length,.j v11.2.NextGen,.j (w64 (x1.Seq+1)),.j v11.2.Stamp,.j v11.2.NextValid],0⟩,some ⟨A8 false x1,0⟩,some ⟨[.j v12.No,.j v12.Gen,.j (w64 (v12.End+(v13.1.length:Int))),.sl 11 0 v18.length],0⟩,some ⟨fl (encS true) v11.2.Disk.Sectors,1⟩,some ⟨fl (A1 true) v11.2.Disk.Cache,2⟩,some ⟨fl (A6 true) v20,4⟩,none,some ⟨A5 false v15.1,0⟩,some ⟨fl (encS true) v16.Sectors,1⟩,some ⟨fl (A1 true) v16.Cache,2⟩,none,none] rfl rfl ?_;refine RW.cond_t rfl (RW.reg (rl.f 8 rfl (RW.sf 1 rfl (RW.ret ?_))));cases h51
          exact RRetS.m (Gh.trans (Gh.absorbq (b:=0) (j:=0) (m:=8) rfl rfl rfl (by decide) (by decide) rfl (ekS.flen true _) (ekS.fown _)) (Gh.trans (Gh.absorbq (b:=0) (j:=1) (m:=9) rfl rfl rfl (by decide) (by decide) rfl (B4.flen true _) (B4.fown _)) (Gh.trans (Gh.absorbq (b:=0) (j:=3) (m:=5) rfl rfl rfl (by decide) (by decide) (Z6 e20) (B3.flen true _) (B3.fown _)) (Gh.rN [0]))))
       ·have h52:=A4 h39 hb;refine RW.cond_t rfl (RW.sf 1 rfl ?_)
        refine RW.gh (Gh.absorb_rawq (b:=5) (j:=3) (m:=6) rfl rfl rfl (by decide) (by decide) rfl (B9.flen true _) (B9.fown _)) ?_
        refine RW.gh (Gh.blk (b:=5) rfl (Ek B3 e12).symm) ?_;refine RW.ret ?_;cases h52
        exact RRetS.m (Gh.trans (Gh.absorbq (b:=0) (j:=0) (m:=3) rfl rfl rfl (by decide) (by decide) rfl (ekS.flen true _) (ekS.fown _)) (Gh.trans (Gh.absorbq (b:=0) (j:=1) (m:=4) rfl rfl rfl (by decide) (by decide) rfl (B4.flen true _) (B4.fown _)) (Gh.trans (Gh.absorbq (b:=0) (j:=3) (m:=5) rfl rfl rfl (by decide) (by decide) rfl (B3.flen true _) (B3.fown _)) (Gh.rN [0]))))
      ·have h53:=A4 h33 hb;refine RW.cond_t rfl (RW.sf 1 rfl ?_)
       refine RW.gh (Gh.absorb_rawq (b:=5) (j:=3) (m:=6) rfl rfl rfl (by decide) (by decide) rfl (B9.flen true _) (B9.fown _)) ?_
       refine RW.gh (Gh.blk (b:=5) rfl (Ek B3 e12).symm) ?_;refine RW.ret ?_;cases h53
       exact RRetS.m (Gh.trans (Gh.absorbq (b:=0) (j:=0) (m:=3) rfl rfl rfl (by decide) (by decide) rfl (ekS.flen true _) (ekS.fown _)) (Gh.trans (Gh.absorbq (b:=0) (j:=1) (m:=4) rfl rfl rfl (by decide) (by decide) rfl (B4.flen true _) (B4.fown _)) (Gh.trans (Gh.absorbq (b:=0) (j:=3) (m:=5) rfl rfl rfl (by decide) (by decide) rfl (B3.flen true _) (B3.fown _)) (Gh.rN [0]))))
  ·have h54:=A4 h4 hb;refine RW.cond_t rfl (RW.sf 1 rfl ?_)
   refine RW.gh (Gh.absorb_rawq (b:=6) (j:=3) (m:=7) rfl rfl rfl (by decide) (by decide) rfl (B9.flen true _) (B9.fown _)) ?_
   refine RW.gh (Gh.blk (b:=6) rfl (Ek B3 e1).symm) ?_;refine RW.ret ?_;cases h54
   exact RRetS.m (Gh.trans (Gh.absorbq (b:=0) (j:=0) (m:=4) rfl rfl rfl (by decide) (by decide) rfl (ekS.flen true _) (ekS.fown _)) (Gh.trans (Gh.absorbq (b:=0) (j:=1) (m:=5) rfl rfl rfl (by decide) (by decide) rfl (B4.flen true _) (B4.fown _)) (Gh.trans (Gh.absorbq (b:=0) (j:=3) (m:=6) rfl rfl rfl (by decide) (by decide) rfl (B3.flen true _) (B3.fown _)) (Gh.rN [0]))))
theorem Md {x0:TLog} {x1:TItem} {x2:Int} {r:TLog×Bool} (hF:Bn x0 x1 x2=some r):B2 Tryz.prog 29 [.agg (A9 false x0),.agg (A8 false x1),.j x2] (.tup [.agg (A9 true r.1),.bool r.2]):=by
 refine B2.q Qd ?_;unfold Bn at hF;refine RW.sf 4 rfl (RW.sr 1 rfl ?_);obtain ⟨v1,e1,h1⟩:=A2 hF;refine rl.call rfl rfl rfl (A7.z (r':=.agg (C0 3 4 5 v1)) (H':=[some ⟨A9 false x0,0⟩,some ⟨A8 false x1,0⟩,some ⟨[.nils,.nils,.j 0,.nils,.j 0,.j 0,.j 0,.j 0],0⟩,some ⟨fl (encS true) v1.Disk.Sectors,1⟩,some ⟨fl (A1 true) v1.Disk.Cache,2⟩,some ⟨fl (A6 true) v1.Used,4⟩]) (Y1 e1) ?_);refine rl.f 2 rfl (RW.seq (RW.seq ?_))
 refine RW.gh (Gh.absorbq (b:=6) (j:=0) (m:=3) rfl rfl rfl (by decide) (by decide) rfl (ekS.flen true _) (ekS.fown _)) ?_
 refine RW.gh (Gh.absorbq (b:=6) (j:=1) (m:=4) rfl rfl rfl (by decide) (by decide) rfl (B4.flen true _) (B4.fown _)) ?_
 refine RW.gh (Gh.absorbq (b:=6) (j:=3) (m:=5) rfl rfl rfl (by decide) (by decide) rfl (B3.flen true _) (B3.fown _)) ?_
 refine RW.reg (rl.run 1 rfl ?_);obtain ⟨v2,e2,h2⟩:=A2 h1;refine rl.call rfl rfl rfl (A7.y (r':=.bool v2) (Zn e2) ?_)
 cases hb:v2
 ·have h3:=A3 h2 hb;refine rl.f 17 rfl (RW.cond_t rfl (RW.sr 1 rfl ?_));obtain ⟨v3,e3,h4⟩:=A2 h3;refine rl.call rfl rfl rfl (A7.z (r':=.agg (C0 7 8 9 v3)) (H':=[some ⟨A9 false x0,0⟩,some ⟨A8 false x1,0⟩,some ⟨[.nils,.nils,.j 0,.nils,.j 0,.j 0,.j 0,.j 0],0⟩,none,none,none,some ⟨A9 true v1,0⟩,some ⟨fl (encS true) v3.Disk.Sectors,1⟩,some ⟨fl (A1 true) v3.Disk.Cache,2⟩,some ⟨fl (A6 true) v3.Used,4⟩]) (Y1 e3) ?_);refine rl.f 2 rfl ?_;refine RW.kp [6,7] [(6,.ptr 2 0),(7,.bool false)] [some ⟨A9 false x0,0⟩,some ⟨A8 false x1,0⟩,some ⟨C0 7 8 9 v3,0⟩,none,none,none,some ⟨A9 true v1,0⟩,some ⟨fl (encS true) v3.Disk.Sectors,1⟩,some ⟨fl (A1 true) v3.Disk.Cache,2⟩,some ⟨fl (A6 true) v3.Used,4⟩] rfl rfl ?_;refine RW.ret ?_;cases h4
  exact RRet.y
 ·have h5:=A4 h2 hb;refine rl.run 3 rfl ?_
  refine rl.gen rfl rfl fun b hb=>?_
  cases b
  ·have h6:=A3 h5 hb;refine rl.run 4 rfl ?_;obtain ⟨v4,e4,h7⟩:=A2 h6;refine rl.call rfl rfl rfl (A7.y (r':=.bool v4) (Jj e4) ?_)
   cases hb:v4
   ·have h8:=A3 h7 hb;refine rl.f 8 rfl (RW.cond_t rfl (RW.sr 1 rfl ?_));obtain ⟨v5,e5,h9⟩:=A2 h8;refine rl.call rfl rfl rfl (A7.z (r':=.agg (C0 7 8 9 v5)) (H':=[some ⟨A9 false x0,0⟩,some ⟨A8 false x1,0⟩,some ⟨[.nils,.nils,.j 0,.nils,.j 0,.j 0,.j 0,.j 0],0⟩,none,none,none,some ⟨A9 true v1,0⟩,some ⟨fl (encS true) v5.Disk.Sectors,1⟩,some ⟨fl (A1 true) v5.Disk.Cache,2⟩,some ⟨fl (A6 true) v5.Used,4⟩]) (Y1 e5) ?_);refine rl.f 2 rfl ?_;refine RW.kp [6,7] [(6,.ptr 2 0),(7,.bool false)] [some ⟨A9 false x0,0⟩,some ⟨A8 false x1,0⟩,some ⟨C0 7 8 9 v5,0⟩,none,none,none,some ⟨A9 true v1,0⟩,some ⟨fl (encS true) v5.Disk.Sectors,1⟩,some ⟨fl (A1 true) v5.Disk.Cache,2⟩,some ⟨fl (A6 true) v5.Used,4⟩] rfl rfl ?_;refine RW.ret ?_;cases h9
    exact RRet.y
   ·have h10:=A4 h7 hb;refine rl.run 5 rfl ?_;obtain ⟨v6,e6,h11⟩:=A2 h10;refine rl.call rfl rfl rfl (A7.eW (r0:=.bool v6.1) (H':=[some ⟨A9 false x0,0⟩,some ⟨A8 false x1,0⟩,some ⟨[.nils,.nils,.j 0,.nils,.j 0,.j 0,.j 0,.j 0],0⟩,none,none,none,some ⟨A9 true v6.2,0⟩]) [⟨A9 true v1,0⟩] [⟨A9 true v6.2,0⟩] [6] (Fa e6) ?_)
    cases hb:v6.1
    ·have h12:=A3 h11 hb;refine rl.f 2 rfl ?_
     refine RW.gh (Gh.expose (b:=6) (j:=0) rfl rfl (by decide) (ekS.fown _)) ?_
     refine RW.gh (Gh.expose (b:=6) (j:=1) rfl rfl (by decide) (B4.fown _)) ?_
     refine RW.gh (Gh.expose (b:=6) (j:=3) rfl rfl (by decide) (B3.fown _)) ?_
     refine RW.cond_t rfl (RW.sr 1 rfl ?_);obtain ⟨v7,e7,h13⟩:=A2 h12;refine rl.call rfl rfl rfl (A7.z (r':=.agg (C0 10 11 12 v7)) (H':=[some ⟨A9 false x0,0⟩,some ⟨A8 false x1,0⟩,some ⟨[.nils,.nils,.j 0,.nils,.j 0,.j 0,.j 0,.j 0],0⟩,none,none,none,some ⟨C0 7 8 9 v6.2,0⟩,some ⟨fl (encS true) v6.2.Disk.Sectors,1⟩,some ⟨fl (A1 true) v6.2.Disk.Cache,2⟩,some ⟨fl (A6 true) v6.2.Used,4⟩,some ⟨fl (encS true) v7.Disk.Sectors,1⟩,some ⟨fl (A1 true) v7.Disk.Cache,2⟩,some ⟨fl (A6 true) v7.Used,4⟩]) (Y1 e7) ?_);refine rl.f 2 rfl ?_;refine RW.kp [6,7] [(6,.ptr 2 0),(7,.bool false)] [some ⟨A9 false x0,0⟩,some ⟨A8 false x1,0⟩,some ⟨C0 10 11 12 v7,0⟩,none,none,none,some ⟨C0 7 8 9 v6.2,0⟩,some ⟨fl (encS true) v6.2.Disk.Sectors,1⟩,some ⟨fl (A1 true) v6.2.Disk.Cache,2⟩,some ⟨fl (A6 true) v6.2.Used,4⟩,some ⟨fl (encS true) v7.Disk.Sectors,1⟩,some ⟨fl (A1 true) v7.Disk.Cache,2⟩,some ⟨fl (A6 true) v7.Used,4⟩] rfl rfl ?_;refine RW.ret ?_;cases h13
     exact RRet.y
    ·have h14:=A4 h11 hb;refine rl.f 2 rfl ?_
     refine RW.gh (Gh.expose (b:=6) (j:=0) rfl rfl (by decide) (ekS.fown _)) ?_
     refine RW.gh (Gh.expose (b:=6) (j:=1) rfl rfl (by decide) (B4.fown _)) ?_
     refine RW.gh (Gh.expose (b:=6) (j:=3) rfl rfl (by decide) (B3.fown _)) ?_
     refine RW.cond_f rfl (RW.skip (RW.sf 3 rfl ?_));refine RW.kp [6,7] [(6,.ptr 2 0),(7,.bool true)] [some ⟨A9 false x0,0⟩,some ⟨A8 false x1,0⟩,some ⟨C0 7 8 9 v6.2,0⟩,none,none,none,some ⟨C0 7 8 9 v6.2,0⟩,some ⟨fl (encS true) v6.2.Disk.Sectors,1⟩,some ⟨fl (A1 true) v6.2.Disk.Cache,2⟩,some ⟨fl (A6 true) v6.2.Used,4⟩] rfl rfl ?_;refine RW.ret ?_;cases h14
     exact RRet.y
  ·have h15:=A4 h5 hb;refine rl.f 13 rfl (RW.cond_t rfl (RW.sr 1 rfl ?_));obtain ⟨v8,e8,h16⟩:=A2 h15;refine rl.call rfl rfl rfl (A7.z (r':=.agg (C0 7 8 9 v8)) (H':=[some ⟨A9 false x0,0⟩,some ⟨A8 false x1,0⟩,some ⟨[.nils,.nils,.j 0,.nils,.j 0,.j 0,.j 0,.j 0],0⟩,none,none,none,some ⟨A9 true v1,0⟩,some ⟨fl (encS true) v8.Disk.Sectors,1⟩,some ⟨fl (A1 true) v8.Disk.Cache,2⟩,some ⟨fl (A6 true) v8.Used,4⟩]) (Y1 e8) ?_);refine rl.f 2 rfl ?_;refine RW.kp [6,7] [(6,.ptr 2 0),(7,.bool false)] [some ⟨A9 false x0,0⟩,some ⟨A8 false x1,0⟩,some ⟨C0 7 8 9 v8,0⟩,none,none,none,some ⟨A9 true v1,0⟩,some ⟨fl (encS true) v8.Disk.Sectors,1⟩,some ⟨fl (A1 true) v8.Disk.Cache,2⟩,some ⟨fl (A6 true) v8.Used,4⟩] rfl rfl ?_;refine RW.ret ?_;cases h16
   exact RRet.y
theorem Pa {x0:TLog} {x1:TRec} {x2:Int} {r:TLog×Bool} (hF:W8 x0 x1 x2=some r):B2 Tryz.prog 25 [.agg (A9 false x0),.agg (C6 false x1),.j x2] (.tup [.agg (A9 true r.1),.bool r.2]):=by
 refine B2.q Tf ?_;unfold W8 at hF;refine RW.sf 4 rfl (RW.sr 6 rfl ?_);obtain ⟨v1,e1,h1⟩:=A2 hF;refine rl.call rfl rfl rfl (A7.z (r':=.tup [.agg (C0 3 4 5 v1.1),.bool v1.2]) (H':=[some ⟨A9 false x0,0⟩,some ⟨C6 false x1,0⟩,some ⟨[.nils,.nils,.j 0,.nils,.j 0,.j 0,.j 0,.j 0],0⟩,some ⟨fl (encS true) v1.1.Disk.Sectors,1⟩,some ⟨fl (A1 true) v1.1.Disk.Cache,2⟩,some ⟨fl (A6 true) v1.1.Used,4⟩]) (Md e1) ?_);refine rl.f 4 rfl ?_;refine RW.kp [6,7] [(6,.ptr 2 0),(7,.bool v1.2)] [some ⟨A9 false x0,0⟩,some ⟨C6 false x1,0⟩,some ⟨C0 3 4 5 v1.1,0⟩,some ⟨fl (encS true) v1.1.Disk.Sectors,1⟩,some ⟨fl (A1 true) v1.1.Disk.Cache,2⟩,some ⟨fl (A6 true) v1.1.Used,4⟩] rfl rfl ?_;refine RW.ret ?_;cases h1
 exact RRet.y
theorem Pw {x0:List (List UInt8)} {x1:List (List UInt8)} {r:Bool} (hF:X6 x0 x1=some r):B2 Tryz.prog 76 [L_S x0,L_S x1] (.bool r):=by
 refine B2.q Vd ?_;unfold X6 at hF;refine RW.sf 1 rfl (RW.seq (RW.sr 4 rfl ?_))
 refine rl.gen rfl rfl fun b hb=>?_
 cases b
 ·have h1:=A3 hF hb;refine rl.done (RW.cond_f rfl (RW.skip (RW.seq (RW.sf 1 rfl ?_))));obtain ⟨y5,ey5,h3⟩:=A2 h1
  refine RW.cutq (σ:=Unit) (fun y2=>[]) (fun y2=>[]) (fun y=>y5=.inr y) gg ?_ ?_
  ·refine RW.blk ?_
   refine RW.iter (σ:=Int) ey5 (fun s1=>[(0,L_S x0),(1,L_S x1),(5,.j s1)]) (fun s1=>[]) (Gh.y0 []) (fun s1 B o hS2 hB2 hE2=>?_)
   unfold Am at hS2;refine RW.seq (RW.sr 3 rfl ?_)
   refine rl.gen rfl rfl fun b hb=>?_
   cases b
   ·have h4:=A3 hS2 hb;refine rl.done (RW.cond_f rfl (RW.exit (C7 ?_)));cases h4
    exact ⟨_,(hE2 _ rfl).symm,(Gh.y0 [])⟩
   ·have h5:=A4 hS2 hb;refine rl.done (RW.cond_t rfl (RW.skip (RW.seq (RW.blk (RW.sdrw (A0.op rfl rfl (A0.op rfl rfl ?_)))))));obtain ⟨v3,e3,h6⟩:=A2 h5;refine A0.op rfl (B8 (enc:=encS) (o:=false) rfl rfl rfl e3) ?_;refine A0.op rfl (E2 (off':=0) ekS rfl e3 rfl rfl rfl) ?_;refine A0.op rfl rfl (A0.op rfl rfl ?_);obtain ⟨v4,e4,h7⟩:=A2 h6;refine A0.op rfl (B8 (enc:=encS) (o:=false) rfl rfl rfl e4) ?_;refine A0.op rfl (E2 (off':=0) ekS rfl e4 rfl rfl rfl) ?_
    refine A0.gen rfl rfl fun b hb=>?_
    cases b
    ·have h8:=A3 h7 hb;refine A0.done ?_;refine RW.kp [0,1,5,25] [(0,L_S x0),(1,L_S x1),(5,.j s1),(25,.bool false)] [] rfl rfl ?_;refine RW.cond_f rfl (RW.skip (RW.reg (rl.f 3 rfl ?_)));cases h8
     exact hB2 _ rfl _ _ (Gh.y0 [])
    ·have h9:=A4 h7 hb;refine A0.done ?_;refine RW.kp [0,1,5,25] [(0,L_S x0),(1,L_S x1),(5,.j s1),(25,.bool true)] [] rfl rfl ?_;refine RW.cond_t rfl (RW.sf 1 rfl (RW.ret ?_));cases h9;have h10:=elimL h3 (hE2 _ rfl);cases h10
     exact RRet.y
  ·intro y2 hC
   have h3:=elimR h3 hC;refine RW.sf 1 rfl (RW.ret ?_);cases h3
   exact RRet.y
 ·have h11:=A4 hF hb;refine rl.done (RW.cond_t rfl (RW.sf 1 rfl (RW.ret ?_)));cases h11
  exact RRet.y
theorem Qp {x0:TDisk} {x1:TDisk} {r:Bool} (hF:Aw x0 x1=some r):B2 Tryz.prog 26 [.agg (A5 false x0),.agg (A5 false x1)] (.bool r):=by
 refine B2.q Wo ?_;unfold Aw at hF;refine RW.sf 3 rfl (RW.seq (RW.seq ?_));obtain ⟨y1,ey1,h1⟩:=A2 hF
 refine RW.cutq (σ:=Bool) (fun y1=>[(2,.ptr 0 0),(3,.ptr 1 0),(20,.bool y1)]) (fun y1=>[some ⟨A5 false x0,0⟩,some ⟨A5 false x1,0⟩]) (fun y=>y1=y) gg ?_ ?_
 ·refine RW.reg ?_;refine rl.run 4 rfl ?_;obtain ⟨v2,e2,h2⟩:=A2 ey1;refine rl.call rfl rfl rfl (A7.y (r':=.bool v2) (Pw e2) ?_)
  cases hb:v2
  ·have h3:=A3 h2 hb;refine rl.f 10 rfl ?_;cases h3
   exact ⟨_,rfl,(Gh.y0 [0,1])⟩
  ·have h4:=A4 h2 hb;refine rl.run 8 rfl ?_
   refine rl.gen rfl rfl fun b hb=>?_
   cases b
   ·have h5:=A3 h4 hb;refine rl.f 1 rfl ?_;cases h5
    exact ⟨_,rfl,(Gh.y0 [0,1])⟩
   ·have h6:=A4 h4 hb;refine rl.f 1 rfl ?_;cases h6
    exact ⟨_,rfl,(Gh.y0 [0,1])⟩
 ·intro y hC
  subst hC
  cases hb:y1
  ·have h7:=A3 h1 hb;refine RW.cond_f rfl (RW.skip (RW.seq (RW.sf 1 rfl ?_)));obtain ⟨y7,ey7,h9⟩:=A2 h7
   refine RW.cutq (σ:=Unit) (fun y4=>[]) (fun y4=>[]) (fun y=>y7=.inr y) gg ?_ ?_
   ·refine RW.blk ?_
    refine RW.iter (σ:=Int) ey7 (fun s3=>[(2,.ptr 0 0),(3,.ptr 1 0),(5,.j s3)]) (fun s3=>[some ⟨A5 false x0,0⟩,some ⟨A5 false x1,0⟩]) (Gh.y0 [0,1]) (fun s3 B o hS8 hB8 hE8=>?_)
    unfold Bj at hS8;refine RW.seq (RW.sr 4 rfl ?_)
    refine rl.gen rfl rfl fun b hb=>?_
    cases b
    ·have h10:=A3 hS8 hb;refine rl.done (RW.cond_f rfl (RW.exit (C7 ?_)));cases h10
     exact ⟨_,(hE8 _ rfl).symm,(Gh.y0 [])⟩
    ·have h11:=A4 hS8 hb;refine rl.done (RW.cond_t rfl (RW.skip (RW.seq (RW.blk (RW.sdrw (A0.op rfl rfl (A0.op rfl rfl (A0.op rfl rfl ?_))))))));obtain ⟨v5,e5,h12⟩:=A2 h11;refine A0.op rfl (B8 (enc:=A1) (o:=false) rfl rfl rfl e5) ?_;refine A0.op rfl (F6 (off':=0) (vs:=(A1 false v5)) B4 rfl e5 rfl rfl rfl) ?_;refine A0.op rfl rfl (A0.op rfl rfl (A0.op rfl rfl ?_));obtain ⟨v6,e6,h13⟩:=A2 h12;refine A0.op rfl (B8 (enc:=A1) (o:=false) rfl rfl rfl e6) ?_;refine A0.op rfl (F6 (off':=0) (vs:=(A1 false v6)) B4 rfl e6 rfl rfl rfl) ?_
     refine A0.gen rfl rfl fun b hb=>?_
     cases b
     ·have h14:=A3 h13 hb;refine A0.done ?_;refine RW.kp [2,3,5,38] [(2,.ptr 0 0),(3,.ptr 1 0),(5,.j s3),(38,.bool false)] [some ⟨A5 false x0,0⟩,some ⟨A5 false x1,0⟩] rfl rfl ?_;refine RW.cond_f rfl (RW.skip (RW.reg (rl.f 3 rfl ?_)));cases h14
      exact hB8 _ rfl _ _ (Gh.y0 [0,1])
     ·have h15:=A4 h13 hb;refine A0.done ?_;refine RW.kp [2,3,5,38] [(2,.ptr 0 0),(3,.ptr 1 0),(5,.j s3),(38,.bool true)] [some ⟨A5 false x0,0⟩,some ⟨A5 false x1,0⟩] rfl rfl ?_;refine RW.cond_t rfl (RW.sf 1 rfl (RW.ret ?_));cases h15;have h16:=elimL h9 (hE8 _ rfl);cases h16
      exact RRet.y
   ·intro y4 hC
    have h9:=elimR h9 hC;refine RW.sf 1 rfl (RW.ret ?_);cases h9
    exact RRet.y
  ·have h17:=A4 h1 hb;refine RW.cond_t rfl (RW.sf 1 rfl (RW.ret ?_));cases h17
   exact RRet.y
theorem A1z {x0:List Int} {r:Bool} (hF:Dy x0=some r):B2 Tryz.prog 8 [L_B x0] (.bool r):=by
 refine B2.q A4f ?_;unfold Dy at hF;refine RW.sf 1 rfl (RW.sf 4 rfl (RW.ret ?_));cases hF
 exact RRet.y
theorem Tx {x0:Int} {x1:Int} {r:List UInt8} (hF:Er x0 x1=some r):B2 Tryz.prog 140 [.j x0,.int .u8 x1] (.str r):=by
 refine B2.q Zk ?_;unfold Er at hF;refine RW.sf 1 rfl (RW.sr 1 rfl ?_);obtain ⟨v1,e1,h1⟩:=A2 hF;refine rl.op (x_ms ekB rfl rfl e1 rfl) ?_;refine rl.f 1 rfl (RW.seq (RW.sf 1 rfl ?_));obtain ⟨y6,ey6,h3⟩:=A2 h1
 refine RW.cutq (σ:=(List Int)) (fun y3=>[(5,.sl 0 0 y3.length)]) (fun y3=>[some ⟨fl (encB true) y3,1⟩]) (fun y=>y6=y) gg ?_ ?_
 ·refine RW.blk ?_
  refine RW.iter (σ:=Int×(List Int)) ey6 (fun s2=>[(0,.j x0),(1,.int .u8 x1),(5,.sl 0 0 s2.2.length),(6,.j s2.1)]) (fun s2=>[some ⟨fl (encB true) s2.2,1⟩]) (Gh.y0 [0]) (fun s2 B o hS2 hB2 hE2=>?_)
  unfold Z3 at hS2;refine RW.seq (RW.sr 2 rfl ?_)
  refine rl.gen rfl rfl fun b hb=>?_
  cases b
  ·have h4:=A3 hS2 hb;refine rl.done (RW.cond_f rfl (RW.exit (C7 ?_)));cases h4
   exact ⟨_,(hE2 _ rfl).symm,(Gh.y0 [0])⟩
  ·have h5:=A4 hS2 hb;refine rl.done (RW.cond_t rfl (RW.skip (RW.seq (RW.blk (RW.reg (rl.run 3 rfl ?_))))));obtain ⟨v4,e4,h6⟩:=A2 h5;refine rl.op (Bl rfl rfl rfl rfl e4) ?_;obtain ⟨v5,e5,h7⟩:=A2 h6;refine rl.op0 (Yr (off':=0) (o:=true) (e':=x1) ekB e4 rfl rfl rfl rfl rfl rfl rfl rfl rfl e5) ?_;refine rl.done (RW.reg (rl.f 3 rfl ?_));cases h7
   exact hB2 _ rfl _ _ (Gh.ren0 [0] (.same rfl (ekB.fref _ _) .nil) rfl (.i rfl (.i rfl (.cons rfl (.slq rfl (Z6 e5)) (.i rfl .nil)))))
 ·intro y3 hC
  subst hC;refine RW.sr 1 rfl ?_;refine rl.op (Gs (o:=true) (l:=y6) rfl rfl) ?_;refine rl.f 1 rfl (RW.ret ?_);cases h3
  exact RRet.y
theorem Rz  {r:List UInt8} (hF:Bx  = some r):B2 Tryz.prog 158 [] (.str r):=by
 refine B2.q Zo ?_;unfold Bx at hF;refine RW.sf 1 rfl (RW.sreg ?_);obtain ⟨v1,e1,h1⟩:=A2 hF;refine rl.call rfl rfl rfl (A7.y (r':=.str v1) (Tx e1) ?_);refine rl.f 1 rfl (RW.ret ?_);cases h1
 exact RRet.y
theorem Uh {x0:Int} {r:TDisk×Bool} (hF:Bz x0=some r):B2 Tryz.prog 163 [.j x0] (.tup [.agg (A5 true r.1),.bool r.2]):=by
 refine B2.q Ym ?_;unfold Bz at hF;refine RW.sf 2 rfl (RW.seq (RW.sr 1 rfl ?_));obtain ⟨v1,e1,h1⟩:=A2 hF;refine rl.call rfl rfl rfl (A7.y (r':=.bool v1) (B6 e1) ?_)
 cases hb:v1
 ·have h2:=A3 h1 hb;refine rl.f 1 rfl (RW.cond_t rfl (RW.sf 3 rfl (RW.ret ?_)));cases h2
  exact RRet.y
 ·have h3:=A4 h1 hb;refine rl.f 1 rfl (RW.cond_f rfl (RW.skip (RW.sf 3 rfl (RW.seq (RW.sf 1 rfl ?_)))));refine RW.gh (Gh.nil_c 1 0 1 rfl rfl) ?_;obtain ⟨y6,ey6,h5⟩:=A2 h3
  refine RW.cutq (σ:=(List (List UInt8))) (fun y3=>[(2,.ptr 0 0),(4,.ptr 1 0)]) (fun y3=>[some ⟨[.nils,.nils],0⟩,some ⟨[.sl 2 0 y3.length,.nils],0⟩,some ⟨fl (encS true) y3,1⟩]) (fun y=>y6=y) gg ?_ ?_
  ·refine RW.blk ?_
   refine RW.iter (σ:=Int×(List (List UInt8))) ey6 (fun s2=>[(0,.j x0),(2,.ptr 0 0),(4,.ptr 1 0),(5,.j s2.1)]) (fun s2=>[some ⟨[.nils,.nils],0⟩,some ⟨[.sl 2 0 s2.2.length,.nils],0⟩,some ⟨fl (encS true) s2.2,1⟩]) (Gh.y0 [0,1,2]) (fun s2 B o hS4 hB4 hE4=>?_)
   unfold Cn at hS4;refine RW.seq (RW.sr 2 rfl ?_)
   refine rl.gen rfl rfl fun b hb=>?_
   cases b
   ·have h6:=A3 hS4 hb;refine rl.done (RW.cond_f rfl (RW.exit (C7 ?_)));cases h6
    exact ⟨_,(hE4 _ rfl).symm,(Gh.y0 [0,1,2])⟩
   ·have h7:=A4 hS4 hb;refine rl.done (RW.cond_t rfl (RW.skip (RW.seq (RW.blk (RW.drw (A0.op rfl rfl (A0.op rfl rfl ?_)))))));obtain ⟨v4,e4,h8⟩:=A2 h7;refine A0.call rfl rfl rfl (A7.y (r':=.str v4) (Rz e4) ⟨rfl,?_⟩);refine A0.chnB rfl rfl (.skip rfl (.here (.rx rfl) (.here (.rx rfl) .nil))) ?_;obtain ⟨v5,e5,h9⟩:=A2 h8;refine A0.chn rfl (R5 rfl rfl (Q0 (l:=s2.2) (m:=[v4]) (o:=true) ekS rfl rfl (L2 (m:=[v4]) (o:=true) fkS rfl rfl) rfl (fkS.fst _ _) e5)) ?_;refine A0.op rfl rfl ?_;refine A0.chn rfl rfl ?_;refine A0.done (RW.reg (rl.f 3 rfl ?_));cases h9
    exact hB4 _ rfl _ _ (Gh.y0 [0,1,4])
  ·intro y3 hC
   subst hC;refine RW.sf 3 rfl (RW.ret ?_);cases h5
   exact RRet.y
theorem Td {x0:TLog} {r:TCheck} (hF:Y6 x0=some r):B2 Tryz.prog 20 [.agg (A9 false x0)] (.agg (G5 true r)):=by
 refine B2.q Yi ?_;unfold Y6 at hF;refine RW.sf 2 rfl (RW.sf 12 rfl ?_);refine RW.kp [1,2,3] [(1,.ptr 0 0),(2,.ptr 1 0),(3,.ptr 2 0)] [some ⟨A9 false x0,0⟩,some ⟨[.j 0,.j 0,.j 0,.j 0,.nils],0⟩,some ⟨[.j (w64 (x0.Stamp+1)),.j x0.NextGen,.j x0.NextSeq,.j x0.NextValid,.nils],0⟩] rfl rfl ?_;refine RW.seq (RW.sf 1 rfl ?_);refine RW.gh (Gh.nil_c 2 4 2 rfl rfl) ?_;obtain ⟨y6,ey6,h2⟩:=A2 hF
 refine RW.cutq (σ:=(List TRef)) (fun y2=>[(2,.ptr 0 0),(3,.ptr 1 0)]) (fun y2=>[some ⟨[.j 0,.j 0,.j 0,.j 0,.nils],0⟩,some ⟨[.j (w64 (x0.Stamp+1)),.j x0.NextGen,.j x0.NextSeq,.j x0.NextValid,.sl 2 0 y2.length],0⟩,some ⟨fl (M9 true) y2,2⟩]) (fun y=>y6=y) gg ?_ ?_
 ·refine RW.blk ?_
  refine RW.iter (σ:=Int×(List TRef)) ey6 (fun s1=>[(1,.ptr 0 0),(2,.ptr 1 0),(3,.ptr 2 0),(4,.j s1.1)]) (fun s1=>[some ⟨A9 false x0,0⟩,some ⟨[.j 0,.j 0,.j 0,.j 0,.nils],0⟩,some ⟨[.j (w64 (x0.Stamp+1)),.j x0.NextGen,.j x0.NextSeq,.j x0.NextValid,.sl 3 0 s1.2.length],0⟩,some ⟨fl (M9 true) s1.2,2⟩]) (Gh.y0 [0,1,2,3]) (fun s1 B o hS1 hB1 hE1=>?_)
  unfold Cy at hS1;refine RW.seq (RW.sr 4 rfl ?_)
  refine rl.gen rfl rfl fun b hb=>?_
  cases b
  ·have h3:=A3 hS1 hb;refine rl.done (RW.cond_f rfl (RW.exit (C7 ?_)));cases h3
   exact ⟨_,(hE1 _ rfl).symm,(Gh.y0 [1,2,3])⟩
  ·have h4:=A4 hS1 hb;refine rl.done (RW.cond_t rfl (RW.skip (RW.seq (RW.blk (RW.drw (A0.op rfl rfl (A0.op rfl rfl (A0.op rfl rfl (A0.op rfl rfl (A0.op rfl rfl ?_))))))))));obtain ⟨v3,e3,h5⟩:=A2 h4;refine A0.op rfl (B8 (enc:=A6) (o:=false) rfl rfl rfl e3) ?_;refine A0.op rfl rfl ?_;refine A0.op rfl (E2 (off':=0) B3 rfl e3 rfl rfl rfl) ?_;refine A0.op rfl rfl (A0.op rfl rfl (A0.op rfl rfl ?_));obtain ⟨v4,e4,h6⟩:=A2 h5;refine A0.op rfl (B8 (enc:=A6) (o:=false) rfl rfl rfl e4) ?_;refine A0.op rfl rfl ?_;refine A0.op rfl (E2 (off':=1) B3 rfl e4 rfl rfl rfl) ?_;refine A0.op rfl rfl ?_;refine A0.chnB rfl rfl (.skip rfl (.skip rfl (.skip rfl (.skip rfl (.skip rfl (.skip rfl (.skip rfl (.skip rfl (.skip rfl (.skip rfl (.skip rfl (.skip rfl (.skip rfl (.here (.rx rfl) (.here (.rx rfl) .nil))))))))))))))) ?_;obtain ⟨v5,e5,h7⟩:=A2 h6;refine A0.chn rfl (R5 rfl rfl (Q0 (l:=s1.2) (m:=[({ No:=v3.No,Gen:=v4.Gen }:TRef)]) (o:=true) Fq rfl rfl (L2 (m:=[({ No:=v3.No,Gen:=v4.Gen }:TRef)]) (o:=true) A2e rfl rfl) rfl (A2e.fst _ _) e5)) ?_;refine A0.op rfl rfl ?_;refine A0.chn rfl rfl ?_;refine A0.done (RW.reg (rl.f 3 rfl ?_));cases h7
   exact hB1 _ rfl _ _ (Gh.y0 [0,1,2,5])
 ·intro y2 hC
  subst hC;refine RW.sf 2 rfl (RW.ret ?_);cases h2
  exact RRet.y
theorem Uv {x0:TCheck} {r:Bool} (hF:Bs x0=some r):B2 Tryz.prog 45 [.agg (G5 false x0)] (.bool r):=by
 refine B2.q A08 ?_;unfold Bs at hF;refine RW.sf 2 rfl (RW.seq (RW.seq ?_));obtain ⟨y1,ey1,h1⟩:=A2 hF
 refine RW.cutq (σ:=Bool) (fun y1=>[(1,.ptr 0 0),(34,.bool y1)]) (fun y1=>[some ⟨G5 false x0,0⟩]) (fun y=>y1=y) gg ?_ ?_
 ·refine RW.reg ?_;refine rl.run 2 rfl ?_;obtain ⟨v2,e2,h2⟩:=A2 ey1;refine rl.call rfl rfl rfl (A7.y (r':=.bool v2) (B6 e2) ?_)
  cases hb:v2
  ·have h3:=A3 h2 hb;refine rl.f 26 rfl ?_;cases h3
   exact ⟨_,rfl,(Gh.y0 [0])⟩
  ·have h4:=A4 h2 hb;refine rl.run 4 rfl ?_;obtain ⟨v3,e3,h5⟩:=A2 h4;refine rl.call rfl rfl rfl (A7.y (r':=.bool v3) (B6 e3) ?_)
   cases hb:v3
   ·have h6:=A3 h5 hb;refine rl.f 21 rfl ?_;cases h6
    exact ⟨_,rfl,(Gh.y0 [0])⟩
   ·have h7:=A4 h5 hb;refine rl.run 5 rfl ?_;obtain ⟨v4,e4,h8⟩:=A2 h7;refine rl.call rfl rfl rfl (A7.y (r':=.bool v4) (B6 e4) ?_)
    cases hb:v4
    ·have h9:=A3 h8 hb;refine rl.f 15 rfl ?_;cases h9
     exact ⟨_,rfl,(Gh.y0 [0])⟩
    ·have h10:=A4 h8 hb;refine rl.run 5 rfl ?_;obtain ⟨v5,e5,h11⟩:=A2 h10;refine rl.call rfl rfl rfl (A7.y (r':=.bool v5) (B6 e5) ?_)
     cases hb:v5
     ·have h12:=A3 h11 hb;refine rl.f 9 rfl ?_;cases h12
      exact ⟨_,rfl,(Gh.y0 [0])⟩
     ·have h13:=A4 h11 hb;refine rl.run 6 rfl ?_;obtain ⟨v6,e6,h14⟩:=A2 h13;refine rl.call rfl rfl rfl (A7.y (r':=.bool v6) (B6 e6) ?_)
      cases hb:v6
      ·have h15:=A3 h14 hb;refine rl.f 2 rfl ?_;cases h15
       exact ⟨_,rfl,(Gh.y0 [0])⟩
      ·have h16:=A4 h14 hb;refine rl.f 2 rfl ?_;cases h16
       exact ⟨_,rfl,(Gh.y0 [0])⟩
 ·intro y hC
  subst hC
  cases hb:y1
  ·have h17:=A3 h1 hb;refine RW.cond_f rfl (RW.skip (RW.seq (RW.sf 1 rfl ?_)));obtain ⟨y18,ey18,h19⟩:=A2 h17
   refine RW.cutq (σ:=Unit) (fun y8=>[]) (fun y8=>[]) (fun y=>y18=.inr y) gg ?_ ?_
   ·refine RW.blk ?_
    refine RW.iter (σ:=Int) ey18 (fun s7=>[(1,.ptr 0 0),(3,.j s7)]) (fun s7=>[some ⟨G5 false x0,0⟩]) (Gh.y0 [0]) (fun s7 B o hS18 hB18 hE18=>?_)
    unfold Z0 at hS18;refine RW.seq (RW.sr 4 rfl ?_)
    refine rl.gen rfl rfl fun b hb=>?_
    cases b
    ·have h20:=A3 hS18 hb;refine rl.done (RW.cond_f rfl (RW.exit (C7 ?_)));cases h20
     exact ⟨_,(hE18 _ rfl).symm,(Gh.y0 [])⟩
    ·have h21:=A4 hS18 hb;refine rl.done (RW.cond_t rfl (RW.skip (RW.seq (RW.blk (RW.sr 3 rfl ?_)))));obtain ⟨v9,e9,h22⟩:=A2 h21;refine rl.op (B8 (enc:=M9) (o:=false) rfl rfl rfl e9) ?_;refine rl.op (F6 (off':=0) (vs:=(M9 false v9)) Fq rfl e9 rfl rfl rfl) ?_;refine rl.f 2 rfl (RW.seq (RW.seq ?_));obtain ⟨y10,ey10,h23⟩:=A2 h22
     refine RW.cutq (σ:=Bool) (fun y10=>[(1,.ptr 0 0),(3,.j s7),(4,.ptr 1 0),(75,.bool y10)]) (fun y10=>[some ⟨G5 false x0,0⟩,some ⟨M9 false v9,0⟩]) (fun y=>y10=y) gg ?_ ?_
     ·refine RW.drw ?_;refine A0.op rfl rfl (A0.op rfl rfl ?_);obtain ⟨v11,e11,h24⟩:=A2 ey10;refine A0.call rfl rfl rfl (A7.y (r':=.bool v11) (B6 e11) ⟨rfl,?_⟩)
      cases hb:v11
      ·have h25:=A3 h24 hb;refine A0.op rfl rfl (A0.op rfl rfl (A0.off rfl (A0.off rfl (A0.off rfl (A0.off rfl (A0.off rfl (A0.off rfl (A0.off rfl (A0.op rfl rfl (A0.op rfl rfl (A0.off rfl ?_)))))))))));refine A0.off rfl (A0.off rfl (A0.off rfl (A0.off rfl (A0.off rfl (A0.off rfl (A0.off rfl (A0.off rfl (A0.off rfl (A0.off rfl (A0.off rfl (A0.off rfl ?_)))))))))));refine A0.off rfl (A0.op rfl rfl (A0.done ?_));cases h25
       exact ⟨_,rfl,(Gh.y0 [0,1])⟩
      ·have h26:=A4 h24 hb;refine A0.op rfl rfl (A0.op rfl rfl (A0.op rfl rfl (A0.op rfl rfl (A0.op rfl rfl (A0.op rfl rfl (A0.op rfl rfl ?_))))));obtain ⟨v12,e12,h27⟩:=A2 h26;refine A0.call rfl rfl rfl (A7.y (r':=.bool v12) (B6 e12) ⟨rfl,?_⟩)
       cases hb:v12
       ·have h28:=A3 h27 hb;refine A0.op rfl rfl (A0.op rfl rfl (A0.op rfl rfl (A0.off rfl (A0.off rfl (A0.off rfl (A0.off rfl (A0.off rfl (A0.off rfl (A0.off rfl (A0.off rfl (A0.off rfl ?_)))))))))));refine A0.off rfl (A0.off rfl (A0.off rfl (A0.off rfl (A0.off rfl (A0.op rfl rfl (A0.done ?_))))));cases h28
        exact ⟨_,rfl,(Gh.y0 [0,1])⟩
       ·have h29:=A4 h27 hb;refine A0.op rfl rfl (A0.op rfl rfl (A0.op rfl rfl (A0.op rfl rfl ?_)))
        refine A0.gen rfl rfl fun b hb=>?_
        cases b
        ·have h30:=A3 h29 hb;refine A0.op rfl rfl (A0.off rfl (A0.off rfl (A0.off rfl (A0.off rfl (A0.off rfl (A0.off rfl (A0.off rfl (A0.off rfl (A0.off rfl (A0.off rfl (A0.op rfl rfl ?_)))))))))));refine A0.op rfl rfl (A0.done ?_);cases h30
         exact ⟨_,rfl,(Gh.y0 [0,1])⟩
        ·have h31:=A4 h29 hb;refine A0.op rfl rfl (A0.op rfl rfl (A0.op rfl rfl (A0.op rfl rfl (A0.op rfl rfl ?_))));obtain ⟨v13,e13,h32⟩:=A2 h31;refine A0.op rfl (B8 (enc:=M9) (o:=false) rfl rfl rfl e13) ?_;refine A0.op rfl rfl ?_;refine A0.op rfl (E2 (off':=1) Fq rfl e13 rfl rfl rfl) ?_;refine A0.op rfl rfl (A0.op rfl rfl ?_)
         refine A0.gen rfl rfl fun b hb=>?_
         cases b
         ·have h33:=A3 h32 hb;refine A0.op rfl rfl (A0.op rfl rfl (A0.done ?_));cases h33
          exact ⟨_,rfl,(Gh.y0 [0,1])⟩
         ·have h34:=A4 h32 hb;refine A0.op rfl rfl (A0.op rfl rfl (A0.done ?_));cases h34
          exact ⟨_,rfl,(Gh.y0 [0,1])⟩
     ·intro y hC
      subst hC
      cases hb:y10
      ·have h35:=A3 h23 hb;refine RW.cond_f rfl (RW.skip (RW.sf 1 rfl ?_));obtain ⟨y17,ey17,h37⟩:=A2 h35
       refine RW.cutq (σ:=Unit) (fun y15=>[(1,.ptr 0 0),(3,.j s7)]) (fun y15=>[some ⟨G5 false x0,0⟩]) (fun y=>y17=.inr y) gg ?_ ?_
       ·refine RW.blk ?_
        refine RW.iter (σ:=Int) ey17 (fun s14=>[(1,.ptr 0 0),(3,.j s7),(4,.ptr 1 0),(5,.j s14)]) (fun s14=>[some ⟨G5 false x0,0⟩,some ⟨M9 false v9,0⟩]) (Gh.y0 [0,1]) (fun s14 B o hS36 hB36 hE36=>?_)
        unfold Aa at hS36;refine RW.seq (RW.sr 2 rfl ?_)
        refine rl.gen rfl rfl fun b hb=>?_
        cases b
        ·have h38:=A3 hS36 hb;refine rl.done (RW.cond_f rfl (RW.exit (C7 ?_)));cases h38
         exact ⟨_,(hE36 _ rfl).symm,(Gh.y0 [0])⟩
        ·have h39:=A4 hS36 hb;refine rl.done (RW.cond_t rfl (RW.skip (RW.seq (RW.blk (RW.sdrw (A0.op rfl rfl (A0.op rfl rfl (A0.op rfl rfl ?_))))))));obtain ⟨v16,e16,h40⟩:=A2 h39;refine A0.op rfl (B8 (enc:=M9) (o:=false) rfl rfl rfl e16) ?_;refine A0.op rfl rfl ?_;refine A0.op rfl (E2 (off':=0) Fq rfl e16 rfl rfl rfl) ?_;refine A0.op rfl rfl (A0.op rfl rfl ?_)
         refine A0.gen rfl rfl fun b hb=>?_
         cases b
         ·have h41:=A3 h40 hb;refine A0.done ?_;refine RW.kp [1,3,4,5,89] [(1,.ptr 0 0),(3,.j s7),(4,.ptr 1 0),(5,.j s14),(89,.bool false)] [some ⟨G5 false x0,0⟩,some ⟨M9 false v9,0⟩] rfl rfl ?_;refine RW.cond_f rfl (RW.skip (RW.reg (rl.f 3 rfl ?_)));cases h41
          exact hB36 _ rfl _ _ (Gh.y0 [0,1])
         ·have h42:=A4 h40 hb;refine A0.done ?_;refine RW.kp [1,3,4,5,89] [(1,.ptr 0 0),(3,.j s7),(4,.ptr 1 0),(5,.j s14),(89,.bool true)] [some ⟨G5 false x0,0⟩,some ⟨M9 false v9,0⟩] rfl rfl ?_;refine RW.cond_t rfl (RW.sf 1 rfl (RW.ret ?_));cases h42;have h43:=elimL h37 (hE36 _ rfl);cases h43;have h44:=elimL h19 (hE18 _ rfl);cases h44
          exact RRet.y
       ·intro y15 hC
        have h37:=elimR h37 hC;refine RW.reg (rl.f 3 rfl ?_);cases h37
        exact hB18 _ rfl _ _ (Gh.y0 [0])
      ·have h45:=A4 h23 hb;refine RW.cond_t rfl (RW.sf 1 rfl (RW.ret ?_));cases h45;have h46:=elimL h19 (hE18 _ rfl);cases h46
       exact RRet.y
   ·intro y8 hC
    have h19:=elimR h19 hC;refine RW.sf 1 rfl (RW.ret ?_);cases h19
    exact RRet.y
  ·have h47:=A4 h1 hb;refine RW.cond_t rfl (RW.sf 1 rfl (RW.ret ?_));cases h47
   exact RRet.y
theorem Pq {x0:TCheck} {r:(List UInt8)×Bool} (hF:X3 x0=some r):B2 Tryz.prog 37 [.agg (G5 false x0)] (.tup [.str r.1,.bool r.2]):=by
 refine B2.q Uz ?_;unfold X3 at hF;refine RW.sf 3 rfl (RW.seq (RW.sr 1 rfl ?_));obtain ⟨v1,e1,h1⟩:=A2 hF;refine rl.call rfl rfl rfl (A7.y (r':=.bool v1) (Uv e1) ?_)
 cases hb:v1
 ·have h2:=A3 h1 hb;refine rl.f 1 rfl (RW.cond_t rfl (RW.sf 2 rfl (RW.ret ?_)));cases h2
  exact RRet.y
 ·have h3:=A4 h1 hb;refine rl.f 1 rfl (RW.cond_f rfl (RW.skip (RW.sdrw (A0.op rfl rfl (A0.op rfl rfl ?_)))));obtain ⟨v2,e2,h4⟩:=A2 h3;refine A0.call rfl rfl rfl (A7.y (r':=.str v2) (C9 e2) ⟨rfl,?_⟩);refine A0.op rfl rfl (A0.op rfl rfl ?_);obtain ⟨v3,e3,h5⟩:=A2 h4;refine A0.call rfl rfl rfl (A7.y (r':=.str v3) (C9 e3) ⟨rfl,?_⟩);obtain ⟨v4,e4,h6⟩:=A2 h5;refine A0.op rfl (Q8 rfl rfl e4) ?_;refine A0.op rfl rfl (A0.op rfl rfl ?_);obtain ⟨v5,e5,h7⟩:=A2 h6;refine A0.call rfl rfl rfl (A7.y (r':=.str v5) (C9 e5) ⟨rfl,?_⟩);obtain ⟨v6,e6,h8⟩:=A2 h7;refine A0.op rfl (Q8 rfl rfl e6) ?_;refine A0.op rfl rfl (A0.op rfl rfl ?_);obtain ⟨v7,e7,h9⟩:=A2 h8;refine A0.call rfl rfl rfl (A7.y (r':=.str v7) (C9 e7) ⟨rfl,?_⟩);obtain ⟨v8,e8,h10⟩:=A2 h9;refine A0.op rfl (Q8 rfl rfl e8) ?_;refine A0.op rfl rfl (A0.op rfl rfl (A0.op rfl rfl ?_));obtain ⟨v9,e9,h11⟩:=A2 h10;refine A0.call rfl rfl rfl (A7.y (r':=.str v9) (C9 e9) ⟨rfl,?_⟩);obtain ⟨v10,e10,h12⟩:=A2 h11;refine A0.op rfl (Q8 rfl rfl e10) ?_;refine A0.op rfl rfl (A0.done ?_);refine RW.kp [1,4] [(1,.ptr 0 0),(4,.str v10)] [some ⟨G5 false x0,0⟩] rfl rfl ?_;refine RW.seq (RW.sf 1 rfl ?_);obtain ⟨y19,ey19,h14⟩:=A2 h12
  refine RW.cutq (σ:=(List UInt8)) (fun y12=>[(4,.str y12)]) (fun y12=>[]) (fun y=>y19=y) gg ?_ ?_
  ·refine RW.blk ?_
   refine RW.iter (σ:=(List UInt8)×Int) ey19 (fun s11=>[(1,.ptr 0 0),(4,.str s11.1),(5,.j s11.2)]) (fun s11=>[some ⟨G5 false x0,0⟩]) (Gh.y0 [0]) (fun s11 B o hS13 hB13 hE13=>?_)
   unfold U0 at hS13;refine RW.seq (RW.sr 4 rfl ?_)
   refine rl.gen rfl rfl fun b hb=>?_
   cases b
   ·have h15:=A3 hS13 hb;refine rl.done (RW.cond_f rfl (RW.exit (C7 ?_)));cases h15
    exact ⟨_,(hE13 _ rfl).symm,(Gh.y0 [])⟩
   ·have h16:=A4 hS13 hb;refine rl.done (RW.cond_t rfl (RW.skip (RW.seq (RW.blk (RW.drw (A0.op rfl rfl (A0.op rfl rfl (A0.op rfl rfl (A0.op rfl rfl ?_)))))))));obtain ⟨v13,e13,h17⟩:=A2 h16;refine A0.op rfl (B8 (enc:=M9) (o:=false) rfl rfl rfl e13) ?_;refine A0.op rfl rfl ?_;refine A0.op rfl (E2 (off':=0) Fq rfl e13 rfl rfl rfl) ?_;obtain ⟨v14,e14,h18⟩:=A2 h17;refine A0.call rfl rfl rfl (A7.y (r':=.str v14) (C9 e14) ⟨rfl,?_⟩);obtain ⟨v15,e15,h19⟩:=A2 h18;refine A0.op rfl (Q8 rfl rfl e15) ?_;refine A0.op rfl rfl (A0.op rfl rfl (A0.op rfl rfl ?_));obtain ⟨v16,e16,h20⟩:=A2 h19;refine A0.op rfl (B8 (enc:=M9) (o:=false) rfl rfl rfl e16) ?_;refine A0.op rfl rfl ?_;refine A0.op rfl (E2 (off':=1) Fq rfl e16 rfl rfl rfl) ?_;obtain ⟨v17,e17,h21⟩:=A2 h20;refine A0.call rfl rfl rfl (A7.y (r':=.str v17) (C9 e17) ⟨rfl,?_⟩);obtain ⟨v18,e18,h22⟩:=A2 h21;refine A0.op rfl (Q8 rfl rfl e18) ?_;refine A0.op rfl rfl (A0.done (RW.reg (rl.f 3 rfl ?_)));cases h22
    exact hB13 _ rfl _ _ (Gh.y0 [0])
  ·intro y12 hC
   subst hC;refine RW.sr 1 rfl ?_;obtain ⟨v20,e20,h23⟩:=A2 h14;refine rl.call rfl rfl rfl (A7.y (r':=.tup [.str v20.1,.bool v20.2]) (Ki e20) ?_);refine rl.f 5 rfl (RW.sr 1 rfl ?_);obtain ⟨v21,e21,h24⟩:=A2 h23;refine rl.call rfl rfl rfl (A7.y (r':=.str v21) (L7 e21) ?_);refine rl.f 1 rfl (RW.seq (RW.seq ?_));obtain ⟨y22,ey22,h25⟩:=A2 h24
   refine RW.cutq (σ:=Bool) (fun y22=>[(8,.str v21),(69,.bool y22)]) (fun y22=>[]) (fun y=>y22=y) gg ?_ ?_
   ·refine RW.reg ?_;refine rl.run 3 rfl ?_
    cases hb:(!v20.2)
    ·have h26:=A3 ey22 hb;refine rl.run 2 rfl ?_
     refine rl.gen rfl rfl fun b hb=>?_
     cases b
     ·have h27:=A3 h26 hb;refine rl.f 1 rfl ?_;cases h27
      exact ⟨_,rfl,(Gh.y0 [])⟩
     ·have h28:=A4 h26 hb;refine rl.f 1 rfl ?_;cases h28
      exact ⟨_,rfl,(Gh.y0 [])⟩
    ·have h29:=A4 ey22 hb;refine rl.f 4 rfl ?_;cases h29
     exact ⟨_,rfl,(Gh.y0 [])⟩
   ·intro y hC
    subst hC
    cases hb:y22
    ·have h30:=A3 h25 hb;refine RW.cond_f rfl (RW.skip (RW.sf 3 rfl (RW.ret ?_)));cases h30
     exact RRet.y
    ·have h31:=A4 h25 hb;refine RW.cond_t rfl (RW.sf 2 rfl (RW.ret ?_));cases h31
     exact RRet.y
theorem Ma {x0:TDisk} {x1:TCheck} {r:TDisk×Bool} (hF:P5 x0 x1=some r):B2 Tryz.prog 42 [.agg (A5 false x0),.agg (G5 false x1)] (.tup [.agg (A5 true r.1),.bool r.2]):=by
 refine B2.q Rq ?_;unfold P5 at hF;refine RW.sf 4 rfl (RW.sr 1 rfl ?_);obtain ⟨v1,e1,h1⟩:=A2 hF;refine rl.call rfl rfl rfl (A7.y (r':=.tup [.str v1.1,.bool v1.2]) (Pq e1) ?_);refine rl.f 5 rfl (RW.seq (RW.seq ?_));obtain ⟨y2,ey2,h2⟩:=A2 h1
 refine RW.cutq (σ:=Bool) (fun y2=>[(2,.ptr 0 0),(3,.ptr 1 0),(4,.ptr 2 0),(6,.str v1.1),(21,.bool y2)]) (fun y2=>[some ⟨A5 false x0,0⟩,some ⟨G5 false x1,0⟩,some ⟨[.nils,.nils],0⟩]) (fun y=>y2=y) gg ?_ ?_
 ·refine RW.reg ?_;refine rl.run 3 rfl ?_
  cases hb:(!v1.2)
  ·have h3:=A3 ey2 hb;refine rl.run 1 rfl ?_;obtain ⟨v3,e3,h4⟩:=A2 h3;refine rl.call rfl rfl rfl (A7.y (r':=.bool v3) (Av e3) ?_)
   cases hb:v3
   ·have h5:=A3 h4 hb;refine rl.f 2 rfl ?_;cases h5
    exact ⟨_,rfl,(Gh.y0 [0,1,2])⟩
   ·have h6:=A4 h4 hb;refine rl.f 2 rfl ?_;cases h6
    exact ⟨_,rfl,(Gh.y0 [0,1,2])⟩
  ·have h7:=A4 ey2 hb;refine rl.f 4 rfl ?_;cases h7
   exact ⟨_,rfl,(Gh.y0 [0,1,2])⟩
 ·intro y hC
  subst hC
  cases hb:y2
  ·have h8:=A3 h2 hb;refine RW.cond_f rfl (RW.skip (RW.sr 6 rfl ?_));obtain ⟨v4,e4,h9⟩:=A2 h8;refine rl.call rfl rfl rfl (A7.y (r':=.tup [.agg (A5 false v4.1),.bool v4.2]) (Gf e4) ?_);refine rl.f 6 rfl ?_;refine RW.kp [2,4,8,9] [(2,.ptr 0 0),(4,.ptr 2 0),(8,.ptr 3 0),(9,.bool v4.2)] [some ⟨A5 false x0,0⟩,some ⟨G5 false x1,0⟩,some ⟨[.nils,.nils],0⟩,some ⟨A5 false v4.1,0⟩] rfl rfl ?_;refine RW.seq (RW.sf 2 rfl ?_)
   cases hb:(!v4.2)
   ·have h10:=A3 h9 hb;refine RW.cond_f rfl (RW.skip (RW.sr 1 rfl ?_));obtain ⟨v5,e5,h11⟩:=A2 h10;refine rl.call rfl rfl rfl (A7.z (r':=.agg (C3 4 5 v5)) (H':=[some ⟨A5 false x0,0⟩,some ⟨G5 false x1,0⟩,some ⟨[.nils,.nils],0⟩,some ⟨A5 false v4.1,0⟩,some ⟨fl (encS true) v5.Sectors,1⟩,some ⟨fl (A1 true) v5.Cache,2⟩]) (T2 e5) ?_);refine rl.f 2 rfl (RW.ret ?_);cases h11
    exact RRet.y
   ·have h12:=A4 h9 hb;refine RW.cond_t rfl (RW.sr 1 rfl ?_);obtain ⟨v6,e6,h13⟩:=A2 h12;refine rl.call rfl rfl rfl (A7.z (r':=.agg (C3 4 5 v6)) (H':=[some ⟨A5 false x0,0⟩,some ⟨G5 false x1,0⟩,some ⟨[.nils,.nils],0⟩,some ⟨A5 false v4.1,0⟩,some ⟨fl (encS true) v6.Sectors,1⟩,some ⟨fl (A1 true) v6.Cache,2⟩]) (H4 e6) ?_);refine rl.f 2 rfl (RW.ret ?_);cases h13
    exact RRet.y
  ·have h14:=A4 h2 hb;refine RW.cond_t rfl (RW.sr 1 rfl ?_);obtain ⟨v7,e7,h15⟩:=A2 h14;refine rl.call rfl rfl rfl (A7.z (r':=.agg (C3 3 4 v7)) (H':=[some ⟨A5 false x0,0⟩,some ⟨G5 false x1,0⟩,some ⟨[.nils,.nils],0⟩,some ⟨fl (encS true) v7.Sectors,1⟩,some ⟨fl (A1 true) v7.Cache,2⟩]) (H4 e7) ?_);refine rl.f 2 rfl (RW.ret ?_);cases h15
   exact RRet.y
theorem Mi {x0:TLog} {x1:Int} {r:Bool×TLog} (hF:P6 x0 x1=some r):C4 Tryz.prog 0 88 [.ptr 0 0,.j x1] [some ⟨[.lst true 1 (fl (encS true) x0.Disk.Sectors) x0.Disk.Sectors.length,.lst true 2 (fl (A1 true) x0.Disk.Cache) x0.Disk.Cache.length,.j x0.Segs,.nils,.j x0.NextGen,.j x0.NextSeq,.j x0.Stamp,.j x0.NextValid],0⟩] (.bool r.1) [some ⟨A9 true r.2,0⟩]:=by
 refine C4.q Lh ?_;unfold P6 at hF
 refine RW.gh (Gh.expose (b:=0) (j:=0) rfl rfl (by decide) (ekS.fown _)) ?_
 refine RW.gh (Gh.expose (b:=0) (j:=1) rfl rfl (by decide) (B4.fown _)) ?_
 refine RW.sf 1 rfl (RW.sr 3 rfl ?_);obtain ⟨v1,e1,h1⟩:=A2 hF;refine rl.call rfl rfl rfl (A7.y (r':=L_I v1) (Hq e1) ?_);refine rl.f 1 rfl (RW.seq (RW.seq ?_));obtain ⟨y2,ey2,h2⟩:=A2 h1
 refine RW.cutq (σ:=Bool) (fun y2=>[(0,.ptr 0 0),(5,L_I v1),(21,.bool y2)]) (fun y2=>[some ⟨[.sl 1 0 x0.Disk.Sectors.length,.sl 2 0 x0.Disk.Cache.length,.j x0.Segs,.nils,.j x0.NextGen,.j x0.NextSeq,.j x0.Stamp,.j x0.NextValid],0⟩,some ⟨fl (encS true) x0.Disk.Sectors,1⟩,some ⟨fl (A1 true) x0.Disk.Cache,2⟩]) (fun y=>y2=y) gg ?_ ?_
 ·refine RW.reg ?_;refine rl.run 1 rfl ?_
  refine rl.gen rfl rfl fun b hb=>?_
  cases b
  ·have h3:=A3 ey2 hb;refine rl.run 4 rfl ?_
   refine rl.gen rfl rfl fun b hb=>?_
   cases b
   ·have h4:=A3 h3 hb;refine rl.f 1 rfl ?_;cases h4
    exact ⟨_,rfl,(Gh.rN [0,1,2])⟩
   ·have h5:=A4 h3 hb;refine rl.f 1 rfl ?_;cases h5
    exact ⟨_,rfl,(Gh.rN [0,1,2])⟩
  ·have h6:=A4 ey2 hb;refine rl.f 6 rfl ?_;cases h6
   exact ⟨_,rfl,(Gh.rN [0,1,2])⟩
 ·intro y hC
  subst hC
  cases hb:y2
  ·have h7:=A3 h2 hb;refine RW.cond_f rfl (RW.skip (RW.sr 5 rfl ?_));obtain ⟨v3,e3,h8⟩:=A2 h7;refine rl.call rfl rfl rfl (A7.y (r':=.tup [.str v3.1,.bool v3.2]) (U2 e3) ?_);refine rl.f 5 rfl (RW.sdrw (A0.op rfl rfl (A0.op rfl rfl (A0.op rfl rfl (A0.op rfl rfl (A0.op rfl rfl ?_))))));obtain ⟨v4,e4,h9⟩:=A2 h8;refine A0.op rfl (B8 (enc:=encI) (o:=false) rfl rfl rfl e4) ?_;refine A0.op rfl (E2 (off':=0) ekI rfl e4 rfl rfl rfl) ?_;refine A0.op rfl rfl ?_;obtain ⟨v5,e5,h10⟩:=A2 h9;refine A0.call rfl rfl rfl (A7.y (r':=.tup [.agg (A5 false v5.1),.bool v5.2]) (K9 e5) ⟨rfl,?_⟩);refine A0.op rfl rfl (A0.op rfl rfl (A0.op rfl rfl ?_));refine A0.chnB rfl rfl (.here (.rx rfl) (.here (.rx rfl) (.here (.rx rfl) (.here (.cl rfl rfl (A7.y (r':=.tup [.agg (A5 false v5.1),.bool v5.2]) (K9 e5) ⟨rfl,rfl⟩)) (.here (.rx rfl) (.here (.rx (E2 (off':=0) ekI rfl e4 rfl rfl rfl)) (.here (.rx (B8 (enc:=encI) (o:=false) rfl rfl rfl e4)) (.here (.rx rfl) (.here (.rx rfl) (.here (.rx rfl) (.here (.rx rfl) (.here (.rx rfl) .nil)))))))))))) ?_;refine A0.chnB rfl rfl (.here (.rx rfl) (.skip rfl (.skip rfl (.skip rfl (.skip rfl (.skip rfl (.skip rfl (.skip rfl (.skip rfl (.skip rfl (.skip rfl (.skip rfl .nil)))))))))))) ?_;refine A0.op rfl rfl (A0.done ?_);refine RW.kp [0,5,6,7,8,9] [(0,.ptr 0 0),(5,L_I v1),(6,.str v3.1),(7,.bool v3.2),(8,.ptr 3 0),(9,.bool v5.2)] [some ⟨[.sl 1 0 x0.Disk.Sectors.length,.sl 2 0 x0.Disk.Cache.length,.j x0.Segs,.nils,.j x0.NextGen,.j x0.NextSeq,.j x0.Stamp,.j x0.NextValid],0⟩,some ⟨fl (encS true) x0.Disk.Sectors,1⟩,some ⟨fl (A1 true) x0.Disk.Cache,2⟩,some ⟨A5 false v5.1,0⟩] rfl rfl ?_;refine RW.seq (RW.seq ?_);obtain ⟨y6,ey6,h11⟩:=A2 h10
   refine RW.cutq (σ:=Bool) (fun y6=>[(0,.ptr 0 0),(5,L_I v1),(6,.str v3.1),(8,.ptr 1 0),(55,.bool y6)]) (fun y6=>[some ⟨[.sl 2 0 x0.Disk.Sectors.length,.sl 3 0 x0.Disk.Cache.length,.j x0.Segs,.nils,.j x0.NextGen,.j x0.NextSeq,.j x0.Stamp,.j x0.NextValid],0⟩,some ⟨A5 false v5.1,0⟩,some ⟨fl (encS true) x0.Disk.Sectors,1⟩,some ⟨fl (A1 true) x0.Disk.Cache,2⟩]) (fun y=>y6=y) gg ?_ ?_
   ·refine RW.reg ?_;refine rl.run 3 rfl ?_
    cases hb:(!v3.2)
    ·have h12:=A3 ey6 hb;refine rl.run 4 rfl ?_
     cases hb:(!v5.2)
     ·have h13:=A3 h12 hb;refine rl.run 4 rfl ?_
      refine rl.gen rfl rfl fun b hb=>?_
      cases b
      ·have h14:=A3 h13 hb;refine rl.f 1 rfl ?_;cases h14
       exact ⟨_,rfl,(Gh.rN [0,3,1,2])⟩
      ·have h15:=A4 h13 hb;refine rl.f 1 rfl ?_;cases h15
       exact ⟨_,rfl,(Gh.rN [0,3,1,2])⟩
     ·have h16:=A4 h12 hb;refine rl.f 6 rfl ?_;cases h16
      exact ⟨_,rfl,(Gh.rN [0,3,1,2])⟩
    ·have h17:=A4 ey6 hb;refine rl.f 10 rfl ?_;cases h17
     exact ⟨_,rfl,(Gh.rN [0,3,1,2])⟩
   ·intro y hC
    subst hC
    cases hb:y6
    ·have h18:=A3 h11 hb;refine RW.cond_f rfl (RW.skip (RW.sr 2 rfl ?_));obtain ⟨v7,e7,h19⟩:=A2 h18;refine rl.call rfl rfl rfl (A7.z (r':=.agg (C3 4 5 v7)) (H':=[some ⟨[.sl 2 0 x0.Disk.Sectors.length,.sl 3 0 x0.Disk.Cache.length,.j x0.Segs,.nils,.j x0.NextGen,.j x0.NextSeq,.j x0.Stamp,.j x0.NextValid],0⟩,some ⟨A5 false v5.1,0⟩,some ⟨fl (encS true) x0.Disk.Sectors,1⟩,some ⟨fl (A1 true) x0.Disk.Cache,2⟩,some ⟨fl (encS true) v7.Sectors,1⟩,some ⟨fl (A1 true) v7.Cache,2⟩]) (T2 e7) ?_);refine rl.f 3 rfl (RW.sdrw (A0.op rfl rfl (A0.op rfl rfl (A0.op rfl rfl (A0.op rfl rfl (A0.op rfl rfl (A0.op rfl rfl ?_)))))));refine A0.chnB rfl rfl (.skip rfl (.skip rfl (.skip rfl (.skip rfl (.skip rfl (.here (.rx rfl) .nil)))))) ?_;refine A0.opA rfl rfl (.here (.rx rfl) .nil) ?_;obtain ⟨v8,e8,h20⟩:=A2 h19;refine A0.opA rfl (B8 (enc:=encI) (o:=false) rfl rfl rfl e8) (.here (.rx (B8 (enc:=encI) (o:=false) rfl rfl rfl e8)) .nil) ?_;refine A0.opA rfl (E2 (off':=0) ekI rfl e8 rfl rfl rfl) (.here (.rx (E2 (off':=0) ekI rfl e8 rfl rfl rfl)) .nil) ?_;refine A0.opA rfl rfl (.here (.rx rfl) .nil) ?_;refine A0.opA rfl rfl (.here (.rx rfl) .nil) ?_;refine A0.opA rfl rfl (.here (.rx rfl) .nil) ?_;refine A0.opA rfl rfl (.here (.rx rfl) .nil) ?_;refine A0.opA rfl rfl (.here (.rx rfl) .nil) ?_;refine A0.opA rfl rfl (.here (.rx rfl) .nil) ?_;refine A0.opA rfl rfl (.here (.rx rfl) .nil) ?_;refine A0.litA (u:=.lst false 4 [.j v8,.j x0.NextGen,.j (v3.1.length:Int),.nils] 1) rfl rfl (Lit.mk rfl rfl) (.here (.lit rfl (Lit.mk rfl rfl)) .nil) ?_;obtain ⟨v9,e9,h21⟩:=A2 h20;refine A0.chnB rfl (R5 rfl rfl (Lj B3 rfl rfl rfl e9)) (.skip rfl (.skip rfl (.skip rfl (.skip rfl (.skip rfl (.skip rfl (.skip rfl (.skip rfl (.skip rfl (.skip rfl (.skip rfl (.skip rfl (.skip rfl (.skip rfl (.skip rfl (.skip rfl (.here (.rx rfl) .nil))))))))))))))))) ?_;refine A0.op rfl rfl (A0.op rfl rfl ?_);refine A0.chn rfl rfl ?_;refine A0.done ?_;refine RW.gh (Gh.own0 (b:=7) rfl (NL.append NL.refl (NL.append (.same (.same (.same (.nils (es:=9) .nil)))) NL.refl))) ?_
     refine RW.gh (Gh.blk (b:=7) rfl (Qw (enc:=A6) e9 rfl)) ?_;refine RW.kp [0] [(0,.ptr 0 0)] [some ⟨[.sl 4 0 v7.Sectors.length,.sl 5 0 v7.Cache.length,.j x0.Segs,.sl 7 0 v9.length,.j x0.NextGen,.j x0.NextSeq,.j x0.Stamp,.j x0.NextValid],0⟩,some ⟨A5 false v5.1,0⟩,some ⟨fl (encS true) x0.Disk.Sectors,1⟩,some ⟨fl (A1 true) x0.Disk.Cache,2⟩,some ⟨fl (encS true) v7.Sectors,1⟩,some ⟨fl (A1 true) v7.Cache,2⟩,none,some ⟨fl (A6 true) v9,4⟩] rfl rfl ?_;refine RW.sf 8 rfl (RW.sf 1 rfl (RW.ret ?_));cases h21
     exact RRetS.m (Gh.trans (Gh.absorbq (b:=0) (j:=0) (m:=4) rfl rfl rfl (by decide) (by decide) rfl (ekS.flen true _) (ekS.fown _)) (Gh.trans (Gh.absorbq (b:=0) (j:=1) (m:=5) rfl rfl rfl (by decide) (by decide) rfl (B4.flen true _) (B4.fown _)) (Gh.trans (Gh.absorbq (b:=0) (j:=3) (m:=7) rfl rfl rfl (by decide) (by decide) rfl (B3.flen true _) (B3.fown _)) (Gh.rN [0]))))
    ·have h22:=A4 h11 hb;refine RW.cond_t rfl (RW.sf 1 rfl (RW.ret ?_));cases h22
     exact RRetS.m (Gh.trans (Gh.own0 (b:=0) rfl (.same (.same (.same (.nils (.same (.same (.same (.same .nil))))))))) (Gh.trans (Gh.absorbq (b:=0) (j:=0) (m:=2) rfl rfl rfl (by decide) (by decide) rfl (ekS.flen true _) (ekS.fown _)) (Gh.trans (Gh.absorbq (b:=0) (j:=1) (m:=3) rfl rfl rfl (by decide) (by decide) rfl (B4.flen true _) (B4.fown _)) (Gh.rN [0]))))
  ·have h23:=A4 h2 hb;refine RW.cond_t rfl (RW.sf 1 rfl (RW.ret ?_));cases h23
   exact RRetS.m (Gh.trans (Gh.own0 (b:=0) rfl (.same (.same (.same (.nils (.same (.same (.same (.same .nil))))))))) (Gh.trans (Gh.absorbq (b:=0) (j:=0) (m:=1) rfl rfl rfl (by decide) (by decide) rfl (ekS.flen true _) (ekS.fown _)) (Gh.trans (Gh.absorbq (b:=0) (j:=1) (m:=2) rfl rfl rfl (by decide) (by decide) rfl (B4.flen true _) (B4.fown _)) (Gh.rN [0]))))
theorem Mj {x0:Int} {r:TLog×Bool} (hF:V1 x0=some r):B2 Tryz.prog 116 [.j x0] (.tup [.agg (A9 true r.1),.bool r.2]):=by
 refine B2.q Qx ?_;unfold V1 at hF;refine RW.sf 2 rfl (RW.seq (RW.sr 1 rfl ?_));obtain ⟨v1,e1,h1⟩:=A2 hF;refine rl.call rfl rfl rfl (A7.y (r':=.bool v1) (B6 e1) ?_)
 cases hb:v1
 ·have h2:=A3 h1 hb;refine rl.f 1 rfl (RW.cond_t rfl (RW.sf 3 rfl (RW.ret ?_)));cases h2
  exact RRet.y
 ·have h3:=A4 h1 hb;refine rl.f 1 rfl (RW.cond_f rfl (RW.skip (RW.sr 3 rfl ?_)));obtain ⟨v2,e2,h4⟩:=A2 h3;refine rl.call rfl rfl rfl (A7.z (r':=.tup [.agg (C3 1 2 v2.1),.bool v2.2]) (H':=[some ⟨[.nils,.nils,.j 0,.nils,.j 0,.j 0,.j 0,.j 0],0⟩,some ⟨fl (encS true) v2.1.Sectors,1⟩,some ⟨fl (A1 true) v2.1.Cache,2⟩]) (Uh e2) ?_);refine rl.f 6 rfl ?_;refine RW.kp [0,2,4] [(0,.j x0),(2,.ptr 0 0),(4,.ptr 3 0)] [some ⟨[.nils,.nils,.j 0,.nils,.j 0,.j 0,.j 0,.j 0],0⟩,some ⟨fl (encS true) v2.1.Sectors,1⟩,some ⟨fl (A1 true) v2.1.Cache,2⟩,some ⟨C3 1 2 v2.1,0⟩] rfl rfl ?_;refine RW.sf 5 rfl (RW.seq ?_)
  refine RW.gh (Gh.absorbq (b:=4) (j:=0) (m:=1) rfl rfl rfl (by decide) (by decide) rfl (ekS.flen true _) (ekS.fown _)) ?_
  refine RW.gh (Gh.absorbq (b:=4) (j:=1) (m:=2) rfl rfl rfl (by decide) (by decide) rfl (B4.flen true _) (B4.fown _)) ?_
  refine RW.sreg ?_;obtain ⟨v3,e3,h5⟩:=A2 h4;refine rl.call rfl rfl rfl (A7.eW (r0:=.bool v3.1) (H':=[some ⟨[.nils,.nils,.j 0,.nils,.j 0,.j 0,.j 0,.j 0],0⟩,none,none,some ⟨C3 1 2 v2.1,0⟩,some ⟨A9 true v3.2,0⟩]) [⟨[.lst true 1 (fl (encS true) v2.1.Sectors) v2.1.Sectors.length,.lst true 2 (fl (A1 true) v2.1.Cache) v2.1.Cache.length,.j x0,.nils,.j 1,.j 1,.j 0,.j 1],0⟩] [⟨A9 true v3.2,0⟩] [4] (Mi e3) ?_)
  cases hb:v3.1
  ·have h6:=A3 h5 hb;refine rl.f 1 rfl ?_
   refine RW.gh (Gh.expose (b:=4) (j:=0) rfl rfl (by decide) (ekS.fown _)) ?_
   refine RW.gh (Gh.expose (b:=4) (j:=1) rfl rfl (by decide) (B4.fown _)) ?_
   refine RW.gh (Gh.expose (b:=4) (j:=3) rfl rfl (by decide) (B3.fown _)) ?_
   refine RW.kp [2,6,24] [(2,.ptr 0 0),(6,.ptr 4 0),(24,.bool true)] [some ⟨[.nils,.nils,.j 0,.nils,.j 0,.j 0,.j 0,.j 0],0⟩,none,none,some ⟨C3 1 2 v2.1,0⟩,some ⟨C0 5 6 7 v3.2,0⟩,some ⟨fl (encS true) v3.2.Disk.Sectors,1⟩,some ⟨fl (A1 true) v3.2.Disk.Cache,2⟩,some ⟨fl (A6 true) v3.2.Used,4⟩] rfl rfl ?_;refine RW.cond_t rfl (RW.sf 3 rfl (RW.ret ?_));cases h6
   exact RRet.y
  ·have h7:=A4 h5 hb;refine rl.f 1 rfl ?_
   refine RW.gh (Gh.expose (b:=4) (j:=0) rfl rfl (by decide) (ekS.fown _)) ?_
   refine RW.gh (Gh.expose (b:=4) (j:=1) rfl rfl (by decide) (B4.fown _)) ?_
   refine RW.gh (Gh.expose (b:=4) (j:=3) rfl rfl (by decide) (B3.fown _)) ?_
   refine RW.kp [2,6,24] [(2,.ptr 0 0),(6,.ptr 4 0),(24,.bool false)] [some ⟨[.nils,.nils,.j 0,.nils,.j 0,.j 0,.j 0,.j 0],0⟩,none,none,some ⟨C3 1 2 v2.1,0⟩,some ⟨C0 5 6 7 v3.2,0⟩,some ⟨fl (encS true) v3.2.Disk.Sectors,1⟩,some ⟨fl (A1 true) v3.2.Disk.Cache,2⟩,some ⟨fl (A6 true) v3.2.Used,4⟩] rfl rfl ?_;refine RW.cond_f rfl (RW.skip ?_);refine RW.sdrwF [⟨[.nils,.nils],0⟩] ?_;refine A0.op rfl rfl (A0.op rfl rfl (A0.op rfl rfl ?_));obtain ⟨v4,e4,h8⟩:=A2 h7;refine A0.call rfl rfl rfl (A7.y (r':=.agg (G5 false v4)) (Td e4) ⟨rfl,?_⟩);obtain ⟨v5,e5,h9⟩:=A2 h8;refine A0.ccall rfl rfl rfl (A7.z (r':=.tup [.agg (C3 9 10 v5.1),.bool v5.2]) (H':=[some ⟨[.nils,.nils,.j 0,.nils,.j 0,.j 0,.j 0,.j 0],0⟩,none,none,some ⟨C3 1 2 v2.1,0⟩,some ⟨C0 5 6 7 v3.2,0⟩,some ⟨fl (encS true) v3.2.Disk.Sectors,1⟩,some ⟨fl (A1 true) v3.2.Disk.Cache,2⟩,some ⟨fl (A6 true) v3.2.Used,4⟩,some ⟨[.nils,.nils],0⟩,some ⟨fl (encS true) v5.1.Sectors,1⟩,some ⟨fl (A1 true) v5.1.Cache,2⟩]) (Ma e5) ?_);refine A0.op rfl rfl (A0.op rfl rfl (A0.op rfl rfl ?_));refine A0.flt rfl (.cons rfl .nil) ?_;refine A0.chnB rfl rfl (.here (.rx rfl) (.skip rfl (.skip rfl (.skip rfl (.skip rfl (.skip rfl (.skip rfl .nil))))))) ?_;refine A0.op rfl rfl (A0.done (RW.seq (RW.sf 2 rfl ?_)));refine RW.kp [2,6,7,35] [(2,.ptr 0 0),(6,.ptr 4 0),(7,.ptr 8 0),(35,.bool (!v5.2))] [some ⟨[.nils,.nils,.j 0,.nils,.j 0,.j 0,.j 0,.j 0],0⟩,none,none,some ⟨C3 1 2 v2.1,0⟩,some ⟨C0 5 6 7 v3.2,0⟩,some ⟨fl (encS true) v3.2.Disk.Sectors,1⟩,some ⟨fl (A1 true) v3.2.Disk.Cache,2⟩,some ⟨fl (A6 true) v3.2.Used,4⟩,some ⟨C3 9 10 v5.1,0⟩,some ⟨fl (encS true) v5.1.Sectors,1⟩,some ⟨fl (A1 true) v5.1.Cache,2⟩] rfl rfl ?_
   cases hb:(!v5.2)
   ·have h10:=A3 h9 hb;refine RW.cond_f rfl (RW.skip (RW.sf 3 rfl (RW.sf 2 rfl (RW.sf 3 rfl (RW.ret ?_)))));cases h10
    exact RRet.y
   ·have h11:=A4 h9 hb;refine RW.cond_t rfl (RW.sf 3 rfl (RW.ret ?_));cases h11
    exact RRet.y
theorem Qq {x0:TL01Cur} {B0_ o0_:Nat} {r:TLog×TL01Cur} (hF:Ax x0=some r):C4 Tryz.prog 0 46 [.ptr 0 0] [some ⟨[pvB B0_ o0_ x0.mB,.j x0.mI,.j x0.mH],0⟩] (.agg (C0 1 2 3 r.1)) [some ⟨[pvB B0_ o0_ x0.mB,.j r.2.mI,.j r.2.mH],0⟩,some ⟨fl (encS true) r.1.Disk.Sectors,1⟩,some ⟨fl (A1 true) r.1.Disk.Cache,2⟩,some ⟨fl (A6 true) r.1.Used,4⟩]:=by
 refine C4.p A0b ?_;unfold Ax at hF;refine RW.sf 1 rfl (RW.sr 1 rfl ?_);obtain ⟨v1,e1,h1⟩:=A2 hF;refine rl.call rfl rfl rfl (A7.eN (r0:=.j v1.1) (H':=[some ⟨[pvB B0_ o0_ x0.mB,.j v1.2.mI,.j v1.2.mH],0⟩,some ⟨[.nils,.nils,.j 0,.nils,.j 0,.j 0,.j 0,.j 0],0⟩]) [⟨[pvB B0_ o0_ x0.mB,.j x0.mI,.j x0.mH],0⟩] [⟨[pvB B0_ o0_ x0.mB,.j v1.2.mI,.j v1.2.mH],0⟩] [] [0] [pvB B0_ o0_ x0.mB] (F1 e1) ?_);refine rl.run 1 rfl ?_;obtain ⟨v2,e2,h2⟩:=A2 h1;refine rl.call rfl rfl rfl (A7.z (r':=.tup [.agg (C0 2 3 4 v2.1),.bool v2.2]) (H':=[some ⟨[pvB B0_ o0_ x0.mB,.j v1.2.mI,.j v1.2.mH],0⟩,some ⟨[.nils,.nils,.j 0,.nils,.j 0,.j 0,.j 0,.j 0],0⟩,some ⟨fl (encS true) v2.1.Disk.Sectors,1⟩,some ⟨fl (A1 true) v2.1.Disk.Cache,2⟩,some ⟨fl (A6 true) v2.1.Used,4⟩]) (Mj e2) ?_);refine rl.f 6 rfl (RW.seq (RW.sf 1 rfl ?_));obtain ⟨y9,ey9,h4⟩:=A2 h2
 refine RW.cutq (σ:=Int×Int×Int×Int×Int×Int×Int×(List (List UInt8))×(List TWrite)×(List TSeg)) (fun y4=>[(2,.ptr 1 0),(3,.ptr 2 0)]) (fun y4=>[some ⟨[pvB B0_ o0_ x0.mB,.j y4.1,.j y4.2.1],0⟩,some ⟨[.nils,.nils,.j 0,.nils,.j 0,.j 0,.j 0,.j 0],0⟩,some ⟨[.sl 3 0 y4.2.2.2.2.2.2.2.1.length,.sl 4 0 y4.2.2.2.2.2.2.2.2.1.length,.j y4.2.2.1,.sl 5 0 y4.2.2.2.2.2.2.2.2.2.length,.j y4.2.2.2.1,.j y4.2.2.2.2.1,.j y4.2.2.2.2.2.1,.j y4.2.2.2.2.2.2.1],0⟩,some ⟨fl (encS true) y4.2.2.2.2.2.2.2.1,1⟩,some ⟨fl (A1 true) y4.2.2.2.2.2.2.2.2.1,2⟩,some ⟨fl (A6 true) y4.2.2.2.2.2.2.2.2.2,4⟩]) (fun y=>y9=y) gg ?_ ?_
 ·refine RW.blk ?_
  refine RW.iter (σ:=Int×Int×Int×Int×Int×Int×Int×Int×(List (List UInt8))×(List TWrite)×(List TSeg)) ey9 (fun s3=>[(0,.ptr 0 0),(2,.ptr 1 0),(3,.ptr 2 0),(5,.j s3.1)]) (fun s3=>[some ⟨[pvB B0_ o0_ x0.mB,.j s3.2.1,.j s3.2.2.1],0⟩,some ⟨[.nils,.nils,.j 0,.nils,.j 0,.j 0,.j 0,.j 0],0⟩,some ⟨[.sl 3 0 s3.2.2.2.2.2.2.2.2.1.length,.sl 4 0 s3.2.2.2.2.2.2.2.2.2.1.length,.j s3.2.2.2.1,.sl 5 0 s3.2.2.2.2.2.2.2.2.2.2.length,.j s3.2.2.2.2.1,.j s3.2.2.2.2.2.1,.j s3.2.2.2.2.2.2.1,.j s3.2.2.2.2.2.2.2.1],0⟩,some ⟨fl (encS true) s3.2.2.2.2.2.2.2.2.1,1⟩,some ⟨fl (A1 true) s3.2.2.2.2.2.2.2.2.2.1,2⟩,some ⟨fl (A6 true) s3.2.2.2.2.2.2.2.2.2.2,4⟩]) (Gh.rN [0,1,5,2,3,4]) (fun s3 B o hS3 hB3 hE3=>?_)
  unfold V4 at hS3;refine RW.seq (RW.sr 2 rfl ?_);obtain ⟨v5,e5,h5⟩:=A2 hS3;refine rl.call rfl rfl rfl (A7.eN (r0:=.j v5.1) (H':=[some ⟨[pvB B0_ o0_ x0.mB,.j v5.2.mI,.j v5.2.mH],0⟩,some ⟨[.nils,.nils,.j 0,.nils,.j 0,.j 0,.j 0,.j 0],0⟩,some ⟨[.sl 3 0 s3.2.2.2.2.2.2.2.2.1.length,.sl 4 0 s3.2.2.2.2.2.2.2.2.2.1.length,.j s3.2.2.2.1,.sl 5 0 s3.2.2.2.2.2.2.2.2.2.2.length,.j s3.2.2.2.2.1,.j s3.2.2.2.2.2.1,.j s3.2.2.2.2.2.2.1,.j s3.2.2.2.2.2.2.2.1],0⟩,some ⟨fl (encS true) s3.2.2.2.2.2.2.2.2.1,1⟩,some ⟨fl (A1 true) s3.2.2.2.2.2.2.2.2.2.1,2⟩,some ⟨fl (A6 true) s3.2.2.2.2.2.2.2.2.2.2,4⟩]) [⟨[pvB B0_ o0_ x0.mB,.j s3.2.1,.j s3.2.2.1],0⟩] [⟨[pvB B0_ o0_ x0.mB,.j v5.2.mI,.j v5.2.mH],0⟩] [] [0] [pvB B0_ o0_ x0.mB] (F1 e5) ?_)
  refine rl.gen rfl rfl fun b hb=>?_
  cases b
  ·have h6:=A3 h5 hb;refine rl.done (RW.cond_f rfl (RW.exit (C7 ?_)));cases h6
   exact ⟨_,(hE3 _ rfl).symm,(Gh.rN [0,1,2,3,4,5])⟩
  ·have h7:=A4 h5 hb;refine rl.done (RW.cond_t rfl (RW.skip (RW.seq (RW.blk ?_))));refine RW.sdrwF [⟨[.j 0,.j 0,.j 0,.j 0,.j 0,.j 0,.str [],.str [],.str []],0⟩] ?_;refine A0.op rfl rfl (A0.op rfl rfl (A0.op rfl rfl ?_));obtain ⟨v6,e6,h8⟩:=A2 h7;refine A0.ccallB rfl rfl rfl (A7.eN (r0:=.agg (C6 false v6.1)) (H':=[some ⟨[pvB B0_ o0_ x0.mB,.j v6.2.mI,.j v6.2.mH],0⟩,some ⟨[.nils,.nils,.j 0,.nils,.j 0,.j 0,.j 0,.j 0],0⟩,some ⟨[.sl 3 0 s3.2.2.2.2.2.2.2.2.1.length,.sl 4 0 s3.2.2.2.2.2.2.2.2.2.1.length,.j s3.2.2.2.1,.sl 5 0 s3.2.2.2.2.2.2.2.2.2.2.length,.j s3.2.2.2.2.1,.j s3.2.2.2.2.2.1,.j s3.2.2.2.2.2.2.1,.j s3.2.2.2.2.2.2.2.1],0⟩,some ⟨fl (encS true) s3.2.2.2.2.2.2.2.2.1,1⟩,some ⟨fl (A1 true) s3.2.2.2.2.2.2.2.2.2.1,2⟩,some ⟨fl (A6 true) s3.2.2.2.2.2.2.2.2.2.2,4⟩,some ⟨[.j 0,.j 0,.j 0,.j 0,.j 0,.j 0,.str [],.str [],.str []],0⟩]) [⟨[pvB B0_ o0_ x0.mB,.j v5.2.mI,.j v5.2.mH],0⟩] [⟨[pvB B0_ o0_ x0.mB,.j v6.2.mI,.j v6.2.mH],0⟩] [] [0] [pvB B0_ o0_ x0.mB] (Hj e6) ⟨(.skip rfl (.here (.rx rfl) (.here (.rx rfl) .nil))),?_⟩);refine A0.op rfl rfl ?_;refine A0.flt rfl (.cons rfl .nil) ?_;refine A0.chn rfl rfl ?_;refine A0.done (RW.sr 2 rfl ?_);obtain ⟨v7,e7,h9⟩:=A2 h8;refine rl.call rfl rfl rfl (A7.y (r':=.bool v7) (Jj e7) ?_)
   cases hb:v7
   ·have h10:=A3 h9 hb;refine rl.done ?_;refine RW.kp [0,2,3,5,6,27] [(0,.ptr 0 0),(2,.ptr 1 0),(3,.ptr 2 0),(5,.j s3.1),(6,.ptr 6 0),(27,.bool false)] [some ⟨[pvB B0_ o0_ x0.mB,.j v6.2.mI,.j v6.2.mH],0⟩,some ⟨[.nils,.nils,.j 0,.nils,.j 0,.j 0,.j 0,.j 0],0⟩,some ⟨[.sl 3 0 s3.2.2.2.2.2.2.2.2.1.length,.sl 4 0 s3.2.2.2.2.2.2.2.2.2.1.length,.j s3.2.2.2.1,.sl 5 0 s3.2.2.2.2.2.2.2.2.2.2.length,.j s3.2.2.2.2.1,.j s3.2.2.2.2.2.1,.j s3.2.2.2.2.2.2.1,.j s3.2.2.2.2.2.2.2.1],0⟩,some ⟨fl (encS true) s3.2.2.2.2.2.2.2.2.1,1⟩,some ⟨fl (A1 true) s3.2.2.2.2.2.2.2.2.2.1,2⟩,some ⟨fl (A6 true) s3.2.2.2.2.2.2.2.2.2.2,4⟩,some ⟨[.j s3.2.2.2.2.2.1,.j v6.1.Kind,.j v6.1.Valid,.j v6.1.Uid,.j v6.1.Next,.j v6.1.Flags,.str v6.1.User,.str v6.1.Name,.str v6.1.Text],0⟩] rfl rfl ?_;refine RW.cond_f rfl (RW.skip (RW.reg (rl.f 3 rfl ?_)));cases h10
    exact hB3 _ rfl _ _ (Gh.rN [0,1,2,3,4,5])
   ·have h11:=A4 h9 hb;refine rl.done ?_;refine RW.kp [0,2,3,5,6,27] [(0,.ptr 0 0),(2,.ptr 1 0),(3,.ptr 2 0),(5,.j s3.1),(6,.ptr 6 0),(27,.bool true)] [some ⟨[pvB B0_ o0_ x0.mB,.j v6.2.mI,.j v6.2.mH],0⟩,some ⟨[.nils,.nils,.j 0,.nils,.j 0,.j 0,.j 0,.j 0],0⟩,some ⟨[.sl 3 0 s3.2.2.2.2.2.2.2.2.1.length,.sl 4 0 s3.2.2.2.2.2.2.2.2.2.1.length,.j s3.2.2.2.1,.sl 5 0 s3.2.2.2.2.2.2.2.2.2.2.length,.j s3.2.2.2.2.1,.j s3.2.2.2.2.2.1,.j s3.2.2.2.2.2.2.1,.j s3.2.2.2.2.2.2.2.1],0⟩,some ⟨fl (encS true) s3.2.2.2.2.2.2.2.2.1,1⟩,some ⟨fl (A1 true) s3.2.2.2.2.2.2.2.2.2.1,2⟩,some ⟨fl (A6 true) s3.2.2.2.2.2.2.2.2.2.2,4⟩,some ⟨[.j s3.2.2.2.2.2.1,.j v6.1.Kind,.j v6.1.Valid,.j v6.1.Uid,.j v6.1.Next,.j v6.1.Flags,.str v6.1.User,.str v6.1.Name,.str v6.1.Text],0⟩] rfl rfl ?_;refine RW.cond_t rfl ?_
    refine RW.gh (Gh.absorbq (b:=2) (j:=0) (m:=3) rfl rfl rfl (by decide) (by decide) rfl (ekS.flen true _) (ekS.fown _)) ?_
    refine RW.gh (Gh.absorbq (b:=2) (j:=1) (m:=4) rfl rfl rfl (by decide) (by decide) rfl (B4.flen true _) (B4.fown _)) ?_
    refine RW.gh (Gh.absorbq (b:=2) (j:=3) (m:=5) rfl rfl rfl (by decide) (by decide) rfl (B3.flen true _) (B3.fown _)) ?_
    refine RW.reg (rl.run 1 rfl ?_);obtain ⟨v8,e8,h12⟩:=A2 h11;refine rl.call rfl rfl rfl (A7.eW (r0:=.bool v8.1) (H':=[some ⟨[pvB B0_ o0_ x0.mB,.j v6.2.mI,.j v6.2.mH],0⟩,some ⟨[.nils,.nils,.j 0,.nils,.j 0,.j 0,.j 0,.j 0],0⟩,some ⟨A9 true v8.2,0⟩,none,none,none,some ⟨[.j s3.2.2.2.2.2.1,.j v6.1.Kind,.j v6.1.Valid,.j v6.1.Uid,.j v6.1.Next,.j v6.1.Flags,.str v6.1.User,.str v6.1.Name,.str v6.1.Text],0⟩]) [⟨[.lst true 1 (fl (encS true) s3.2.2.2.2.2.2.2.2.1) s3.2.2.2.2.2.2.2.2.1.length,.lst true 2 (fl (A1 true) s3.2.2.2.2.2.2.2.2.2.1) s3.2.2.2.2.2.2.2.2.2.1.length,.j s3.2.2.2.1,.lst true 4 (fl (A6 true) s3.2.2.2.2.2.2.2.2.2.2) s3.2.2.2.2.2.2.2.2.2.2.length,.j s3.2.2.2.2.1,.j s3.2.2.2.2.2.1,.j s3.2.2.2.2.2.2.1,.j s3.2.2.2.2.2.2.2.1],0⟩] [⟨A9 true v8.2,0⟩] [2] (Fa e8) ?_);refine rl.done ?_
    refine RW.gh (Gh.expose (b:=2) (j:=0) rfl rfl (by decide) (ekS.fown _)) ?_
    refine RW.gh (Gh.expose (b:=2) (j:=1) rfl rfl (by decide) (B4.fown _)) ?_
    refine RW.gh (Gh.expose (b:=2) (j:=3) rfl rfl (by decide) (B3.fown _)) ?_
    refine RW.reg (rl.f 3 rfl ?_);cases h12
    exact hB3 _ rfl _ _ (Gh.rN [0,1,2,7,8,9])
 ·intro y4 hC
  subst hC;refine RW.sf 2 rfl (RW.ret ?_);cases h4
  exact RRetM.m [0,3,4,5] Gh.refl
theorem Ur {x0:List Int} {r:TLog} (hF:Bw x0=some r):B2 Tryz.prog 9 [L_B x0] (.agg (A9 true r)):=by
 refine B2.q Yw ?_;unfold Bw at hF;refine RW.sf 1 rfl ?_
 refine RW.pin 0 rfl fun B1 o1=>?_
 refine RW.sr 1 rfl ?_;obtain ⟨v2,e2,h1⟩:=A2 hF;refine rl.call rfl rfl rfl (A7.eN (r0:=.ptr 1 0) (H':=[some ⟨[.nils,.nils,.j 0,.nils,.j 0,.j 0,.j 0,.j 0],0⟩,some ⟨[pvB B1 o1 x0,.j v2.mI,.j v2.mH],0⟩]) [] [] [⟨[pvB B1 o1 x0,.j v2.mI,.j v2.mH],0⟩] [] [pvB B1 o1 x0] (Ho e2) ?_);obtain ⟨v3,e3,h2⟩:=A2 h1;refine rl.call rfl rfl rfl (A7.eN (r0:=.agg (C0 2 3 4 v3.1)) (H':=[some ⟨[.nils,.nils,.j 0,.nils,.j 0,.j 0,.j 0,.j 0],0⟩,some ⟨[pvB B1 o1 x0,.j v3.2.mI,.j v3.2.mH],0⟩,some ⟨fl (encS true) v3.1.Disk.Sectors,1⟩,some ⟨fl (A1 true) v3.1.Disk.Cache,2⟩,some ⟨fl (A6 true) v3.1.Used,4⟩]) [⟨[pvB B1 o1 x0,.j v2.mI,.j v2.mH],0⟩] [⟨[pvB B1 o1 x0,.j v3.2.mI,.j v3.2.mH],0⟩] [⟨fl (encS true) v3.1.Disk.Sectors,1⟩,⟨fl (A1 true) v3.1.Disk.Cache,2⟩,⟨fl (A6 true) v3.1.Used,4⟩] [1] [pvB B1 o1 x0] (Qq e3) ?_);refine rl.f 1 rfl (RW.ret ?_);cases h2
 exact RRet.y
theorem Ph {x0:List Int} {r:Bool} (hF:Cv x0=some r):B2 Tryz.prog 5 [L_B x0] (.bool r):=by
 refine B2.q Ta ?_;unfold Cv at hF;refine RW.sf 1 rfl (RW.seq (RW.sr 1 rfl ?_));obtain ⟨v1,e1,h1⟩:=A2 hF;refine rl.call rfl rfl rfl (A7.y (r':=.bool v1) (A1z e1) ?_)
 cases hb:v1
 ·have h2:=A3 h1 hb;refine rl.done (RW.cond_f rfl (RW.skip (RW.sr 1 rfl ?_)));obtain ⟨v2,e2,h3⟩:=A2 h2;refine rl.call rfl rfl rfl (A7.y (r':=.agg (A9 false v2)) (Ur e2) ?_);refine rl.f 2 rfl (RW.sr 1 rfl ?_);obtain ⟨v3,e3,h4⟩:=A2 h3;refine rl.call rfl rfl rfl (A7.y (r':=.agg (C6 false v3)) (Tw e3) ?_);refine rl.f 2 rfl (RW.sr 2 rfl ?_);obtain ⟨v4,e4,h5⟩:=A2 h4;refine rl.call rfl rfl rfl (A7.y (r':=.tup [.agg (A9 false v4.1),.bool v4.2]) (Pd e4) ?_);refine rl.f 6 rfl ?_;refine RW.kp [3,4,5,6] [(3,.ptr 0 0),(4,.ptr 1 0),(5,.ptr 2 0),(6,.bool v4.2)] [some ⟨A9 false v2,0⟩,some ⟨C6 false v3,0⟩,some ⟨A9 false v4.1,0⟩] rfl rfl ?_;refine RW.sr 2 rfl ?_;obtain ⟨v5,e5,h6⟩:=A2 h5;refine rl.call rfl rfl rfl (A7.y (r':=.tup [.agg (A9 false v5.1),.bool v5.2]) (Pa e5) ?_);refine rl.f 6 rfl (RW.seq (RW.seq ?_));obtain ⟨y6,ey6,h7⟩:=A2 h6
  refine RW.cutq (σ:=Bool) (fun y6=>[(3,.ptr 0 0),(4,.ptr 1 0),(5,.ptr 2 0),(6,.bool v4.2),(46,.bool y6)]) (fun y6=>[some ⟨A9 false v2,0⟩,some ⟨C6 false v3,0⟩,some ⟨A9 false v4.1,0⟩]) (fun y=>y6=y) gg ?_ ?_
  ·refine RW.reg ?_;refine rl.run 2 rfl ?_
   refine rl.gen rfl rfl fun b hb=>?_
   cases b
   ·have h8:=A3 ey6 hb;refine rl.run 3 rfl ?_;obtain ⟨v7,e7,h9⟩:=A2 h8;refine rl.call rfl rfl rfl (A7.y (r':=.bool v7) (Jp e7) ?_)
    cases hb:v7
    ·have h10:=A3 h9 hb;refine rl.f 10 rfl ?_;cases h10
     exact ⟨_,rfl,(Gh.y0 [0,1,2])⟩
    ·have h11:=A4 h9 hb;refine rl.run 7 rfl ?_;obtain ⟨v8,e8,h12⟩:=A2 h11;refine rl.call rfl rfl rfl (A7.y (r':=.bool v8) (Qp e8) ?_)
     cases hb:v8
     ·have h13:=A3 h12 hb;refine rl.f 2 rfl ?_;cases h13
      exact ⟨_,rfl,(Gh.y0 [0,1,2])⟩
     ·have h14:=A4 h12 hb;refine rl.f 2 rfl ?_;cases h14
      exact ⟨_,rfl,(Gh.y0 [0,1,2])⟩
   ·have h15:=A4 ey6 hb;refine rl.f 14 rfl ?_;cases h15
    exact ⟨_,rfl,(Gh.y0 [0,1,2])⟩
  ·intro y hC
   subst hC
   cases hb:y6
   ·have h16:=A3 h7 hb;refine RW.cond_f rfl (RW.skip (RW.seq (RW.sf 2 rfl ?_)))
    cases hb:(!v4.2)
    ·have h17:=A3 h16 hb;refine RW.cond_f rfl (RW.skip (RW.sr 1 rfl ?_));obtain ⟨v9,e9,h18⟩:=A2 h17;refine rl.call rfl rfl rfl (A7.y (r':=E6 v9) (Fm e9) ?_);refine rl.f 1 rfl (RW.sr 1 rfl ?_);obtain ⟨v10,e10,h19⟩:=A2 h18;refine rl.call rfl rfl rfl (A7.y (r':=E6 v10) (Fc e10) ?_);refine rl.f 1 rfl (RW.sf 3 rfl (RW.seq ?_));obtain ⟨y11,ey11,h20⟩:=A2 h19
     refine RW.cutq (σ:=Bool) (fun y11=>[(2,.bool y11)]) (fun y11=>[]) (fun y=>y11=y) gg ?_ ?_
     ·refine RW.drw ?_;refine A0.op rfl rfl ?_;obtain ⟨v12,e12,h21⟩:=A2 ey11;refine A0.call rfl rfl rfl (A7.y (r':=.bool v12) (Gr e12) ⟨rfl,?_⟩)
      cases hb:v12
      ·have h22:=A3 h21 hb;refine A0.op rfl rfl (A0.off rfl (A0.off rfl (A0.off rfl (A0.off rfl (A0.off rfl (A0.op rfl rfl (A0.op rfl rfl (A0.off rfl (A0.off rfl (A0.off rfl (A0.off rfl ?_)))))))))));refine A0.off rfl (A0.op rfl rfl (A0.op rfl rfl (A0.off rfl (A0.off rfl (A0.off rfl (A0.off rfl (A0.off rfl (A0.off rfl (A0.off rfl (A0.op rfl rfl (A0.op rfl rfl ?_)))))))))));refine A0.off rfl (A0.off rfl (A0.off rfl (A0.off rfl (A0.off rfl (A0.off rfl (A0.off rfl (A0.off rfl (A0.op rfl rfl (A0.op rfl rfl (A0.off rfl (A0.off rfl ?_)))))))))));refine A0.off rfl (A0.off rfl (A0.off rfl (A0.off rfl (A0.op rfl rfl (A0.op rfl rfl (A0.done ?_))))));cases h22
       exact ⟨_,rfl,(Gh.y0 [])⟩
      ·have h23:=A4 h21 hb;refine A0.op rfl rfl (A0.op rfl rfl (A0.op rfl rfl (A0.op rfl rfl (A0.op rfl rfl ?_))))
       refine A0.gen rfl rfl fun b hb=>?_
       cases b
       ·have h24:=A3 h23 hb;refine A0.op rfl rfl (A0.op rfl rfl (A0.off rfl (A0.off rfl (A0.off rfl (A0.off rfl (A0.off rfl (A0.op rfl rfl (A0.op rfl rfl (A0.off rfl (A0.off rfl (A0.off rfl ?_)))))))))));refine A0.off rfl (A0.off rfl (A0.off rfl (A0.off rfl (A0.op rfl rfl (A0.op rfl rfl (A0.off rfl (A0.off rfl (A0.off rfl (A0.off rfl (A0.off rfl (A0.off rfl ?_)))))))))));refine A0.off rfl (A0.off rfl (A0.op rfl rfl (A0.op rfl rfl (A0.off rfl (A0.off rfl (A0.off rfl (A0.off rfl (A0.off rfl (A0.off rfl (A0.op rfl rfl (A0.op rfl rfl ?_)))))))))));refine A0.done ?_;cases h24
        exact ⟨_,rfl,(Gh.y0 [])⟩
       ·have h25:=A4 h23 hb;refine A0.op rfl rfl (A0.op rfl rfl (A0.op rfl rfl (A0.op rfl rfl ?_)));obtain ⟨v13,e13,h26⟩:=A2 h25;refine A0.op rfl (A58 B9 rfl rfl rfl Jt e13) ?_;refine A0.op rfl rfl ?_;obtain ⟨v14,e14,h27⟩:=A2 h26;refine A0.call rfl rfl rfl (A7.y (r':=.bool v14) (Mw e14) ⟨rfl,?_⟩)
        cases hb:v14
        ·have h28:=A3 h27 hb;refine A0.op rfl rfl (A0.op rfl rfl (A0.off rfl (A0.off rfl (A0.off rfl (A0.off rfl (A0.off rfl (A0.off rfl (A0.off rfl (A0.op rfl rfl (A0.op rfl rfl (A0.off rfl ?_)))))))))));refine A0.off rfl (A0.off rfl (A0.off rfl (A0.off rfl (A0.off rfl (A0.off rfl (A0.off rfl (A0.op rfl rfl (A0.op rfl rfl (A0.off rfl (A0.off rfl (A0.off rfl ?_)))))))))));refine A0.off rfl (A0.off rfl (A0.off rfl (A0.op rfl rfl (A0.op rfl rfl (A0.done ?_)))));cases h28
         exact ⟨_,rfl,(Gh.y0 [])⟩
        ·have h29:=A4 h27 hb;refine A0.op rfl rfl (A0.op rfl rfl (A0.op rfl rfl (A0.op rfl rfl ?_)));obtain ⟨v15,e15,h30⟩:=A2 h29;refine A0.op rfl (B8 (enc:=A8) (o:=false) rfl rfl rfl e15) ?_;refine A0.op rfl rfl ?_;refine A0.op rfl (F6 (off':=1) (vs:=(C6 false v15.Rec)) B9 rfl e15 rfl rfl rfl) ?_;refine A0.op rfl rfl ?_
         refine A0.gen rfl rfl fun b hb=>?_
         cases b
         ·have h31:=A3 h30 hb;refine A0.op rfl rfl (A0.op rfl rfl (A0.off rfl (A0.off rfl (A0.off rfl (A0.off rfl (A0.off rfl (A0.off rfl (A0.off rfl (A0.off rfl (A0.op rfl rfl (A0.op rfl rfl ?_)))))))))));refine A0.off rfl (A0.off rfl (A0.off rfl (A0.off rfl (A0.off rfl (A0.off rfl (A0.op rfl rfl (A0.op rfl rfl (A0.done ?_))))))));cases h31
          exact ⟨_,rfl,(Gh.y0 [])⟩
         ·have h32:=A4 h30 hb;refine A0.op rfl rfl (A0.op rfl rfl (A0.op rfl rfl (A0.op rfl rfl ?_)));obtain ⟨v16,e16,h33⟩:=A2 h32;refine A0.op rfl (B8 (enc:=A8) (o:=false) rfl rfl rfl e16) ?_;refine A0.op rfl rfl ?_;refine A0.op rfl (E2 (off':=0) B9 rfl e16 rfl rfl rfl) ?_;refine A0.op rfl rfl (A0.op rfl rfl ?_)
          refine A0.gen rfl rfl fun b hb=>?_
          cases b
          ·have h34:=A3 h33 hb;refine A0.op rfl rfl (A0.op rfl rfl (A0.off rfl (A0.off rfl (A0.off rfl (A0.off rfl (A0.off rfl (A0.off rfl (A0.op rfl rfl (A0.op rfl rfl (A0.done ?_))))))))));cases h34
           exact ⟨_,rfl,(Gh.y0 [])⟩
          ·have h35:=A4 h33 hb;refine A0.op rfl rfl (A0.op rfl rfl (A0.op rfl rfl (A0.op rfl rfl (A0.op rfl rfl (A0.op rfl rfl (A0.op rfl rfl (A0.op rfl rfl (A0.op rfl rfl (A0.op rfl rfl (A0.done ?_))))))))));cases h35
           exact ⟨_,rfl,(Gh.y0 [])⟩
     ·intro y hC
      subst hC;refine RW.ret ?_;cases h20
      exact RRet.y
    ·have h36:=A4 h16 hb;refine RW.cond_t rfl (RW.sr 2 rfl ?_);obtain ⟨v17,e17,h37⟩:=A2 h36;refine rl.call rfl rfl rfl (A7.y (r':=.bool v17) (Jp e17) ?_)
     cases hb:v17
     ·have h38:=A3 h37 hb;refine rl.f 5 rfl ?_;refine RW.kp [2] [(2,.bool false)] [some ⟨A9 false v2,0⟩,some ⟨C6 false v3,0⟩,some ⟨A9 false v4.1,0⟩] rfl rfl ?_;refine RW.ret ?_;cases h38
      exact RRet.y
     ·have h39:=A4 h37 hb;refine rl.run 2 rfl ?_;obtain ⟨v18,e18,h40⟩:=A2 h39;refine rl.call rfl rfl rfl (A7.y (r':=.bool v18) (Gr e18) ?_);refine rl.f 2 rfl ?_;refine RW.kp [2] [(2,.bool v18)] [some ⟨A9 false v2,0⟩,some ⟨C6 false v3,0⟩,some ⟨A9 false v4.1,0⟩] rfl rfl ?_;refine RW.ret ?_;cases h40
      exact RRet.y
   ·have h41:=A4 h7 hb;refine RW.cond_t rfl (RW.sf 1 rfl (RW.ret ?_));cases h41
    exact RRet.y
 ·have h42:=A4 h1 hb;refine rl.done (RW.cond_t rfl (RW.sf 1 rfl (RW.ret ?_)));cases h42
  exact RRet.y
end Go.Proofs.YtldndhdohlfpgaaGreat.V
