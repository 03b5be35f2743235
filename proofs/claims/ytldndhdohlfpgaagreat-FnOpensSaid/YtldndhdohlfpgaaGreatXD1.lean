/- What a call comes to. -/
import Derived.Test.YtldndhdohlfpgaaGreatXD0
namespace Go.Proofs.YtldndhdohlfpgaaGreat.V
open Go Go.Proofs Go.RowKit
set_option maxRecDepth 100000
theorem L2 {x0 : TDisk} {r : TDisk} (hF : H6 x0 = some r) : B3 Tryz.prog 64 [.agg (A6 false x0)] (.agg (A6 true r)):=by
 refine B3.of_r Wh rfl ?_
 unfold H6 at hF
 refine RW.sreg (rl.run 2 rfl (rl.done (RW.sdrw (A0.op rfl rfl (A0.op rfl rfl ?_)))))
 obtain ⟨v1,e1,h1⟩:=A3 hF
 refine A0.ccall rfl rfl rfl (A7.own (r':=.sl 2 0 v1.length) (H':=[some ⟨A6 false x0,0⟩,some ⟨[.nils,.nils],0⟩,some ⟨fl (encS true) v1,1⟩]) Ji (Jd e1) (.cons (.lst ekS) .nil) (.lst (ekS.fown _)) rfl ?_)
 refine A0.opA rfl rfl (.here (.rx rfl) .nil) ?_
 refine A0.opA rfl rfl (.here (.rx rfl) .nil) ?_
 obtain ⟨v2,e2,h2⟩:=A3 h1
 refine A0.ccall rfl rfl rfl (A7.own (r':=.sl 3 0 v2.length) (H':=[some ⟨A6 false x0,0⟩,some ⟨[.nils,.nils],0⟩,some ⟨fl (encS true) v1,1⟩,some ⟨fl (A2 true) v2,2⟩]) Ki (Jr e2) (.cons (.lst A1) .nil) (.lst (A1.fown _)) rfl ?_)
 refine A0.op rfl rfl ?_
 refine A0.chn rfl rfl ?_
 refine A0.done (RW.ret ?_)
 cases h2
 exact RRet.mk rfl (OutL.agg (.cons (OutR.ownq ekS rfl rfl) rfl (.cons (OutR.ownq A1 rfl rfl) rfl .nil))) (by first | decide | simp)
theorem Dt {x0 : TLog} {r : TLog} (hF : Q1 x0 = some r) : B3 Tryz.prog 53 [.agg (B5 false x0)] (.agg (B5 true r)):=by
 refine B3.of_r Zv rfl ?_
 unfold Q1 at hF
 refine RW.sreg (rl.run 2 rfl (rl.done (RW.sreg (rl.run 3 rfl (rl.done (RW.sreg (rl.run 2 rfl ?_)))))))
 obtain ⟨v1,e1,h1⟩:=A3 hF
 refine rl.call rfl rfl rfl (A7.own (r':=.agg (B8 3 4 v1)) (H':=[some ⟨B5 false x0,0⟩,some ⟨[.nils,.nils,.j 0,.nils,.j 0,.j 0,.j 0,.j 0],0⟩,some ⟨B5 false x0,0⟩,some ⟨fl (encS true) v1.Sectors,1⟩,some ⟨fl (A2 true) v1.Cache,2⟩]) L5 (L2 e1) (.cons (DFL.agg (.cons (.lst ekS) (.cons (.lst A1) .nil))) .nil) (C9.own _) rfl ?_)
 refine rl.run 2 rfl (rl.done (RW.sreg (rl.run 2 rfl (rl.done (RW.seq (RW.sreg (rl.run 4 rfl (rl.done ?_))))))))
 refine RW.gh (Gh.nil_c 2 3 4 rfl rfl) ?_
 obtain ⟨y7,ey7,h3⟩:=A3 h1
 refine RW.cutq (σ:=(List TSeg)) (fun y3=>[(2,.ptr 0 0),(3,.ptr 1 0)]) (fun y3=>[some ⟨[.nils,.nils,.j 0,.nils,.j 0,.j 0,.j 0,.j 0],0⟩,some ⟨[.sl 2 0 v1.Sectors.length,.sl 3 0 v1.Cache.length,.j x0.Segs,.sl 4 0 y3.length,.j x0.NextGen,.j x0.NextSeq,.j x0.Stamp,.j x0.NextValid],0⟩,some ⟨fl (encS true) v1.Sectors,1⟩,some ⟨fl (A2 true) v1.Cache,2⟩,some ⟨fl (A8 true) y3,4⟩]) (fun y=>y7 = y) (fun _ _ _ _ g h=>RW.gh g h) ?_ ?_
 ·refine RW.blk ?_
  refine RW.iter (σ:=Int × (List TSeg)) ey7 (fun s2=>[(2,.ptr 0 0),(3,.ptr 1 0),(13,Fa x0.Used),(14,.j (x0.Used.length : Int)),(15,.j s2.1)]) (fun s2=>[some ⟨[.nils,.nils,.j 0,.nils,.j 0,.j 0,.j 0,.j 0],0⟩,some ⟨[.sl 2 0 v1.Sectors.length,.sl 3 0 v1.Cache.length,.j x0.Segs,.sl 4 0 s2.2.length,.j x0.NextGen,.j x0.NextSeq,.j x0.Stamp,.j x0.NextValid],0⟩,some ⟨fl (encS true) v1.Sectors,1⟩,some ⟨fl (A2 true) v1.Cache,2⟩,some ⟨fl (A8 true) s2.2,4⟩]) (Gh.ren0 [1,2,3,4,5] (.cells rfl rfl .z8 (.cells rfl rfl (.slq rfl rfl (.slq rfl rfl (.keep .int (.slq rfl rfl (.keep .int (.keep .int (.keep .int (.keep .int .nil)))))))) (.same rfl (ekS.fref _ _) (.same rfl (A1.fref _ _) (.same rfl (A9.fref _ _) .nil))))) rfl (.p rfl rfl (.p rfl rfl (.cons rfl (.dat (A9.rlst)) (.i rfl (.i rfl .nil)))))) (fun s2 B o hS2 hB2 hE2=>?_)
  unfold P9 at hS2
  refine RW.sreg ?_
  refine rl.gen rfl rfl fun b hb=>?_
  cases b
  ·have h4:=A5 hS2 hb
   refine rl.done (RW.seq (RW.cond_f rfl (RW.exit (D0 ?_))))
   cases h4
   exact ⟨_,(hE2 _ rfl).symm,(Gh.ren0 [0,1,2,3,4] (.cells rfl rfl .z8 (.cells rfl rfl (.slq rfl rfl (.slq rfl rfl (.keep .int (.slq rfl rfl (.keep .int (.keep .int (.keep .int (.keep .int .nil)))))))) (.same rfl (ekS.fref _ _) (.same rfl (A1.fref _ _) (.same rfl (A9.fref _ _) .nil))))) rfl (.p rfl rfl (.p rfl rfl .nil)))⟩
  ·have h5:=A4 hS2 hb
   refine rl.done (RW.seq (RW.cond_t rfl (RW.skip (RW.seq (RW.blk (RW.sreg ?_))))))
   obtain ⟨v4,e4,h6⟩:=A3 h5
   refine rl.op (C1 (enc:=A8) (o:=false) rfl rfl rfl e4) ?_
   refine rl.op (K5 (off':=0) (vs:=(A8 false v4)) A9 rfl e4 rfl rfl rfl) ?_
   refine rl.run 2 rfl (rl.done (RW.sreg (rl.run 2 rfl ?_)))
   obtain ⟨v5,e5,h7⟩:=A3 h6
   refine rl.call rfl rfl rfl (A7.own (r':=.sl 6 0 v5.length) (H':=[some ⟨[.nils,.nils,.j 0,.nils,.j 0,.j 0,.j 0,.j 0],0⟩,some ⟨[.sl 2 0 v1.Sectors.length,.sl 3 0 v1.Cache.length,.j x0.Segs,.sl 4 0 s2.2.length,.j x0.NextGen,.j x0.NextSeq,.j x0.Stamp,.j x0.NextValid],0⟩,some ⟨fl (encS true) v1.Sectors,1⟩,some ⟨fl (A2 true) v1.Cache,2⟩,some ⟨fl (A8 true) s2.2,4⟩,some ⟨A8 false v4,0⟩,some ⟨fl (B2 true) v5,9⟩]) Lo (Kg e5) (.cons (.lst B4) .nil) (.lst (B4.fown _)) rfl ?_)
   refine rl.run 2 rfl (rl.done (RW.reg (rl.run 4 rfl ?_)))
   obtain ⟨v6,e6,h8⟩:=A3 h7
   refine rl.op (Z4 rfl rfl (Tn A9 rfl rfl (A4b rfl rfl rfl) e6)) ?_
   refine rl.run 2 rfl (rl.done ?_)
   refine RW.gh (Gh.absorb_rawq (b:=8) (j:=3) (m:=6) rfl rfl rfl (by decide) (by decide) rfl (B4.flen true _) (B4.fown _)) ?_
   refine RW.gh (Gh.blk (b:=8) rfl (A03 (enc:=A8) e6 rfl)) ?_
   refine RW.reg (rl.run 2 rfl (rl.done ?_))
   cases h8
   exact hB2 _ rfl _ _ (Gh.ren0 [0,1,2,3,8] (.cells rfl rfl .z8 (.cells rfl rfl (.slq rfl rfl (.slq rfl rfl (.keep .int (.slq rfl rfl (.keep .int (.keep .int (.keep .int (.keep .int .nil)))))))) (.same rfl (ekS.fref _ _) (.same rfl (A1.fref _ _) (.same rfl (A9.fref _ _) .nil))))) rfl (.p rfl rfl (.p rfl rfl (.cons rfl (.dat (A9.rlst)) (.i rfl (.i rfl .nil))))))
 ·intro y3 hC
  subst hC
  refine RW.sreg (rl.run 2 rfl (rl.done (RW.ret ?_)))
  cases h3
  exact RRet.mk rfl (OutL.agg (.cons (OutR.ownq ekS rfl rfl) rfl (.cons (OutR.ownq A1 rfl rfl) rfl (.i (.cons (OutR.ownq A9 rfl rfl) rfl (.i (.i (.i (.i .nil))))))))) (by first | decide | simp)
theorem Pr {x0 : TDisk} {r : TDisk} (hF : M9 x0 = some r) : B3 Tryz.prog 70 [.agg (A6 false x0)] (.agg (A6 true r)):=by
 refine B3.of_r Uw rfl ?_
 unfold M9 at hF
 refine RW.sreg (rl.run 2 rfl (rl.done (RW.sreg (rl.run 1 rfl ?_))))
 obtain ⟨v1,e1,h1⟩:=A3 hF
 refine rl.call rfl rfl rfl (A7.own (r':=.agg (B8 2 3 v1)) (H':=[some ⟨A6 false x0,0⟩,some ⟨[.nils,.nils],0⟩,some ⟨fl (encS true) v1.Sectors,1⟩,some ⟨fl (A2 true) v1.Cache,2⟩]) L5 (L2 e1) (.cons (DFL.agg (.cons (.lst ekS) (.cons (.lst A1) .nil))) .nil) (C9.own _) rfl ?_)
 refine rl.run 2 rfl (rl.done (RW.seq (RW.sreg (rl.run 1 rfl ?_))))
 obtain ⟨v2,e2,h2⟩:=A3 h1
 refine rl.call rfl rfl rfl (A7.val (r':=.bool v2) Dq (Cr e2) (.cons (DFL.agg (.cons (.lst ekS) (.cons (.lst A1) .nil))) .nil) .refl ?_)
 cases hb : v2
 ·have h3:=A5 h2 hb
  refine rl.run 1 rfl (rl.done (RW.cond_t rfl (RW.sreg (rl.run 2 rfl (rl.done (RW.ret ?_))))))
  cases h3
  exact RRet.mk rfl (OutL.agg (.cons (OutR.ownq ekS rfl rfl) rfl (.cons (OutR.ownq A1 rfl rfl) rfl .nil))) (by first | decide | simp)
 ·have h4:=A4 h2 hb
  refine rl.run 1 rfl (rl.done (RW.cond_f rfl (RW.skip (RW.seq (RW.sreg (rl.run 4 rfl (rl.done ?_)))))))
  obtain ⟨y8,ey8,h6⟩:=A3 h4
  refine RW.cutq (σ:=(List (List UInt8))) (fun y4=>[(2,.ptr 0 0),(3,.ptr 1 0)]) (fun y4=>[some ⟨[.nils,.nils],0⟩,some ⟨[.sl 2 0 y4.length,.sl 3 0 v1.Cache.length],0⟩,some ⟨fl (encS true) y4,1⟩,some ⟨fl (A2 true) v1.Cache,2⟩]) (fun y=>y8 = y) (fun _ _ _ _ g h=>RW.gh g h) ?_ ?_
  ·refine RW.blk ?_
   refine RW.iter (σ:=Int × (List (List UInt8))) ey8 (fun s3=>[(2,.ptr 0 0),(3,.ptr 1 0),(13,Hz x0.Cache),(14,.j (x0.Cache.length : Int)),(15,.j s3.1)]) (fun s3=>[some ⟨[.nils,.nils],0⟩,some ⟨[.sl 2 0 s3.2.length,.sl 3 0 v1.Cache.length],0⟩,some ⟨fl (encS true) s3.2,1⟩,some ⟨fl (A2 true) v1.Cache,2⟩]) (Gh.ren0 [1,4,2,3] (.cells rfl rfl .z9 (.cells rfl rfl (.slq rfl rfl (.slq rfl rfl .nil)) (.same rfl (ekS.fref _ _) (.same rfl (A1.fref _ _) .nil)))) rfl (.p rfl rfl (.p rfl rfl (.cons rfl (.dat (A1.rlst)) (.i rfl (.i rfl .nil)))))) (fun s3 B o hS5 hB5 hE5=>?_)
   unfold Y9 at hS5
   refine RW.sreg ?_
   refine rl.gen rfl rfl fun b hb=>?_
   cases b
   ·have h7:=A5 hS5 hb
    refine rl.done (RW.seq (RW.cond_f rfl (RW.exit (D0 ?_))))
    cases h7
    exact ⟨_,(hE5 _ rfl).symm,(Gh.ren0 [0,1,2,3] (.cells rfl rfl .z9 (.cells rfl rfl (.slq rfl rfl (.slq rfl rfl .nil)) (.same rfl (ekS.fref _ _) (.same rfl (A1.fref _ _) .nil)))) rfl (.p rfl rfl (.p rfl rfl .nil)))⟩
   ·have h8:=A4 hS5 hb
    refine rl.done (RW.seq (RW.cond_t rfl (RW.skip (RW.seq (RW.blk (RW.sreg ?_))))))
    obtain ⟨v5,e5,h9⟩:=A3 h8
    refine rl.op (C1 (enc:=A2) (o:=false) rfl rfl rfl e5) ?_
    refine rl.op (K5 (off':=0) (vs:=(A2 false v5)) A1 rfl e5 rfl rfl rfl) ?_
    refine rl.run 2 rfl (rl.done (RW.reg (rl.run 6 rfl ?_)))
    obtain ⟨v6,e6,h10⟩:=A3 h9
    refine rl.op (Eo rfl rfl rfl rfl e6) ?_
    obtain ⟨v7,e7,h11⟩:=A3 h10
    refine rl.op0 (A0w (off':=0) (o:=true) (e':=v5.Text) ekS e6 rfl rfl rfl rfl rfl rfl rfl rfl rfl e7) ?_
    refine rl.done (RW.reg (rl.run 2 rfl (rl.done ?_)))
    cases h11
    exact hB5 _ rfl _ _ (Gh.ren0 [0,1,2,3] (.cells rfl rfl .z9 (.cells rfl rfl (.slq rfl (Ao e7) (.slq rfl rfl .nil)) (.same rfl (ekS.fref _ _) (.same rfl (A1.fref _ _) .nil)))) rfl (.p rfl rfl (.p rfl rfl (.cons rfl (.dat (A1.rlst)) (.i rfl (.i rfl .nil))))))
  ·intro y4 hC
   subst hC
   refine RW.sreg (rl.run 2 rfl (rl.done (RW.sreg (rl.run 2 rfl (rl.done (RW.ret ?_))))))
   cases h6
   exact RRet.mk rfl (OutL.agg (.cons (OutR.ownq ekS rfl rfl) rfl (.cons (OutR.nil (enc:=A2)) rfl .nil))) (by first | decide | simp)
theorem Kq {x0 : TDisk} {x1 : Int} {x2 : List UInt8} {r : TDisk × Bool} (hF : T2 x0 x1 x2 = some r) : B3 Tryz.prog 133 [.agg (A6 false x0),.j x1,.str x2] (.tup [.agg (A6 true r.1),.bool r.2]):=by
 refine B3.of_r Ps rfl ?_
 unfold T2 at hF
 refine RW.sreg (rl.run 3 rfl (rl.done (RW.sreg (rl.run 1 rfl ?_))))
 obtain ⟨v1,e1,h1⟩:=A3 hF
 refine rl.call rfl rfl rfl (A7.own (r':=.agg (B8 2 3 v1)) (H':=[some ⟨A6 false x0,0⟩,some ⟨[.nils,.nils],0⟩,some ⟨fl (encS true) v1.Sectors,1⟩,some ⟨fl (A2 true) v1.Cache,2⟩]) L5 (L2 e1) (.cons (DFL.agg (.cons (.lst ekS) (.cons (.lst A1) .nil))) .nil) (C9.own _) rfl ?_)
 refine rl.run 2 rfl (rl.done (RW.sreg (rl.run 6 rfl ?_)))
 obtain ⟨v2,e2,h2⟩:=A3 h1
 refine rl.op (Z4 rfl rfl (V5 (l:=v1.Cache) (m:=[({ At:=x1,Text:=x2 } : TWrite)]) (o:=true) A1 rfl rfl (P8 (m:=[({ At:=x1,Text:=x2 } : TWrite)]) (o:=true) Ef rfl rfl) rfl (Ef.fst _ _) e2)) ?_
 refine rl.run 2 rfl (rl.done ?_)
 refine RW.kp [3,6,8] [(3,.ptr 0 0),(6,.ptr 1 0),(8,.ptr 4 0)] [some ⟨A6 false x0,0⟩,some ⟨[.nils,.nils],0⟩,some ⟨fl (encS true) v1.Sectors,1⟩,none,some ⟨[.sl 2 0 v1.Sectors.length,.sl 6 0 v2.length],0⟩,some ⟨fl (A2 true) [({ At:=x1,Text:=x2 } : TWrite)],2⟩,some ⟨fl (A2 true) v2,2⟩] rfl rfl ?_
 refine RW.seq (RW.seq ?_)
 obtain ⟨y3,ey3,h3⟩:=A3 h2
 refine RW.cutq (σ:=Bool) (fun y3=>[(3,.ptr 0 0),(6,.ptr 1 0),(8,.ptr 2 0),(26,.bool y3)]) (fun y3=>[some ⟨A6 false x0,0⟩,some ⟨[.nils,.nils],0⟩,some ⟨[.sl 3 0 v1.Sectors.length,.sl 4 0 v2.length],0⟩,some ⟨fl (encS true) v1.Sectors,1⟩,some ⟨fl (A2 true) v2,2⟩]) (fun y=>y3 = y) (fun _ _ _ _ g h=>RW.gh g h) ?_ ?_
 ·refine RW.reg ?_
  refine rl.run 1 rfl ?_
  obtain ⟨v4,e4,h4⟩:=A3 ey3
  refine rl.call rfl rfl rfl (A7.val (r':=.bool v4) Dq (Cr e4) (.cons (DFL.agg (.cons (.lst ekS) (.cons (.lst A1) .nil))) .nil) .refl ?_)
  cases hb : v4
  ·have h5:=A5 h4 hb
   refine rl.run 6 rfl (rl.done ?_)
   cases h5
   exact ⟨_,rfl,(Gh.ren0 [0,1,4,2,6] (.cells rfl rfl .z4 (.cells rfl rfl .z9 (.cells rfl rfl (.slq rfl rfl (.slq rfl rfl .nil)) (.same rfl (ekS.fref _ _) (.same rfl (A1.fref _ _) .nil))))) rfl (.p rfl rfl (.p rfl rfl (.p rfl rfl (.b rfl .nil)))))⟩
  ·have h6:=A4 h4 hb
   refine rl.run 3 rfl ?_
   obtain ⟨v5,e5,h7⟩:=A3 h6
   refine rl.call rfl rfl rfl (A7.val (r':=.bool v5) Dq (Cr e5) (.cons (DFL.agg (.cons (.slq ekS rfl rfl) (.cons (.slq A1 rfl rfl) .nil))) .nil) .refl ?_)
   cases hb : v5
   ·have h8:=A5 h7 hb
    refine rl.run 2 rfl (rl.done ?_)
    cases h8
    exact ⟨_,rfl,(Gh.ren0 [0,1,4,2,6] (.cells rfl rfl .z4 (.cells rfl rfl .z9 (.cells rfl rfl (.slq rfl rfl (.slq rfl rfl .nil)) (.same rfl (ekS.fref _ _) (.same rfl (A1.fref _ _) .nil))))) rfl (.p rfl rfl (.p rfl rfl (.p rfl rfl (.b rfl .nil)))))⟩
   ·have h9:=A4 h7 hb
    refine rl.run 2 rfl (rl.done ?_)
    cases h9
    exact ⟨_,rfl,(Gh.ren0 [0,1,4,2,6] (.cells rfl rfl .z4 (.cells rfl rfl .z9 (.cells rfl rfl (.slq rfl rfl (.slq rfl rfl .nil)) (.same rfl (ekS.fref _ _) (.same rfl (A1.fref _ _) .nil))))) rfl (.p rfl rfl (.p rfl rfl (.p rfl rfl (.b rfl .nil)))))⟩
 ·intro y hC
  subst hC
  cases hb : y3
  ·have h10:=A5 h3 hb
   refine RW.cond_f rfl (RW.skip (RW.sreg (rl.run 3 rfl (rl.done (RW.ret ?_)))))
   cases h10
   exact RRet.mk rfl (OutT.tup (.cons (OutL.agg (.cons (OutR.ownq ekS rfl rfl) rfl (.cons (OutR.ownq A1 rfl rfl) rfl .nil))) (.cons .bool .nil))) (by first | decide | simp)
  ·have h11:=A4 h3 hb
   refine RW.cond_t rfl (RW.sreg (rl.run 1 rfl ?_))
   obtain ⟨v6,e6,h12⟩:=A3 h11
   refine rl.call rfl rfl rfl (A7.own (r':=.agg (B8 5 6 v6)) (H':=[some ⟨A6 false x0,0⟩,some ⟨[.nils,.nils],0⟩,some ⟨[.sl 3 0 v1.Sectors.length,.sl 4 0 v2.length],0⟩,some ⟨fl (encS true) v1.Sectors,1⟩,some ⟨fl (A2 true) v2,2⟩,some ⟨fl (encS true) v6.Sectors,1⟩,some ⟨fl (A2 true) v6.Cache,2⟩]) L5 (L2 e6) (.cons (DFL.agg (.cons (.lst ekS) (.cons (.lst A1) .nil))) .nil) (C9.own _) rfl ?_)
   refine rl.run 2 rfl (rl.done (RW.ret ?_))
   cases h12
   exact RRet.mk rfl (OutT.tup (.cons (OutL.agg (.cons (OutR.ownq ekS rfl rfl) rfl (.cons (OutR.ownq A1 rfl rfl) rfl .nil))) (.cons .bool .nil))) (by first | decide | simp)
set_option maxHeartbeats 2000000 in
theorem Mo {x0 : TDisk} {x1 : Int} {x2 : Int} {x3 : List UInt8} {r : TDisk × Bool} (hF : U5 x0 x1 x2 x3 = some r) : B3 Tryz.prog 68 [.agg (A6 false x0),.j x1,.j x2,.str x3] (.tup [.agg (A6 true r.1),.bool r.2]):=by
 refine B3.of_r Uf rfl ?_
 unfold U5 at hF
 refine RW.sreg (rl.run 3 rfl (rl.done (RW.sreg (rl.run 1 rfl ?_))))
 obtain ⟨v1,e1,h1⟩:=A3 hF
 refine rl.call rfl rfl rfl (A7.own (r':=.agg (B8 2 3 v1)) (H':=[some ⟨A6 false x0,0⟩,some ⟨[.nils,.nils],0⟩,some ⟨fl (encS true) v1.Sectors,1⟩,some ⟨fl (A2 true) v1.Cache,2⟩]) L5 (L2 e1) (.cons (DFL.agg (.cons (.lst ekS) (.cons (.lst A1) .nil))) .nil) (C9.own _) rfl ?_)
 refine rl.run 2 rfl (rl.done (RW.seq (RW.seq ?_)))
 obtain ⟨y2,ey2,h2⟩:=A3 h1
 refine RW.cutq (σ:=Bool) (fun y2=>[(1,.j x1),(2,.j x2),(3,.str x3),(4,.ptr 0 0),(8,.ptr 1 0),(10,.ptr 2 0),(30,.bool y2)]) (fun y2=>[some ⟨A6 false x0,0⟩,some ⟨[.nils,.nils],0⟩,some ⟨B8 3 4 v1,0⟩,some ⟨fl (encS true) v1.Sectors,1⟩,some ⟨fl (A2 true) v1.Cache,2⟩]) (fun y=>y2 = y) (fun _ _ _ _ g h=>RW.gh g h) ?_ ?_
 ·refine RW.reg ?_
  refine rl.run 1 rfl ?_
  obtain ⟨v3,e3,h3⟩:=A3 ey2
  refine rl.call rfl rfl rfl (A7.val (r':=.bool v3) D8 (C8 e3) (.cons .int (.cons .int (.cons .int .nil))) .refl ?_)
  cases hb : v3
  ·have h4:=A5 h3 hb
   refine rl.run 10 rfl (rl.done ?_)
   cases h4
   exact ⟨_,rfl,(Gh.ren0 [0,1,4,2,3] (.cells rfl rfl .z4 (.cells rfl rfl .z9 (.cells rfl rfl (.slq rfl rfl (.slq rfl rfl .nil)) (.same rfl (ekS.fref _ _) (.same rfl (A1.fref _ _) .nil))))) rfl (.i rfl (.i rfl (.s rfl (.p rfl rfl (.p rfl rfl (.p rfl rfl (.b rfl .nil))))))))⟩
  ·have h5:=A4 h3 hb
   refine rl.run 7 rfl ?_
   obtain ⟨v4,e4,h6⟩:=A3 h5
   refine rl.call rfl rfl rfl (A7.val (r':=.bool v4) D8 (C8 e4) (.cons .int (.cons .int (.cons .int .nil))) .refl ?_)
   cases hb : v4
   ·have h7:=A5 h6 hb
    refine rl.run 2 rfl (rl.done ?_)
    cases h7
    exact ⟨_,rfl,(Gh.ren0 [0,1,4,2,3] (.cells rfl rfl .z4 (.cells rfl rfl .z9 (.cells rfl rfl (.slq rfl rfl (.slq rfl rfl .nil)) (.same rfl (ekS.fref _ _) (.same rfl (A1.fref _ _) .nil))))) rfl (.i rfl (.i rfl (.s rfl (.p rfl rfl (.p rfl rfl (.p rfl rfl (.b rfl .nil))))))))⟩
   ·have h8:=A4 h6 hb
    refine rl.run 2 rfl (rl.done ?_)
    cases h8
    exact ⟨_,rfl,(Gh.ren0 [0,1,4,2,3] (.cells rfl rfl .z4 (.cells rfl rfl .z9 (.cells rfl rfl (.slq rfl rfl (.slq rfl rfl .nil)) (.same rfl (ekS.fref _ _) (.same rfl (A1.fref _ _) .nil))))) rfl (.i rfl (.i rfl (.s rfl (.p rfl rfl (.p rfl rfl (.p rfl rfl (.b rfl .nil))))))))⟩
 ·intro y hC
  subst hC
  cases hb : y2
  ·have h9:=A5 h2 hb
   refine RW.cond_f rfl (RW.skip (RW.sreg (rl.run 1 rfl ?_)))
   obtain ⟨v5,e5,h10⟩:=A3 h9
   refine rl.call rfl rfl rfl (A7.own (r':=.agg (B8 5 6 v5)) (H':=[some ⟨A6 false x0,0⟩,some ⟨[.nils,.nils],0⟩,some ⟨B8 3 4 v1,0⟩,some ⟨fl (encS true) v1.Sectors,1⟩,some ⟨fl (A2 true) v1.Cache,2⟩,some ⟨fl (encS true) v5.Sectors,1⟩,some ⟨fl (A2 true) v5.Cache,2⟩]) L5 (L2 e5) (.cons (DFL.agg (.cons (.lst ekS) (.cons (.lst A1) .nil))) .nil) (C9.own _) rfl ?_)
   refine rl.run 2 rfl (rl.done (RW.seq ?_))
   obtain ⟨y17,ey17,h12⟩:=A3 h10
   refine RW.cutq (σ:=(List (List UInt8)) × (List TWrite)) (fun y7=>[(8,.ptr 0 0),(11,.ptr 1 0)]) (fun y7=>[some ⟨[.nils,.nils],0⟩,some ⟨[.sl 2 0 y7.1.length,.sl 3 0 y7.2.length],0⟩,some ⟨fl (encS true) y7.1,1⟩,some ⟨fl (A2 true) y7.2,2⟩]) (fun y=>y17 = .inr y) (fun _ _ _ _ g h=>RW.gh g h) ?_ ?_
   ·refine RW.blk ?_
    refine RW.iter (σ:=Int × (List UInt8) × (List (List UInt8)) × (List TWrite)) ey17 (fun s6=>[(1,.j x1),(2,.j s6.1),(3,.str s6.2.1),(8,.ptr 0 0),(10,.ptr 1 0),(11,.ptr 2 0)]) (fun s6=>[some ⟨[.nils,.nils],0⟩,some ⟨B8 3 4 v1,0⟩,some ⟨[.sl 5 0 s6.2.2.1.length,.sl 6 0 s6.2.2.2.length],0⟩,some ⟨fl (encS true) v1.Sectors,1⟩,some ⟨fl (A2 true) v1.Cache,2⟩,some ⟨fl (encS true) s6.2.2.1,1⟩,some ⟨fl (A2 true) s6.2.2.2,2⟩]) (Gh.ren0 [1,2,7,3,4,5,6] (.cells rfl rfl .z9 (.cells rfl rfl (.slq rfl rfl (.slq rfl rfl .nil)) (.cells rfl rfl (.slq rfl rfl (.slq rfl rfl .nil)) (.same rfl (ekS.fref _ _) (.same rfl (A1.fref _ _) (.same rfl (ekS.fref _ _) (.same rfl (A1.fref _ _) .nil))))))) rfl (.i rfl (.i rfl (.s rfl (.p rfl rfl (.p rfl rfl (.p rfl rfl .nil))))))) (fun s6 B o hS11 hB11 hE11=>?_)
    unfold J6 at hS11
    refine RW.seq (RW.sreg (rl.run 1 rfl ?_))
    refine rl.gen rfl rfl fun b hb=>?_
    cases b
    ·have h13:=A5 hS11 hb
     refine rl.done (RW.cond_f rfl (RW.exit (D0 ?_)))
     cases h13
     exact ⟨_,(hE11 _ rfl).symm,(Gh.ren0 [0,2,5,6] (.cells rfl rfl .z9 (.cells rfl rfl (.slq rfl rfl (.slq rfl rfl .nil)) (.same rfl (ekS.fref _ _) (.same rfl (A1.fref _ _) .nil)))) rfl (.p rfl rfl (.p rfl rfl .nil)))⟩
    ·have h14:=A4 hS11 hb
     refine rl.done (RW.cond_t rfl (RW.skip (RW.blk (RW.sreg (rl.run 5 rfl (rl.done (RW.sreg (rl.run 3 rfl (rl.done (RW.sreg (rl.run 2 rfl ?_)))))))))))
     obtain ⟨v8,e8,h15⟩:=A3 h14
     refine rl.call rfl rfl rfl (A7.val (r':=.tup [.str v8.1,.bool v8.2]) Fw (Fk e8) (.cons (DFL.agg (.cons (.slq ekS rfl rfl) (.cons (.slq A1 rfl rfl) .nil))) (.cons .int .nil)) (FlL.tup (.cons .refl (.cons .refl .nil))) ?_)
     refine rl.run 5 rfl (rl.done ?_)
     refine RW.kp [1,2,3,8,10,11,12,13,14,15] [(1,.j x1),(2,.j s6.1),(3,.str s6.2.1),(8,.ptr 0 0),(10,.ptr 1 0),(11,.ptr 2 0),(12,.j (w64 (x1 + (w64 (Int.tdiv s6.1 32))))),(13,.j (Int.tmod s6.1 32)),(14,.str v8.1),(15,.bool v8.2)] [some ⟨[.nils,.nils],0⟩,some ⟨B8 3 4 v1,0⟩,some ⟨[.sl 5 0 s6.2.2.1.length,.sl 6 0 s6.2.2.2.length],0⟩,some ⟨fl (encS true) v1.Sectors,1⟩,some ⟨fl (A2 true) v1.Cache,2⟩,some ⟨fl (encS true) s6.2.2.1,1⟩,some ⟨fl (A2 true) s6.2.2.2,2⟩] rfl rfl ?_
     refine RW.seq (RW.seq ?_)
     obtain ⟨y9,ey9,h16⟩:=A3 h15
     refine RW.cutq (σ:=Bool) (fun y9=>[(1,.j x1),(2,.j s6.1),(3,.str s6.2.1),(8,.ptr 0 0),(10,.ptr 1 0),(11,.ptr 2 0),(12,.j (w64 (x1 + (w64 (Int.tdiv s6.1 32))))),(13,.j (Int.tmod s6.1 32)),(14,.str v8.1),(54,.bool y9)]) (fun y9=>[some ⟨[.nils,.nils],0⟩,some ⟨B8 3 4 v1,0⟩,some ⟨[.sl 5 0 s6.2.2.1.length,.sl 6 0 s6.2.2.2.length],0⟩,some ⟨fl (encS true) v1.Sectors,1⟩,some ⟨fl (A2 true) v1.Cache,2⟩,some ⟨fl (encS true) s6.2.2.1,1⟩,some ⟨fl (A2 true) s6.2.2.2,2⟩]) (fun y=>y9 = y) (fun _ _ _ _ g h=>RW.gh g h) ?_ ?_
     ·refine RW.reg ?_
      refine rl.run 3 rfl ?_
      cases hb : (!v8.2)
      ·have h17:=A5 ey9 hb
       refine rl.run 2 rfl ?_
       refine rl.gen rfl rfl fun b hb=>?_
       cases b
       ·have h18:=A5 h17 hb
        refine rl.run 1 rfl (rl.done ?_)
        cases h18
        exact ⟨_,rfl,(Gh.ren0 [0,1,2,3,4,5,6] (.cells rfl rfl .z9 (.cells rfl rfl (.slq rfl rfl (.slq rfl rfl .nil)) (.cells rfl rfl (.slq rfl rfl (.slq rfl rfl .nil)) (.same rfl (ekS.fref _ _) (.same rfl (A1.fref _ _) (.same rfl (ekS.fref _ _) (.same rfl (A1.fref _ _) .nil))))))) rfl (.i rfl (.i rfl (.s rfl (.p rfl rfl (.p rfl rfl (.p rfl rfl (.i rfl (.i rfl (.s rfl (.b rfl .nil)))))))))))⟩
       ·have h19:=A4 h17 hb
        refine rl.run 1 rfl (rl.done ?_)
        cases h19
        exact ⟨_,rfl,(Gh.ren0 [0,1,2,3,4,5,6] (.cells rfl rfl .z9 (.cells rfl rfl (.slq rfl rfl (.slq rfl rfl .nil)) (.cells rfl rfl (.slq rfl rfl (.slq rfl rfl .nil)) (.same rfl (ekS.fref _ _) (.same rfl (A1.fref _ _) (.same rfl (ekS.fref _ _) (.same rfl (A1.fref _ _) .nil))))))) rfl (.i rfl (.i rfl (.s rfl (.p rfl rfl (.p rfl rfl (.p rfl rfl (.i rfl (.i rfl (.s rfl (.b rfl .nil)))))))))))⟩
      ·have h20:=A4 ey9 hb
       refine rl.run 4 rfl (rl.done ?_)
       cases h20
       exact ⟨_,rfl,(Gh.ren0 [0,1,2,3,4,5,6] (.cells rfl rfl .z9 (.cells rfl rfl (.slq rfl rfl (.slq rfl rfl .nil)) (.cells rfl rfl (.slq rfl rfl (.slq rfl rfl .nil)) (.same rfl (ekS.fref _ _) (.same rfl (A1.fref _ _) (.same rfl (ekS.fref _ _) (.same rfl (A1.fref _ _) .nil))))))) rfl (.i rfl (.i rfl (.s rfl (.p rfl rfl (.p rfl rfl (.p rfl rfl (.i rfl (.i rfl (.s rfl (.b rfl .nil)))))))))))⟩
     ·intro y hC
      subst hC
      cases hb : y9
      ·have h21:=A5 h16 hb
       refine RW.cond_f rfl (RW.skip (RW.sreg (rl.run 6 rfl (rl.done (RW.sdrw (A0.op rfl rfl (A0.op rfl rfl (A0.op rfl rfl (A0.op rfl rfl ?_)))))))))
       obtain ⟨v10,e10,h22⟩:=A3 h21
       refine A0.op rfl (Jy rfl rfl rfl Ls e10) ?_
       refine A0.op rfl rfl (A0.op rfl rfl ?_)
       obtain ⟨v11,e11,h23⟩:=A3 h22
       refine A0.op rfl (Jy rfl rfl rfl Ls e11) ?_
       obtain ⟨v12,e12,h24⟩:=A3 h23
       refine A0.op rfl (U3 rfl rfl e12) ?_
       refine A0.op rfl rfl (A0.op rfl rfl (A0.op rfl rfl (A0.op rfl rfl ?_)))
       obtain ⟨v13,e13,h25⟩:=A3 h24
       refine A0.op rfl (Jy rfl rfl rfl Rg e13) ?_
       obtain ⟨v14,e14,h26⟩:=A3 h25
       refine A0.op rfl (U3 rfl rfl e14) ?_
       obtain ⟨v15,e15,h27⟩:=A3 h26
       refine A0.ccall rfl rfl rfl (A7.own (r':=.tup [.agg (B8 7 8 v15.1),.bool v15.2]) (H':=[some ⟨[.nils,.nils],0⟩,some ⟨B8 3 4 v1,0⟩,some ⟨[.sl 5 0 s6.2.2.1.length,.sl 6 0 s6.2.2.2.length],0⟩,some ⟨fl (encS true) v1.Sectors,1⟩,some ⟨fl (A2 true) v1.Cache,2⟩,some ⟨fl (encS true) s6.2.2.1,1⟩,some ⟨fl (A2 true) s6.2.2.2,2⟩,some ⟨fl (encS true) v15.1.Sectors,1⟩,some ⟨fl (A2 true) v15.1.Cache,2⟩]) Ml (Kq e15) (.cons (DFL.agg (.cons (.slq ekS rfl rfl) (.cons (.slq A1 rfl rfl) .nil))) (.cons .int (.cons .str .nil))) (fac (C9.own _) (fac .bool fan)) rfl ?_)
       refine A0.op rfl rfl (A0.op rfl rfl (A0.op rfl rfl ?_))
       refine A0.chnB rfl rfl (.here (.rx rfl) (.skip rfl (.skip rfl (.skip rfl (.skip rfl (.skip rfl (.skip rfl (.skip rfl (.skip rfl (.skip rfl (.skip rfl (.skip rfl (.skip rfl (.skip rfl (.skip rfl (.skip rfl (.skip rfl (.skip rfl .nil)))))))))))))))))) ?_
       refine A0.op rfl rfl (A0.done ?_)
       refine RW.kp [1,2,3,8,10,11,15,16] [(1,.j x1),(2,.j s6.1),(3,.str s6.2.1),(8,.ptr 0 0),(10,.ptr 1 0),(11,.ptr 2 0),(15,.bool v15.2),(16,.j (if w64 (32 - (Int.tmod s6.1 32)) < (s6.2.1.length : Int) then w64 (32 - (Int.tmod s6.1 32)) else (s6.2.1.length : Int)))] [some ⟨[.nils,.nils],0⟩,some ⟨B8 3 4 v1,0⟩,some ⟨B8 7 8 v15.1,0⟩,some ⟨fl (encS true) v1.Sectors,1⟩,some ⟨fl (A2 true) v1.Cache,2⟩,some ⟨fl (encS true) s6.2.2.1,1⟩,some ⟨fl (A2 true) s6.2.2.2,2⟩,some ⟨fl (encS true) v15.1.Sectors,1⟩,some ⟨fl (A2 true) v15.1.Cache,2⟩] rfl rfl ?_
       refine RW.seq (RW.sreg (rl.run 2 rfl (rl.done ?_)))
       cases hb : (!v15.2)
       ·have h28:=A5 h27 hb
        refine RW.cond_f rfl (RW.skip (RW.sreg (rl.run 2 rfl ?_)))
        obtain ⟨v16,e16,h29⟩:=A3 h28
        refine rl.op (Jy rfl rfl rfl Rg e16) ?_
        refine rl.run 1 rfl (rl.done (RW.reg (rl.run 4 rfl (rl.done ?_))))
        cases h29
        exact hB11 _ rfl _ _ (Gh.ren0 [0,1,2,3,4,7,8] (.cells rfl rfl .z9 (.cells rfl rfl (.slq rfl rfl (.slq rfl rfl .nil)) (.cells rfl rfl (.slq rfl rfl (.slq rfl rfl .nil)) (.same rfl (ekS.fref _ _) (.same rfl (A1.fref _ _) (.same rfl (ekS.fref _ _) (.same rfl (A1.fref _ _) .nil))))))) rfl (.i rfl (.i rfl (.s rfl (.p rfl rfl (.p rfl rfl (.p rfl rfl .nil)))))))
       ·have h30:=A4 h27 hb
        refine RW.cond_t rfl (RW.sreg (rl.run 3 rfl (rl.done (RW.ret ?_))))
        cases h30
        have h31:=elimL h12 (hE11 _ rfl)
        cases h31
        exact RRet.mk rfl (OutT.tup (.cons (OutL.agg (.cons (OutR.ownq ekS rfl rfl) rfl (.cons (OutR.ownq A1 rfl rfl) rfl .nil))) (.cons .bool .nil))) (by first | decide | simp)
      ·have h32:=A4 h16 hb
       refine RW.cond_t rfl (RW.sreg (rl.run 3 rfl (rl.done (RW.ret ?_))))
       cases h32
       have h33:=elimL h12 (hE11 _ rfl)
       cases h33
       exact RRet.mk rfl (OutT.tup (.cons (OutL.agg (.cons (OutR.ownq ekS rfl rfl) rfl (.cons (OutR.ownq A1 rfl rfl) rfl .nil))) (.cons .bool .nil))) (by first | decide | simp)
   ·intro y7 hC
    have h12:=elimR h12 hC
    refine RW.sreg (rl.run 3 rfl (rl.done (RW.ret ?_)))
    cases h12
    exact RRet.mk rfl (OutT.tup (.cons (OutL.agg (.cons (OutR.ownq ekS rfl rfl) rfl (.cons (OutR.ownq A1 rfl rfl) rfl .nil))) (.cons .bool .nil))) (by first | decide | simp)
  ·have h34:=A4 h2 hb
   refine RW.cond_t rfl (RW.sreg (rl.run 3 rfl (rl.done (RW.ret ?_))))
   cases h34
   exact RRet.mk rfl (OutT.tup (.cons (OutL.agg (.cons (OutR.ownq ekS rfl rfl) rfl (.cons (OutR.ownq A1 rfl rfl) rfl .nil))) (.cons .bool .nil))) (by first | decide | simp)
theorem Gx {x0 : TDisk} {x1 : Int} {x2 : Int} {x3 : List UInt8} {r : TDisk × Bool} (hF : U1 x0 x1 x2 x3 = some r) : B3 Tryz.prog 84 [.agg (A6 false x0),.j x1,.j x2,.str x3] (.tup [.agg (A6 true r.1),.bool r.2]):=by
 refine B3.of_r Yr rfl ?_
 unfold U1 at hF
 refine RW.sreg (rl.run 3 rfl (rl.done (RW.seq (RW.seq ?_))))
 obtain ⟨y1,ey1,h1⟩:=A3 hF
 refine RW.cutq (σ:=Bool) (fun y1=>[(1,.j x1),(2,.j x2),(3,.str x3),(4,.ptr 0 0),(8,.ptr 1 0),(24,.bool y1)]) (fun y1=>[some ⟨A6 false x0,0⟩,some ⟨[.nils,.nils],0⟩]) (fun y=>y1 = y) (fun _ _ _ _ g h=>RW.gh g h) ?_ ?_
 ·refine RW.reg ?_
  refine rl.run 1 rfl ?_
  obtain ⟨v2,e2,h2⟩:=A3 ey1
  refine rl.call rfl rfl rfl (A7.val (r':=.bool v2) D8 (C8 e2) (.cons .int (.cons .int (.cons .int .nil))) .refl ?_)
  cases hb : v2
  ·have h3:=A5 h2 hb
   refine rl.run 13 rfl (rl.done ?_)
   cases h3
   exact ⟨_,rfl,(Gh.ren0 [0,1] (.cells rfl rfl .z4 (.cells rfl rfl .z9 .nil)) rfl (.i rfl (.i rfl (.s rfl (.p rfl rfl (.p rfl rfl (.b rfl .nil)))))))⟩
  ·have h4:=A4 h2 hb
   refine rl.run 3 rfl ?_
   obtain ⟨v3,e3,h5⟩:=A3 h4
   refine rl.call rfl rfl rfl (A7.val (r':=.bool v3) D8 (C8 e3) (.cons .int (.cons .int (.cons .int .nil))) .refl ?_)
   cases hb : v3
   ·have h6:=A5 h5 hb
    refine rl.run 9 rfl (rl.done ?_)
    cases h6
    exact ⟨_,rfl,(Gh.ren0 [0,1] (.cells rfl rfl .z4 (.cells rfl rfl .z9 .nil)) rfl (.i rfl (.i rfl (.s rfl (.p rfl rfl (.p rfl rfl (.b rfl .nil)))))))⟩
   ·have h7:=A4 h5 hb
    refine rl.run 7 rfl ?_
    refine rl.gen rfl rfl fun b hb=>?_
    cases b
    ·have h8:=A5 h7 hb
     refine rl.run 1 rfl (rl.done ?_)
     cases h8
     exact ⟨_,rfl,(Gh.ren0 [0,1] (.cells rfl rfl .z4 (.cells rfl rfl .z9 .nil)) rfl (.i rfl (.i rfl (.s rfl (.p rfl rfl (.p rfl rfl (.b rfl .nil)))))))⟩
    ·have h9:=A4 h7 hb
     refine rl.run 1 rfl (rl.done ?_)
     cases h9
     exact ⟨_,rfl,(Gh.ren0 [0,1] (.cells rfl rfl .z4 (.cells rfl rfl .z9 .nil)) rfl (.i rfl (.i rfl (.s rfl (.p rfl rfl (.p rfl rfl (.b rfl .nil)))))))⟩
 ·intro y hC
  subst hC
  cases hb : y1
  ·have h10:=A5 h1 hb
   refine RW.cond_f rfl (RW.skip (RW.sdrw (A0.op rfl rfl (A0.op rfl rfl ?_))))
   obtain ⟨v4,e4,h11⟩:=A3 h10
   refine A0.call rfl rfl rfl (A7.val (r':=.j v4) Je (Gu e4) (.cons .int .nil) .refl ⟨rfl,?_⟩)
   refine A0.op rfl rfl (A0.op rfl rfl ?_)
   obtain ⟨v5,e5,h12⟩:=A3 h11
   refine A0.ccall rfl rfl rfl (A7.own (r':=.tup [.agg (B8 2 3 v5.1),.bool v5.2]) (H':=[some ⟨A6 false x0,0⟩,some ⟨[.nils,.nils],0⟩,some ⟨fl (encS true) v5.1.Sectors,1⟩,some ⟨fl (A2 true) v5.1.Cache,2⟩]) Pj (Mo e5) (.cons (DFL.agg (.cons (.lst ekS) (.cons (.lst A1) .nil))) (.cons .int (.cons .int (.cons .str .nil)))) (fac (C9.own _) (fac .bool fan)) rfl ?_)
   refine A0.op rfl rfl (A0.op rfl rfl ?_)
   refine A0.chn rfl rfl ?_
   refine A0.op rfl rfl (A0.done ?_)
   refine RW.kp [8,9] [(8,.ptr 1 0),(9,.bool v5.2)] [some ⟨A6 false x0,0⟩,some ⟨B8 2 3 v5.1,0⟩,some ⟨fl (encS true) v5.1.Sectors,1⟩,some ⟨fl (A2 true) v5.1.Cache,2⟩] rfl rfl ?_
   refine RW.ret ?_
   cases h12
   exact RRet.mk rfl (OutT.tup (.cons (OutL.agg (.cons (OutR.ownq ekS rfl rfl) rfl (.cons (OutR.ownq A1 rfl rfl) rfl .nil))) (.cons .bool .nil))) (by first | decide | simp)
  ·have h13:=A4 h1 hb
   refine RW.cond_t rfl (RW.sreg (rl.run 1 rfl ?_))
   obtain ⟨v6,e6,h14⟩:=A3 h13
   refine rl.call rfl rfl rfl (A7.own (r':=.agg (B8 2 3 v6)) (H':=[some ⟨A6 false x0,0⟩,some ⟨[.nils,.nils],0⟩,some ⟨fl (encS true) v6.Sectors,1⟩,some ⟨fl (A2 true) v6.Cache,2⟩]) L5 (L2 e6) (.cons (DFL.agg (.cons (.lst ekS) (.cons (.lst A1) .nil))) .nil) (C9.own _) rfl ?_)
   refine rl.run 2 rfl (rl.done (RW.ret ?_))
   cases h14
   exact RRet.mk rfl (OutT.tup (.cons (OutL.agg (.cons (OutR.ownq ekS rfl rfl) rfl (.cons (OutR.ownq A1 rfl rfl) rfl .nil))) (.cons .bool .nil))) (by first | decide | simp)
set_option maxHeartbeats 2000000 in
theorem Vd {x0 : TLog} {x1 : Int} {r : TLog × Bool} (hF : Bi x0 x1 = some r) : B3 Tryz.prog 52 [.agg (B5 false x0),.j x1] (.tup [.agg (B5 true r.1),.bool r.2]):=by
 refine B3.of_r A1v rfl ?_
 unfold Bi at hF
 refine RW.sreg (rl.run 3 rfl (rl.done (RW.sreg (rl.run 1 rfl ?_))))
 obtain ⟨v1,e1,h1⟩:=A3 hF
 refine rl.call rfl rfl rfl (A7.val (r':=L_I v1) Em (Dj e1) (.cons (DFL.agg (.cons (.lst ekS) (.cons (.lst A1) (.cons .int (.cons (.lst A9) (.cons .int (.cons .int (.cons .int (.cons .int .nil))))))))) .nil) (ekI.fflag _).lst ?_)
 refine rl.run 1 rfl (rl.done (RW.seq (RW.seq ?_)))
 obtain ⟨y2,ey2,h2⟩:=A3 h1
 refine RW.cutq (σ:=Bool) (fun y2=>[(2,.ptr 0 0),(4,.ptr 1 0),(6,L_I v1),(26,.bool y2)]) (fun y2=>[some ⟨B5 false x0,0⟩,some ⟨[.nils,.nils,.j 0,.nils,.j 0,.j 0,.j 0,.j 0],0⟩]) (fun y=>y2 = y) (fun _ _ _ _ g h=>RW.gh g h) ?_ ?_
 ·refine RW.reg ?_
  refine rl.run 1 rfl ?_
  refine rl.gen rfl rfl fun b hb=>?_
  cases b
  ·have h3:=A5 ey2 hb
   refine rl.run 4 rfl ?_
   refine rl.gen rfl rfl fun b hb=>?_
   cases b
   ·have h4:=A5 h3 hb
    refine rl.run 4 rfl ?_
    refine rl.gen rfl rfl fun b hb=>?_
    cases b
    ·have h5:=A5 h4 hb
     refine rl.run 1 rfl (rl.done ?_)
     cases h5
     exact ⟨_,rfl,(Gh.ren0 [0,1] (.cells rfl rfl .z2 (.cells rfl rfl .z8 .nil)) rfl (.p rfl rfl (.p rfl rfl (.cons rfl (.dat (ekI.rlst)) (.b rfl .nil)))))⟩
    ·have h6:=A4 h4 hb
     refine rl.run 1 rfl (rl.done ?_)
     cases h6
     exact ⟨_,rfl,(Gh.ren0 [0,1] (.cells rfl rfl .z2 (.cells rfl rfl .z8 .nil)) rfl (.p rfl rfl (.p rfl rfl (.cons rfl (.dat (ekI.rlst)) (.b rfl .nil)))))⟩
   ·have h7:=A4 h3 hb
    refine rl.run 6 rfl (rl.done ?_)
    cases h7
    exact ⟨_,rfl,(Gh.ren0 [0,1] (.cells rfl rfl .z2 (.cells rfl rfl .z8 .nil)) rfl (.p rfl rfl (.p rfl rfl (.cons rfl (.dat (ekI.rlst)) (.b rfl .nil)))))⟩
  ·have h8:=A4 ey2 hb
   refine rl.run 11 rfl (rl.done ?_)
   cases h8
   exact ⟨_,rfl,(Gh.ren0 [0,1] (.cells rfl rfl .z2 (.cells rfl rfl .z8 .nil)) rfl (.p rfl rfl (.p rfl rfl (.cons rfl (.dat (ekI.rlst)) (.b rfl .nil)))))⟩
 ·intro y hC
  subst hC
  cases hb : y2
  ·have h9:=A5 h2 hb
   refine RW.cond_f rfl (RW.skip (RW.sreg (rl.run 3 rfl ?_)))
   obtain ⟨v3,e3,h10⟩:=A3 h9
   refine rl.call rfl rfl rfl (A7.val (r':=.tup [.str v3.1,.bool v3.2]) Gy (Fy e3) (.cons (DFL.agg (.cons .int (.cons .int (.cons .str .nil)))) .nil) (FlL.tup (.cons .refl (.cons .refl .nil))) ?_)
   refine rl.run 5 rfl (rl.done (RW.sdrw (A0.op rfl rfl (A0.op rfl rfl (A0.op rfl rfl ?_)))))
   obtain ⟨v4,e4,h11⟩:=A3 h10
   refine A0.op rfl (C1 (enc:=encI) (o:=false) rfl rfl rfl e4) ?_
   refine A0.op rfl (G5 (off':=0) ekI rfl e4 rfl rfl rfl) ?_
   refine A0.op rfl rfl ?_
   obtain ⟨v5,e5,h12⟩:=A3 h11
   refine A0.call rfl rfl rfl (A7.val (r':=.tup [.agg (A6 false v5.1),.bool v5.2]) Jg (Gx e5) (.cons (DFL.agg (.cons (.lst ekS) (.cons (.lst A1) .nil))) (.cons .int (.cons .int (.cons .str .nil)))) (FlL.tup (.cons (C9.flag _).agg (.cons .refl .nil))) ⟨rfl,?_⟩)
   refine A0.op rfl rfl (A0.op rfl rfl (A0.op rfl rfl ?_))
   refine A0.chnB rfl rfl (.here (.rx rfl) (.here (.rx rfl) (.here (.rx rfl) (.here (.cl rfl rfl (A7.val (r':=.tup [.agg (A6 false v5.1),.bool v5.2]) Jg (Gx e5) (.cons (DFL.agg (.cons (.lst ekS) (.cons (.lst A1) .nil))) (.cons .int (.cons .int (.cons .str .nil)))) (FlL.tup (.cons (C9.flag _).agg (.cons .refl .nil))) ⟨rfl,rfl⟩)) (.here (.rx rfl) (.here (.rx (G5 (off':=0) ekI rfl e4 rfl rfl rfl)) (.here (.rx (C1 (enc:=encI) (o:=false) rfl rfl rfl e4)) (.here (.rx rfl) (.here (.rx rfl) (.here (.rx rfl) .nil)))))))))) ?_
   refine A0.chnB rfl rfl (.here (.rx rfl) (.skip rfl (.skip rfl (.skip rfl (.skip rfl (.skip rfl (.skip rfl (.skip rfl (.skip rfl (.skip rfl .nil)))))))))) ?_
   refine A0.op rfl rfl (A0.done ?_)
   refine RW.kp [2,4,6,7,9,10] [(2,.ptr 0 0),(4,.ptr 1 0),(6,L_I v1),(7,.str v3.1),(9,.ptr 2 0),(10,.bool v5.2)] [some ⟨B5 false x0,0⟩,some ⟨[.nils,.nils,.j 0,.nils,.j 0,.j 0,.j 0,.j 0],0⟩,some ⟨A6 false v5.1,0⟩] rfl rfl ?_
   refine RW.seq (RW.sreg (rl.run 2 rfl (rl.done ?_)))
   cases hb : (!v5.2)
   ·have h13:=A5 h12 hb
    refine RW.cond_f rfl (RW.skip (RW.sreg (rl.run 1 rfl ?_)))
    obtain ⟨v6,e6,h14⟩:=A3 h13
    refine rl.call rfl rfl rfl (A7.own (r':=.agg (G7 3 4 5 v6)) (H':=[some ⟨B5 false x0,0⟩,some ⟨[.nils,.nils,.j 0,.nils,.j 0,.j 0,.j 0,.j 0],0⟩,some ⟨A6 false v5.1,0⟩,some ⟨fl (encS true) v6.Disk.Sectors,1⟩,some ⟨fl (A2 true) v6.Disk.Cache,2⟩,some ⟨fl (A8 true) v6.Used,4⟩]) Eb (Dt e6) (.cons (DFL.agg (.cons (.lst ekS) (.cons (.lst A1) (.cons .int (.cons (.lst A9) (.cons .int (.cons .int (.cons .int (.cons .int .nil))))))))) .nil) (Jq.own _) rfl ?_)
    refine rl.run 2 rfl (rl.done (RW.sreg (rl.run 1 rfl ?_)))
    obtain ⟨v7,e7,h15⟩:=A3 h14
    refine rl.call rfl rfl rfl (A7.own (r':=.agg (B8 7 8 v7)) (H':=[some ⟨B5 false x0,0⟩,some ⟨[.nils,.nils,.j 0,.nils,.j 0,.j 0,.j 0,.j 0],0⟩,some ⟨A6 false v5.1,0⟩,some ⟨fl (encS true) v6.Disk.Sectors,1⟩,some ⟨fl (A2 true) v6.Disk.Cache,2⟩,some ⟨fl (A8 true) v6.Used,4⟩,some ⟨G7 3 4 5 v6,0⟩,some ⟨fl (encS true) v7.Sectors,1⟩,some ⟨fl (A2 true) v7.Cache,2⟩]) Rz (Pr e7) (.cons (DFL.agg (.cons (.lst ekS) (.cons (.lst A1) .nil))) .nil) (C9.own _) rfl ?_)
    refine rl.run 2 rfl (rl.done (RW.sdrw (A0.op rfl rfl (A0.op rfl rfl (A0.op rfl rfl ?_)))))
    obtain ⟨v8,e8,h16⟩:=A3 h15
    refine A0.op rfl (C1 (enc:=encI) (o:=false) rfl rfl rfl e8) ?_
    refine A0.op rfl (G5 (off':=0) ekI rfl e8 rfl rfl rfl) ?_
    refine A0.op rfl rfl (A0.op rfl rfl (A0.op rfl rfl (A0.op rfl rfl (A0.op rfl rfl ?_))))
    refine A0.chnB rfl rfl (.skip rfl (.skip rfl (.skip rfl (.skip rfl (.skip rfl (.skip rfl (.skip rfl (.skip rfl (.here (.rx rfl) (.here (.rx rfl) .nil)))))))))) ?_
    obtain ⟨v9,e9,h17⟩:=A3 h16
    refine A0.chn rfl (Z4 rfl rfl (Tn A9 rfl rfl (A4b rfl rfl rfl) e9)) ?_
    refine A0.op rfl rfl ?_
    refine A0.chn rfl rfl ?_
    refine A0.done ?_
    refine RW.gh (Gh.own0 (b:=10) rfl (NL.append NL.refl (NL.append (.same (.same (.same (.nils (es:=9) .nil)))) NL.refl))) ?_
    refine RW.gh (Gh.blk (b:=10) rfl (A03 (enc:=A8) e9 rfl)) ?_
    refine RW.sreg (rl.run 5 rfl (rl.done (RW.sreg (rl.run 3 rfl (rl.done (RW.ret ?_))))))
    cases h17
    exact RRet.mk rfl (OutT.tup (.cons (OutL.agg (.cons (OutR.ownq ekS rfl rfl) rfl (.cons (OutR.ownq A1 rfl rfl) rfl (.i (.cons (OutR.ownq A9 rfl rfl) rfl (.i (.i (.i (.i .nil))))))))) (.cons .bool .nil))) (by first | decide | simp)
   ·have h18:=A4 h12 hb
    refine RW.cond_t rfl (RW.sreg (rl.run 3 rfl (rl.done (RW.ret ?_))))
    cases h18
    exact RRet.mk rfl (OutT.tup (.cons (OutL.agg (.cons (OutR.nil (enc:=encS)) rfl (.cons (OutR.nil (enc:=A2)) rfl (.i (.cons (OutR.nil (enc:=A8)) rfl (.i (.i (.i (.i .nil))))))))) (.cons .bool .nil))) (by first | decide | simp)
  ·have h19:=A4 h2 hb
   refine RW.cond_t rfl (RW.sreg (rl.run 3 rfl (rl.done (RW.ret ?_))))
   cases h19
   exact RRet.mk rfl (OutT.tup (.cons (OutL.agg (.cons (OutR.nil (enc:=encS)) rfl (.cons (OutR.nil (enc:=A2)) rfl (.i (.cons (OutR.nil (enc:=A8)) rfl (.i (.i (.i (.i .nil))))))))) (.cons .bool .nil))) (by first | decide | simp)
theorem Vb {x0 : TLog} {x1 : Int} {r : TLog × Bool} (hF : Bc x0 x1 = some r) : B3 Tryz.prog 12 [.agg (B5 false x0),.j x1] (.tup [.agg (B5 true r.1),.bool r.2]):=by
 refine B3.of_r A1y rfl ?_
 unfold Bc at hF
 refine RW.sreg (rl.run 3 rfl (rl.done (RW.seq (RW.sreg (rl.run 1 rfl ?_)))))
 obtain ⟨v1,e1,h1⟩:=A3 hF
 refine rl.call rfl rfl rfl (A7.val (r':=.bool v1) Mu (Kx e1) (.cons (DFL.agg (.cons (.lst ekS) (.cons (.lst A1) (.cons .int (.cons (.lst A9) (.cons .int (.cons .int (.cons .int (.cons .int .nil))))))))) .nil) .refl ?_)
 cases hb : v1
 ·have h2:=A5 h1 hb
  refine rl.done (RW.cond_f rfl (RW.skip (RW.sreg (rl.run 1 rfl ?_))))
  obtain ⟨v2,e2,h3⟩:=A3 h2
  refine rl.call rfl rfl rfl (A7.own (r':=.agg (G7 2 3 4 v2)) (H':=[some ⟨B5 false x0,0⟩,some ⟨[.nils,.nils,.j 0,.nils,.j 0,.j 0,.j 0,.j 0],0⟩,some ⟨fl (encS true) v2.Disk.Sectors,1⟩,some ⟨fl (A2 true) v2.Disk.Cache,2⟩,some ⟨fl (A8 true) v2.Used,4⟩]) Eb (Dt e2) (.cons (DFL.agg (.cons (.lst ekS) (.cons (.lst A1) (.cons .int (.cons (.lst A9) (.cons .int (.cons .int (.cons .int (.cons .int .nil))))))))) .nil) (Jq.own _) rfl ?_)
  refine rl.run 2 rfl (rl.done (RW.ret ?_))
  cases h3
  exact RRet.mk rfl (OutT.tup (.cons (OutL.agg (.cons (OutR.ownq ekS rfl rfl) rfl (.cons (OutR.ownq A1 rfl rfl) rfl (.i (.cons (OutR.ownq A9 rfl rfl) rfl (.i (.i (.i (.i .nil))))))))) (.cons .bool .nil))) (by first | decide | simp)
 ·have h4:=A4 h1 hb
  refine rl.done (RW.cond_t rfl (RW.sreg (rl.run 2 rfl ?_)))
  obtain ⟨v3,e3,h5⟩:=A3 h4
  refine rl.call rfl rfl rfl (A7.own (r':=.tup [.agg (G7 2 3 4 v3.1),.bool v3.2]) (H':=[some ⟨B5 false x0,0⟩,some ⟨[.nils,.nils,.j 0,.nils,.j 0,.j 0,.j 0,.j 0],0⟩,some ⟨fl (encS true) v3.1.Disk.Sectors,1⟩,some ⟨fl (A2 true) v3.1.Disk.Cache,2⟩,some ⟨fl (A8 true) v3.1.Used,4⟩]) Yt (Vd e3) (.cons (DFL.agg (.cons (.lst ekS) (.cons (.lst A1) (.cons .int (.cons (.lst A9) (.cons .int (.cons .int (.cons .int (.cons .int .nil))))))))) (.cons .int .nil)) (fac (Jq.own _) (fac .bool fan)) rfl ?_)
  refine rl.run 6 rfl (rl.done ?_)
  refine RW.kp [2,4,6,7] [(2,.ptr 0 0),(4,.ptr 1 0),(6,.ptr 5 0),(7,.bool v3.2)] [some ⟨B5 false x0,0⟩,some ⟨[.nils,.nils,.j 0,.nils,.j 0,.j 0,.j 0,.j 0],0⟩,some ⟨fl (encS true) v3.1.Disk.Sectors,1⟩,some ⟨fl (A2 true) v3.1.Disk.Cache,2⟩,some ⟨fl (A8 true) v3.1.Used,4⟩,some ⟨G7 2 3 4 v3.1,0⟩] rfl rfl ?_
  refine RW.sreg (rl.run 1 rfl (rl.done ?_))
  cases hb : v3.2
  ·have h6:=A5 h5 hb
   refine RW.cond_f rfl (RW.skip (RW.sreg (rl.run 1 rfl ?_)))
   obtain ⟨v4,e4,h7⟩:=A3 h6
   refine rl.call rfl rfl rfl (A7.own (r':=.agg (G7 6 7 8 v4)) (H':=[some ⟨B5 false x0,0⟩,some ⟨[.nils,.nils,.j 0,.nils,.j 0,.j 0,.j 0,.j 0],0⟩,some ⟨fl (encS true) v3.1.Disk.Sectors,1⟩,some ⟨fl (A2 true) v3.1.Disk.Cache,2⟩,some ⟨fl (A8 true) v3.1.Used,4⟩,some ⟨G7 2 3 4 v3.1,0⟩,some ⟨fl (encS true) v4.Disk.Sectors,1⟩,some ⟨fl (A2 true) v4.Disk.Cache,2⟩,some ⟨fl (A8 true) v4.Used,4⟩]) Eb (Dt e4) (.cons (DFL.agg (.cons (.lst ekS) (.cons (.lst A1) (.cons .int (.cons (.lst A9) (.cons .int (.cons .int (.cons .int (.cons .int .nil))))))))) .nil) (Jq.own _) rfl ?_)
   refine rl.run 2 rfl (rl.done (RW.ret ?_))
   cases h7
   exact RRet.mk rfl (OutT.tup (.cons (OutL.agg (.cons (OutR.ownq ekS rfl rfl) rfl (.cons (OutR.ownq A1 rfl rfl) rfl (.i (.cons (OutR.ownq A9 rfl rfl) rfl (.i (.i (.i (.i .nil))))))))) (.cons .bool .nil))) (by first | decide | simp)
  ·have h8:=A4 h5 hb
   refine RW.cond_t rfl (RW.sreg (rl.run 3 rfl (rl.done (RW.ret ?_))))
   cases h8
   exact RRet.mk rfl (OutT.tup (.cons (OutL.agg (.cons (OutR.ownq ekS rfl rfl) rfl (.cons (OutR.ownq A1 rfl rfl) rfl (.i (.cons (OutR.ownq A9 rfl rfl) rfl (.i (.i (.i (.i .nil))))))))) (.cons .bool .nil))) (by first | decide | simp)
set_option maxHeartbeats 2000000 in
theorem Un {x0 : TSeg} {x1 : TSeg} {r : Bool} (hF : Bd x0 x1 = some r) : B3 Tryz.prog 54 [.agg (A8 false x0),.agg (A8 false x1)] (.bool r):=by
 refine B3.of_r A2q rfl ?_
 unfold Bd at hF
 refine RW.sreg (rl.run 3 rfl (rl.done (RW.seq (RW.seq ?_))))
 obtain ⟨y1,ey1,h1⟩:=A3 hF
 refine RW.cutq (σ:=Bool) (fun y1=>[(2,.ptr 0 0),(3,.ptr 1 0),(33,.bool y1)]) (fun y1=>[some ⟨A8 false x0,0⟩,some ⟨A8 false x1,0⟩]) (fun y=>y1 = y) (fun _ _ _ _ g h=>RW.gh g h) ?_ ?_
 ·refine RW.reg ?_
  refine rl.run 4 rfl ?_
  refine rl.gen rfl rfl fun b hb=>?_
  cases b
  ·have h2:=A5 ey1 hb
   refine rl.run 5 rfl ?_
   refine rl.gen rfl rfl fun b hb=>?_
   cases b
   ·have h3:=A5 h2 hb
    refine rl.run 6 rfl ?_
    refine rl.gen rfl rfl fun b hb=>?_
    cases b
    ·have h4:=A5 h3 hb
     refine rl.run 8 rfl ?_
     refine rl.gen rfl rfl fun b hb=>?_
     cases b
     ·have h5:=A5 h4 hb
      refine rl.run 1 rfl (rl.done ?_)
      cases h5
      exact ⟨_,rfl,(Gh.ren0 [0,1] (.cells rfl rfl .z3 (.cells rfl rfl .z3 .nil)) rfl (.p rfl rfl (.p rfl rfl (.b rfl .nil))))⟩
     ·have h6:=A4 h4 hb
      refine rl.run 1 rfl (rl.done ?_)
      cases h6
      exact ⟨_,rfl,(Gh.ren0 [0,1] (.cells rfl rfl .z3 (.cells rfl rfl .z3 .nil)) rfl (.p rfl rfl (.p rfl rfl (.b rfl .nil))))⟩
    ·have h7:=A4 h3 hb
     refine rl.run 10 rfl (rl.done ?_)
     cases h7
     exact ⟨_,rfl,(Gh.ren0 [0,1] (.cells rfl rfl .z3 (.cells rfl rfl .z3 .nil)) rfl (.p rfl rfl (.p rfl rfl (.b rfl .nil))))⟩
   ·have h8:=A4 h2 hb
    refine rl.run 17 rfl (rl.done ?_)
    cases h8
    exact ⟨_,rfl,(Gh.ren0 [0,1] (.cells rfl rfl .z3 (.cells rfl rfl .z3 .nil)) rfl (.p rfl rfl (.p rfl rfl (.b rfl .nil))))⟩
  ·have h9:=A4 ey1 hb
   refine rl.run 23 rfl (rl.done ?_)
   cases h9
   exact ⟨_,rfl,(Gh.ren0 [0,1] (.cells rfl rfl .z3 (.cells rfl rfl .z3 .nil)) rfl (.p rfl rfl (.p rfl rfl (.b rfl .nil))))⟩
 ·intro y hC
  subst hC
  cases hb : y1
  ·have h10:=A5 h1 hb
   refine RW.cond_f rfl (RW.skip (RW.seq (RW.sreg (rl.run 1 rfl (rl.done ?_)))))
   obtain ⟨y6,ey6,h12⟩:=A3 h10
   refine RW.cutq (σ:=Unit) (fun y3=>[]) (fun y3=>[]) (fun y=>y6 = .inr y) (fun _ _ _ _ g h=>RW.gh g h) ?_ ?_
   ·refine RW.blk ?_
    refine RW.iter (σ:=Int) ey6 (fun s2=>[(2,.ptr 0 0),(3,.ptr 1 0),(5,.j s2)]) (fun s2=>[some ⟨A8 false x0,0⟩,some ⟨A8 false x1,0⟩]) (Gh.ren0 [0,1] (.cells rfl rfl .z3 (.cells rfl rfl .z3 .nil)) rfl (.p rfl rfl (.p rfl rfl (.i rfl .nil)))) (fun s2 B o hS11 hB11 hE11=>?_)
    unfold Bt at hS11
    refine RW.seq (RW.sreg (rl.run 4 rfl ?_))
    refine rl.gen rfl rfl fun b hb=>?_
    cases b
    ·have h13:=A5 hS11 hb
     refine rl.done (RW.cond_f rfl (RW.exit (D0 ?_)))
     cases h13
     exact ⟨_,(hE11 _ rfl).symm,(Gh.ren0 [] .nil rfl .nil)⟩
    ·have h14:=A4 hS11 hb
     refine rl.done (RW.cond_t rfl (RW.skip (RW.seq (RW.blk (RW.sdrw (A0.op rfl rfl (A0.op rfl rfl (A0.op rfl rfl ?_))))))))
     obtain ⟨v4,e4,h15⟩:=A3 h14
     refine A0.op rfl (C1 (enc:=B2) (o:=false) rfl rfl rfl e4) ?_
     refine A0.op rfl (K5 (off':=0) (vs:=(B2 false v4)) B4 rfl e4 rfl rfl rfl) ?_
     refine A0.op rfl rfl (A0.op rfl rfl (A0.op rfl rfl ?_))
     obtain ⟨v5,e5,h16⟩:=A3 h15
     refine A0.op rfl (C1 (enc:=B2) (o:=false) rfl rfl rfl e5) ?_
     refine A0.op rfl (K5 (off':=0) (vs:=(B2 false v5)) B4 rfl e5 rfl rfl rfl) ?_
     refine A0.gen rfl rfl fun b hb=>?_
     cases b
     ·have h17:=A5 h16 hb
      refine A0.done ?_
      refine RW.kp [2,3,5,51] [(2,.ptr 0 0),(3,.ptr 1 0),(5,.j s2),(51,.bool false)] [some ⟨A8 false x0,0⟩,some ⟨A8 false x1,0⟩] rfl rfl ?_
      refine RW.cond_f rfl (RW.skip (RW.reg (rl.run 3 rfl (rl.done ?_))))
      cases h17
      exact hB11 _ rfl _ _ (Gh.ren0 [0,1] (.cells rfl rfl .z3 (.cells rfl rfl .z3 .nil)) rfl (.p rfl rfl (.p rfl rfl (.i rfl .nil))))
     ·have h18:=A4 h16 hb
      refine A0.done ?_
      refine RW.kp [2,3,5,51] [(2,.ptr 0 0),(3,.ptr 1 0),(5,.j s2),(51,.bool true)] [some ⟨A8 false x0,0⟩,some ⟨A8 false x1,0⟩] rfl rfl ?_
      refine RW.cond_t rfl (RW.sreg (rl.run 1 rfl (rl.done (RW.ret ?_))))
      cases h18
      have h19:=elimL h12 (hE11 _ rfl)
      cases h19
      exact RRet.mk rfl .bool (by first | decide | simp)
   ·intro y3 hC
    have h12:=elimR h12 hC
    refine RW.sreg (rl.run 1 rfl (rl.done (RW.ret ?_)))
    cases h12
    exact RRet.mk rfl .bool (by first | decide | simp)
  ·have h20:=A4 h1 hb
   refine RW.cond_t rfl (RW.sreg (rl.run 1 rfl (rl.done (RW.ret ?_))))
   cases h20
   exact RRet.mk rfl .bool (by first | decide | simp)
set_option maxHeartbeats 2000000 in
theorem Vl {x0 : TLog} {x1 : TLog} {r : Bool} (hF : Ar x0 x1 = some r) : B3 Tryz.prog 13 [.agg (B5 false x0),.agg (B5 false x1)] (.bool r):=by
 refine B3.of_r A16 rfl ?_
 unfold Ar at hF
 refine RW.sreg (rl.run 3 rfl (rl.done (RW.seq (RW.seq ?_))))
 obtain ⟨y1,ey1,h1⟩:=A3 hF
 refine RW.cutq (σ:=Bool) (fun y1=>[(2,.ptr 0 0),(3,.ptr 1 0),(33,.bool y1)]) (fun y1=>[some ⟨B5 false x0,0⟩,some ⟨B5 false x1,0⟩]) (fun y=>y1 = y) (fun _ _ _ _ g h=>RW.gh g h) ?_ ?_
 ·refine RW.reg ?_
  refine rl.run 6 rfl ?_
  refine rl.gen rfl rfl fun b hb=>?_
  cases b
  ·have h2:=A5 ey1 hb
   refine rl.run 5 rfl ?_
   refine rl.gen rfl rfl fun b hb=>?_
   cases b
   ·have h3:=A5 h2 hb
    refine rl.run 6 rfl ?_
    refine rl.gen rfl rfl fun b hb=>?_
    cases b
    ·have h4:=A5 h3 hb
     refine rl.run 6 rfl ?_
     refine rl.gen rfl rfl fun b hb=>?_
     cases b
     ·have h5:=A5 h4 hb
      refine rl.run 1 rfl (rl.done ?_)
      cases h5
      exact ⟨_,rfl,(Gh.ren0 [0,1] (.cells rfl rfl .z2 (.cells rfl rfl .z2 .nil)) rfl (.p rfl rfl (.p rfl rfl (.b rfl .nil))))⟩
     ·have h6:=A4 h4 hb
      refine rl.run 1 rfl (rl.done ?_)
      cases h6
      exact ⟨_,rfl,(Gh.ren0 [0,1] (.cells rfl rfl .z2 (.cells rfl rfl .z2 .nil)) rfl (.p rfl rfl (.p rfl rfl (.b rfl .nil))))⟩
    ·have h7:=A4 h3 hb
     refine rl.run 8 rfl (rl.done ?_)
     cases h7
     exact ⟨_,rfl,(Gh.ren0 [0,1] (.cells rfl rfl .z2 (.cells rfl rfl .z2 .nil)) rfl (.p rfl rfl (.p rfl rfl (.b rfl .nil))))⟩
   ·have h8:=A4 h2 hb
    refine rl.run 15 rfl (rl.done ?_)
    cases h8
    exact ⟨_,rfl,(Gh.ren0 [0,1] (.cells rfl rfl .z2 (.cells rfl rfl .z2 .nil)) rfl (.p rfl rfl (.p rfl rfl (.b rfl .nil))))⟩
  ·have h9:=A4 ey1 hb
   refine rl.run 21 rfl (rl.done ?_)
   cases h9
   exact ⟨_,rfl,(Gh.ren0 [0,1] (.cells rfl rfl .z2 (.cells rfl rfl .z2 .nil)) rfl (.p rfl rfl (.p rfl rfl (.b rfl .nil))))⟩
 ·intro y hC
  subst hC
  cases hb : y1
  ·have h10:=A5 h1 hb
   refine RW.cond_f rfl (RW.skip (RW.seq (RW.sreg (rl.run 1 rfl (rl.done ?_)))))
   obtain ⟨y7,ey7,h12⟩:=A3 h10
   refine RW.cutq (σ:=Unit) (fun y3=>[]) (fun y3=>[]) (fun y=>y7 = .inr y) (fun _ _ _ _ g h=>RW.gh g h) ?_ ?_
   ·refine RW.blk ?_
    refine RW.iter (σ:=Int) ey7 (fun s2=>[(2,.ptr 0 0),(3,.ptr 1 0),(5,.j s2)]) (fun s2=>[some ⟨B5 false x0,0⟩,some ⟨B5 false x1,0⟩]) (Gh.ren0 [0,1] (.cells rfl rfl .z2 (.cells rfl rfl .z2 .nil)) rfl (.p rfl rfl (.p rfl rfl (.i rfl .nil)))) (fun s2 B o hS11 hB11 hE11=>?_)
    unfold Bq at hS11
    refine RW.seq (RW.sreg (rl.run 4 rfl ?_))
    refine rl.gen rfl rfl fun b hb=>?_
    cases b
    ·have h13:=A5 hS11 hb
     refine rl.done (RW.cond_f rfl (RW.exit (D0 ?_)))
     cases h13
     exact ⟨_,(hE11 _ rfl).symm,(Gh.ren0 [] .nil rfl .nil)⟩
    ·have h14:=A4 hS11 hb
     refine rl.done (RW.cond_t rfl (RW.skip (RW.seq (RW.blk (RW.sdrw (A0.op rfl rfl (A0.op rfl rfl (A0.op rfl rfl ?_))))))))
     obtain ⟨v4,e4,h15⟩:=A3 h14
     refine A0.op rfl (C1 (enc:=A8) (o:=false) rfl rfl rfl e4) ?_
     refine A0.op rfl (K5 (off':=0) (vs:=(A8 false v4)) A9 rfl e4 rfl rfl rfl) ?_
     refine A0.op rfl rfl (A0.op rfl rfl (A0.op rfl rfl ?_))
     obtain ⟨v5,e5,h16⟩:=A3 h15
     refine A0.op rfl (C1 (enc:=A8) (o:=false) rfl rfl rfl e5) ?_
     refine A0.op rfl (K5 (off':=0) (vs:=(A8 false v5)) A9 rfl e5 rfl rfl rfl) ?_
     obtain ⟨v6,e6,h17⟩:=A3 h16
     refine A0.call rfl rfl rfl (A7.val (r':=.bool v6) Zc (Un e6) (.cons (.dat (.agg (A9.dat false _))) (.cons (.dat (.agg (A9.dat false _))) .nil)) .refl ⟨rfl,?_⟩)
     cases hb : v6
     ·have h18:=A5 h17 hb
      refine A0.op rfl rfl (A0.done ?_)
      refine RW.kp [2,3,5,52] [(2,.ptr 0 0),(3,.ptr 1 0),(5,.j s2),(52,.bool true)] [some ⟨B5 false x0,0⟩,some ⟨B5 false x1,0⟩] rfl rfl ?_
      refine RW.cond_t rfl (RW.sreg (rl.run 1 rfl (rl.done (RW.ret ?_))))
      cases h18
      have h19:=elimL h12 (hE11 _ rfl)
      cases h19
      exact RRet.mk rfl .bool (by first | decide | simp)
     ·have h20:=A4 h17 hb
      refine A0.op rfl rfl (A0.done ?_)
      refine RW.kp [2,3,5,52] [(2,.ptr 0 0),(3,.ptr 1 0),(5,.j s2),(52,.bool false)] [some ⟨B5 false x0,0⟩,some ⟨B5 false x1,0⟩] rfl rfl ?_
      refine RW.cond_f rfl (RW.skip (RW.reg (rl.run 3 rfl (rl.done ?_))))
      cases h20
      exact hB11 _ rfl _ _ (Gh.ren0 [0,1] (.cells rfl rfl .z2 (.cells rfl rfl .z2 .nil)) rfl (.p rfl rfl (.p rfl rfl (.i rfl .nil))))
   ·intro y3 hC
    have h12:=elimR h12 hC
    refine RW.sreg (rl.run 1 rfl (rl.done (RW.ret ?_)))
    cases h12
    exact RRet.mk rfl .bool (by first | decide | simp)
  ·have h21:=A4 h1 hb
   refine RW.cond_t rfl (RW.sreg (rl.run 1 rfl (rl.done (RW.ret ?_))))
   cases h21
   exact RRet.mk rfl .bool (by first | decide | simp)
theorem Pv {x0 : List TItem} {x1 : List TItem} {r : Bool} (hF : W3 x0 x1 = some r) : B3 Tryz.prog 15 [J9 x0,J9 x1] (.bool r):=by
 refine B3.of_r Uk rfl ?_
 unfold W3 at hF
 refine RW.sreg (rl.run 1 rfl (rl.done (RW.seq (RW.sreg (rl.run 4 rfl ?_)))))
 refine rl.gen rfl rfl fun b hb=>?_
 cases b
 ·have h1:=A5 hF hb
  refine rl.done (RW.cond_f rfl (RW.skip (RW.seq (RW.sreg (rl.run 1 rfl (rl.done ?_))))))
  obtain ⟨y5,ey5,h3⟩:=A3 h1
  refine RW.cutq (σ:=Unit) (fun y2=>[]) (fun y2=>[]) (fun y=>y5 = .inr y) (fun _ _ _ _ g h=>RW.gh g h) ?_ ?_
  ·refine RW.blk ?_
   refine RW.iter (σ:=Int) ey5 (fun s1=>[(0,J9 x0),(1,J9 x1),(5,.j s1)]) (fun s1=>[]) (Gh.ren0 [] .nil rfl (.cons rfl (.dat (B4.rlst)) (.cons rfl (.dat (B4.rlst)) (.i rfl .nil)))) (fun s1 B o hS2 hB2 hE2=>?_)
   unfold Z1 at hS2
   refine RW.seq (RW.sreg (rl.run 3 rfl ?_))
   refine rl.gen rfl rfl fun b hb=>?_
   cases b
   ·have h4:=A5 hS2 hb
    refine rl.done (RW.cond_f rfl (RW.exit (D0 ?_)))
    cases h4
    exact ⟨_,(hE2 _ rfl).symm,(Gh.ren0 [] .nil rfl .nil)⟩
   ·have h5:=A4 hS2 hb
    refine rl.done (RW.cond_t rfl (RW.skip (RW.seq (RW.blk (RW.sdrw (A0.op rfl rfl (A0.op rfl rfl ?_)))))))
    obtain ⟨v3,e3,h6⟩:=A3 h5
    refine A0.op rfl (C1 (enc:=B2) (o:=false) rfl rfl rfl e3) ?_
    refine A0.op rfl (K5 (off':=0) (vs:=(B2 false v3)) B4 rfl e3 rfl rfl rfl) ?_
    refine A0.op rfl rfl (A0.op rfl rfl ?_)
    obtain ⟨v4,e4,h7⟩:=A3 h6
    refine A0.op rfl (C1 (enc:=B2) (o:=false) rfl rfl rfl e4) ?_
    refine A0.op rfl (K5 (off':=0) (vs:=(B2 false v4)) B4 rfl e4 rfl rfl rfl) ?_
    refine A0.gen rfl rfl fun b hb=>?_
    cases b
    ·have h8:=A5 h7 hb
     refine A0.done ?_
     refine RW.kp [0,1,5,25] [(0,J9 x0),(1,J9 x1),(5,.j s1),(25,.bool false)] [] rfl rfl ?_
     refine RW.cond_f rfl (RW.skip (RW.reg (rl.run 3 rfl (rl.done ?_))))
     cases h8
     exact hB2 _ rfl _ _ (Gh.ren0 [] .nil rfl (.cons rfl (.dat (B4.rlst)) (.cons rfl (.dat (B4.rlst)) (.i rfl .nil))))
    ·have h9:=A4 h7 hb
     refine A0.done ?_
     refine RW.kp [0,1,5,25] [(0,J9 x0),(1,J9 x1),(5,.j s1),(25,.bool true)] [] rfl rfl ?_
     refine RW.cond_t rfl (RW.sreg (rl.run 1 rfl (rl.done (RW.ret ?_))))
     cases h9
     have h10:=elimL h3 (hE2 _ rfl)
     cases h10
     exact RRet.mk rfl .bool (by first | decide | simp)
  ·intro y2 hC
   have h3:=elimR h3 hC
   refine RW.sreg (rl.run 1 rfl (rl.done (RW.ret ?_)))
   cases h3
   exact RRet.mk rfl .bool (by first | decide | simp)
 ·have h11:=A4 hF hb
  refine rl.done (RW.cond_t rfl (RW.sreg (rl.run 1 rfl (rl.done (RW.ret ?_)))))
  cases h11
  exact RRet.mk rfl .bool (by first | decide | simp)
theorem Jb {x0 : TLog} {r : List TItem} (hF : Y0 x0 = some r) : B3 Tryz.prog 17 [.agg (B5 false x0)] (.lst true 9 (fl (B2 true) r) r.length):=by
 refine B3.of_r A21 rfl ?_
 unfold Y0 at hF
 refine RW.sreg (rl.run 2 rfl (rl.done (RW.sreg (rl.run 2 rfl (rl.done (RW.seq (RW.sreg (rl.run 1 rfl (rl.done ?_)))))))))
 refine RW.gh (Gh.nil_t 3 9 rfl) ?_
 obtain ⟨y5,ey5,h2⟩:=A3 hF
 refine RW.cutq (σ:=(List TItem)) (fun y2=>[(3,.sl 0 0 y2.length)]) (fun y2=>[some ⟨fl (B2 true) y2,9⟩]) (fun y=>y5 = y) (fun _ _ _ _ g h=>RW.gh g h) ?_ ?_
 ·refine RW.blk ?_
  refine RW.iter (σ:=Int × (List TItem)) ey5 (fun s1=>[(1,.ptr 0 0),(3,.sl 1 0 s1.2.length),(4,.j s1.1)]) (fun s1=>[some ⟨B5 false x0,0⟩,some ⟨fl (B2 true) s1.2,9⟩]) (Gh.ren0 [0,1] (.cells rfl rfl .z2 (.same rfl (B4.fref _ _) .nil)) rfl (.p rfl rfl (.cons rfl (.slq rfl rfl) (.i rfl .nil)))) (fun s1 B o hS1 hB1 hE1=>?_)
  unfold Bk at hS1
  refine RW.seq (RW.sreg (rl.run 4 rfl ?_))
  refine rl.gen rfl rfl fun b hb=>?_
  cases b
  ·have h3:=A5 hS1 hb
   refine rl.done (RW.cond_f rfl (RW.exit (D0 ?_)))
   cases h3
   exact ⟨_,(hE1 _ rfl).symm,(Gh.ren0 [1] (.same rfl (B4.fref _ _) .nil) rfl (.cons rfl (.slq rfl rfl) .nil))⟩
  ·have h4:=A4 hS1 hb
   refine rl.done (RW.cond_t rfl (RW.skip (RW.seq (RW.blk (RW.reg (rl.run 4 rfl ?_))))))
   obtain ⟨v3,e3,h5⟩:=A3 h4
   refine rl.op (C1 (enc:=A8) (o:=false) rfl rfl rfl e3) ?_
   refine rl.run 1 rfl ?_
   refine rl.op (G5 (off':=3) A9 rfl e3 rfl rfl rfl) ?_
   obtain ⟨v4,e4,h6⟩:=A3 h5
   refine rl.op (Z4 rfl rfl (V5 (l:=s1.2) (m:=v3.Items) (o:=true) B4 rfl rfl Eh rfl (Cl.fst _ _) e4)) ?_
   refine rl.run 1 rfl (rl.done (RW.reg (rl.run 3 rfl (rl.done ?_))))
   cases h6
   exact hB1 _ rfl _ _ (Gh.ren0 [0,2] (.cells rfl rfl .z2 (.same rfl (B4.fref _ _) .nil)) rfl (.p rfl rfl (.cons rfl (.slq rfl rfl) (.i rfl .nil))))
 ·intro y2 hC
  subst hC
  refine RW.sreg (rl.run 2 rfl (rl.done (RW.ret ?_)))
  cases h2
  exact RRet.mk rfl (OutR.ownq B4 rfl rfl) (by first | decide | simp)
theorem A4l {x0 : List Int} {r : Bool} (hF : Cu x0 = some r) : B3 Tryz.prog 8 [L_B x0] (.bool r):=by
 refine B3.of_r A70 rfl ?_
 unfold Cu at hF
 refine RW.sreg (rl.run 1 rfl (rl.done (RW.sreg (rl.run 4 rfl (rl.done (RW.ret ?_))))))
 cases hF
 exact RRet.mk rfl .bool (by first | decide | simp)
theorem Vh {x0 : Int} {x1 : Int} {r : List UInt8} (hF : Dm x0 x1 = some r) : B3 Tryz.prog 140 [.j x0,.int .u8 x1] (.str r):=by
 refine B3.of_r A1w rfl ?_
 unfold Dm at hF
 refine RW.sreg (rl.run 1 rfl (rl.done (RW.sreg (rl.run 1 rfl ?_))))
 obtain ⟨v1,e1,h1⟩:=A3 hF
 refine rl.op (x_ms ekB rfl rfl e1 rfl) ?_
 refine rl.run 1 rfl (rl.done (RW.seq (RW.sreg (rl.run 1 rfl (rl.done ?_)))))
 obtain ⟨y6,ey6,h3⟩:=A3 h1
 refine RW.cutq (σ:=(List Int)) (fun y3=>[(5,.sl 0 0 y3.length)]) (fun y3=>[some ⟨fl (encB true) y3,1⟩]) (fun y=>y6 = y) (fun _ _ _ _ g h=>RW.gh g h) ?_ ?_
 ·refine RW.blk ?_
  refine RW.iter (σ:=Int × (List Int)) ey6 (fun s2=>[(0,.j x0),(1,.int .u8 x1),(5,.sl 0 0 s2.2.length),(6,.j s2.1)]) (fun s2=>[some ⟨fl (encB true) s2.2,1⟩]) (Gh.ren0 [0] (.same rfl (ekB.fref _ _) .nil) rfl (.i rfl (.i rfl (.cons rfl (.slq rfl rfl) (.i rfl .nil))))) (fun s2 B o hS2 hB2 hE2=>?_)
  unfold X3 at hS2
  refine RW.seq (RW.sreg (rl.run 2 rfl ?_))
  refine rl.gen rfl rfl fun b hb=>?_
  cases b
  ·have h4:=A5 hS2 hb
   refine rl.done (RW.cond_f rfl (RW.exit (D0 ?_)))
   cases h4
   exact ⟨_,(hE2 _ rfl).symm,(Gh.ren0 [0] (.same rfl (ekB.fref _ _) .nil) rfl (.cons rfl (.slq rfl rfl) .nil))⟩
  ·have h5:=A4 hS2 hb
   refine rl.done (RW.cond_t rfl (RW.skip (RW.seq (RW.blk (RW.reg (rl.run 3 rfl ?_))))))
   obtain ⟨v4,e4,h6⟩:=A3 h5
   refine rl.op (Eo rfl rfl rfl rfl e4) ?_
   obtain ⟨v5,e5,h7⟩:=A3 h6
   refine rl.op0 (A0w (off':=0) (o:=true) (e':=x1) ekB e4 rfl rfl rfl rfl rfl rfl rfl rfl rfl e5) ?_
   refine rl.done (RW.reg (rl.run 3 rfl (rl.done ?_)))
   cases h7
   exact hB2 _ rfl _ _ (Gh.ren0 [0] (.same rfl (ekB.fref _ _) .nil) rfl (.i rfl (.i rfl (.cons rfl (.slq rfl (Ao e5)) (.i rfl .nil)))))
 ·intro y3 hC
  subst hC
  refine RW.sreg (rl.run 1 rfl ?_)
  refine rl.op (Ja (o:=true) (l:=y6) rfl rfl) ?_
  refine rl.run 1 rfl (rl.done (RW.ret ?_))
  cases h3
  exact RRet.mk rfl .str (by first | decide | simp)
theorem Vw  {r : List UInt8} (hF : Az  = some r) : B3 Tryz.prog 158 [] (.str r):=by
 refine B3.of_r A0j rfl ?_
 unfold Az at hF
 refine RW.sreg (rl.run 1 rfl (rl.done (RW.sreg ?_)))
 obtain ⟨v1,e1,h1⟩:=A3 hF
 refine rl.call rfl rfl rfl (A7.val (r':=.str v1) Yz (Vh e1) (.cons .int (.cons .int .nil)) .refl ?_)
 refine rl.run 1 rfl (rl.done (RW.ret ?_))
 cases h1
 exact RRet.mk rfl .str (by first | decide | simp)
theorem C0 {x0 : Int} {x1 : Int} {x2 : Int} {r : Bool} (hF : B7 x0 x1 x2 = some r) : B3 Tryz.prog 91 [.j x0,.j x1,.j x2] (.bool r):=by
 refine B3.of_r A4w rfl ?_
 unfold B7 at hF
 refine RW.sreg (rl.run 1 rfl (rl.done (RW.sreg (rl.run 2 rfl ?_))))
 refine rl.gen rfl rfl fun b hb=>?_
 cases b
 ·have h1:=A5 hF hb
  refine rl.run 6 rfl (rl.done ?_)
  refine RW.kp [6] [(6,.bool false)] [] rfl rfl ?_
  refine RW.ret ?_
  cases h1
  exact RRet.mk rfl .bool (by first | decide | simp)
 ·have h2:=A4 hF hb
  refine rl.run 6 rfl (rl.done ?_)
  refine RW.kp [6] [(6,.bool (decide (x0 ≤ x2)))] [] rfl rfl ?_
  refine RW.ret ?_
  cases h2
  exact RRet.mk rfl .bool (by first | decide | simp)
theorem Ve {x0 : Int} {r : TDisk × Bool} (hF : Am x0 = some r) : B3 Tryz.prog 163 [.j x0] (.tup [.agg (A6 true r.1),.bool r.2]):=by
 refine B3.of_r A0i rfl ?_
 unfold Am at hF
 refine RW.sreg (rl.run 2 rfl (rl.done (RW.seq (RW.sreg (rl.run 1 rfl ?_)))))
 obtain ⟨v1,e1,h1⟩:=A3 hF
 refine rl.call rfl rfl rfl (A7.val (r':=.bool v1) C2 (C0 e1) (.cons .int (.cons .int (.cons .int .nil))) .refl ?_)
 cases hb : v1
 ·have h2:=A5 h1 hb
  refine rl.run 1 rfl (rl.done (RW.cond_t rfl (RW.sreg (rl.run 3 rfl (rl.done (RW.ret ?_))))))
  cases h2
  exact RRet.mk rfl (OutT.tup (.cons (OutL.agg (.cons (OutR.nil (enc:=encS)) rfl (.cons (OutR.nil (enc:=A2)) rfl .nil))) (.cons .bool .nil))) (by first | decide | simp)
 ·have h3:=A4 h1 hb
  refine rl.run 1 rfl (rl.done (RW.cond_f rfl (RW.skip (RW.sreg (rl.run 3 rfl (rl.done (RW.seq (RW.sreg (rl.run 1 rfl (rl.done ?_))))))))))
  refine RW.gh (Gh.nil_c 1 0 1 rfl rfl) ?_
  obtain ⟨y6,ey6,h5⟩:=A3 h3
  refine RW.cutq (σ:=(List (List UInt8))) (fun y3=>[(2,.ptr 0 0),(4,.ptr 1 0)]) (fun y3=>[some ⟨[.nils,.nils],0⟩,some ⟨[.sl 2 0 y3.length,.nils],0⟩,some ⟨fl (encS true) y3,1⟩]) (fun y=>y6 = y) (fun _ _ _ _ g h=>RW.gh g h) ?_ ?_
  ·refine RW.blk ?_
   refine RW.iter (σ:=Int × (List (List UInt8))) ey6 (fun s2=>[(0,.j x0),(2,.ptr 0 0),(4,.ptr 1 0),(5,.j s2.1)]) (fun s2=>[some ⟨[.nils,.nils],0⟩,some ⟨[.sl 2 0 s2.2.length,.nils],0⟩,some ⟨fl (encS true) s2.2,1⟩]) (Gh.ren0 [0,1,2] (.cells rfl rfl .z9 (.cells rfl rfl (.slq rfl rfl (.keep .nils .nil)) (.same rfl (ekS.fref _ _) .nil))) rfl (.i rfl (.p rfl rfl (.p rfl rfl (.i rfl .nil))))) (fun s2 B o hS4 hB4 hE4=>?_)
   unfold Bz at hS4
   refine RW.seq (RW.sreg (rl.run 2 rfl ?_))
   refine rl.gen rfl rfl fun b hb=>?_
   cases b
   ·have h6:=A5 hS4 hb
    refine rl.done (RW.cond_f rfl (RW.exit (D0 ?_)))
    cases h6
    exact ⟨_,(hE4 _ rfl).symm,(Gh.ren0 [0,1,2] (.cells rfl rfl .z9 (.cells rfl rfl (.slq rfl rfl (.keep .nils .nil)) (.same rfl (ekS.fref _ _) .nil))) rfl (.p rfl rfl (.p rfl rfl .nil)))⟩
   ·have h7:=A4 hS4 hb
    refine rl.done (RW.cond_t rfl (RW.skip (RW.seq (RW.blk (RW.drw (A0.op rfl rfl (A0.op rfl rfl ?_)))))))
    obtain ⟨v4,e4,h8⟩:=A3 h7
    refine A0.call rfl rfl rfl (A7.val (r':=.str v4) Yw (Vw e4) .nil .refl ⟨rfl,?_⟩)
    refine A0.chnB rfl rfl (.skip rfl (.here (.rx rfl) (.here (.rx rfl) .nil))) ?_
    obtain ⟨v5,e5,h9⟩:=A3 h8
    refine A0.chn rfl (Z4 rfl rfl (V5 (l:=s2.2) (m:=[v4]) (o:=true) ekS rfl rfl (P8 (m:=[v4]) (o:=true) fkS rfl rfl) rfl (fkS.fst _ _) e5)) ?_
    refine A0.op rfl rfl ?_
    refine A0.chn rfl rfl ?_
    refine A0.done (RW.reg (rl.run 3 rfl (rl.done ?_)))
    cases h9
    exact hB4 _ rfl _ _ (Gh.ren0 [0,1,4] (.cells rfl rfl .z9 (.cells rfl rfl (.slq rfl rfl (.keep .nils .nil)) (.same rfl (ekS.fref _ _) .nil))) rfl (.i rfl (.p rfl rfl (.p rfl rfl (.i rfl .nil)))))
  ·intro y3 hC
   subst hC
   refine RW.sreg (rl.run 3 rfl (rl.done (RW.ret ?_)))
   cases h5
   exact RRet.mk rfl (OutT.tup (.cons (OutL.agg (.cons (OutR.ownq ekS rfl rfl) rfl (.cons (OutR.nil (enc:=A2)) rfl .nil))) (.cons .bool .nil))) (by first | decide | simp)
theorem Ut {x0 : TLog} {r : TCheck} (hF : Y1 x0 = some r) : B3 Tryz.prog 20 [.agg (B5 false x0)] (.agg (G6 true r)):=by
 refine B3.of_r A1g rfl ?_
 unfold Y1 at hF
 refine RW.sreg (rl.run 2 rfl (rl.done (RW.sreg (rl.run 12 rfl (rl.done ?_)))))
 refine RW.kp [1,2,3] [(1,.ptr 0 0),(2,.ptr 1 0),(3,.ptr 2 0)] [some ⟨B5 false x0,0⟩,some ⟨[.j 0,.j 0,.j 0,.j 0,.nils],0⟩,some ⟨[.j (w64 (x0.Stamp + 1)),.j x0.NextGen,.j x0.NextSeq,.j x0.NextValid,.nils],0⟩] rfl rfl ?_
 refine RW.seq (RW.sreg (rl.run 1 rfl (rl.done ?_)))
 refine RW.gh (Gh.nil_c 2 4 2 rfl rfl) ?_
 obtain ⟨y6,ey6,h2⟩:=A3 hF
 refine RW.cutq (σ:=(List TRef)) (fun y2=>[(2,.ptr 0 0),(3,.ptr 1 0)]) (fun y2=>[some ⟨[.j 0,.j 0,.j 0,.j 0,.nils],0⟩,some ⟨[.j (w64 (x0.Stamp + 1)),.j x0.NextGen,.j x0.NextSeq,.j x0.NextValid,.sl 2 0 y2.length],0⟩,some ⟨fl (L6 true) y2,2⟩]) (fun y=>y6 = y) (fun _ _ _ _ g h=>RW.gh g h) ?_ ?_
 ·refine RW.blk ?_
  refine RW.iter (σ:=Int × (List TRef)) ey6 (fun s1=>[(1,.ptr 0 0),(2,.ptr 1 0),(3,.ptr 2 0),(4,.j s1.1)]) (fun s1=>[some ⟨B5 false x0,0⟩,some ⟨[.j 0,.j 0,.j 0,.j 0,.nils],0⟩,some ⟨[.j (w64 (x0.Stamp + 1)),.j x0.NextGen,.j x0.NextSeq,.j x0.NextValid,.sl 3 0 s1.2.length],0⟩,some ⟨fl (L6 true) s1.2,2⟩]) (Gh.ren0 [0,1,2,3] (.cells rfl rfl .z2 (.cells rfl rfl .z10 (.cells rfl rfl (.keep .int (.keep .int (.keep .int (.keep .int (.slq rfl rfl .nil))))) (.same rfl (V3.fref _ _) .nil)))) rfl (.p rfl rfl (.p rfl rfl (.p rfl rfl (.i rfl .nil))))) (fun s1 B o hS1 hB1 hE1=>?_)
  unfold Br at hS1
  refine RW.seq (RW.sreg (rl.run 4 rfl ?_))
  refine rl.gen rfl rfl fun b hb=>?_
  cases b
  ·have h3:=A5 hS1 hb
   refine rl.done (RW.cond_f rfl (RW.exit (D0 ?_)))
   cases h3
   exact ⟨_,(hE1 _ rfl).symm,(Gh.ren0 [1,2,3] (.cells rfl rfl .z10 (.cells rfl rfl (.keep .int (.keep .int (.keep .int (.keep .int (.slq rfl rfl .nil))))) (.same rfl (V3.fref _ _) .nil))) rfl (.p rfl rfl (.p rfl rfl .nil)))⟩
  ·have h4:=A4 hS1 hb
   refine rl.done (RW.cond_t rfl (RW.skip (RW.seq (RW.blk (RW.drw (A0.op rfl rfl (A0.op rfl rfl (A0.op rfl rfl (A0.op rfl rfl (A0.op rfl rfl ?_))))))))))
   obtain ⟨v3,e3,h5⟩:=A3 h4
   refine A0.op rfl (C1 (enc:=A8) (o:=false) rfl rfl rfl e3) ?_
   refine A0.op rfl rfl ?_
   refine A0.op rfl (G5 (off':=0) A9 rfl e3 rfl rfl rfl) ?_
   refine A0.op rfl rfl (A0.op rfl rfl (A0.op rfl rfl ?_))
   obtain ⟨v4,e4,h6⟩:=A3 h5
   refine A0.op rfl (C1 (enc:=A8) (o:=false) rfl rfl rfl e4) ?_
   refine A0.op rfl rfl ?_
   refine A0.op rfl (G5 (off':=1) A9 rfl e4 rfl rfl rfl) ?_
   refine A0.op rfl rfl ?_
   refine A0.chnB rfl rfl (.skip rfl (.skip rfl (.skip rfl (.skip rfl (.skip rfl (.skip rfl (.skip rfl (.skip rfl (.skip rfl (.skip rfl (.skip rfl (.skip rfl (.skip rfl (.here (.rx rfl) (.here (.rx rfl) .nil))))))))))))))) ?_
   obtain ⟨v5,e5,h7⟩:=A3 h6
   refine A0.chn rfl (Z4 rfl rfl (V5 (l:=s1.2) (m:=[({ No:=v3.No,Gen:=v4.Gen } : TRef)]) (o:=true) V3 rfl rfl (P8 (m:=[({ No:=v3.No,Gen:=v4.Gen } : TRef)]) (o:=true) A52 rfl rfl) rfl (A52.fst _ _) e5)) ?_
   refine A0.op rfl rfl ?_
   refine A0.chn rfl rfl ?_
   refine A0.done (RW.reg (rl.run 3 rfl (rl.done ?_)))
   cases h7
   exact hB1 _ rfl _ _ (Gh.ren0 [0,1,2,5] (.cells rfl rfl .z2 (.cells rfl rfl .z10 (.cells rfl rfl (.keep .int (.keep .int (.keep .int (.keep .int (.slq rfl rfl .nil))))) (.same rfl (V3.fref _ _) .nil)))) rfl (.p rfl rfl (.p rfl rfl (.p rfl rfl (.i rfl .nil)))))
 ·intro y2 hC
  subst hC
  refine RW.sreg (rl.run 2 rfl (rl.done (RW.ret ?_)))
  cases h2
  exact RRet.mk rfl (OutL.agg (.i (.i (.i (.i (.cons (OutR.ownq V3 rfl rfl) rfl .nil)))))) (by first | decide | simp)
theorem J4 {x0 : TDisk} {r : TDisk} (hF : D6 x0 = some r) : B3 Tryz.prog 109 [.agg (A6 false x0)] (.agg (A6 true r)):=by
 refine B3.of_r A22 rfl ?_
 unfold D6 at hF
 refine RW.sreg (rl.run 2 rfl (rl.done (RW.sdrw (A0.op rfl rfl (A0.op rfl rfl (A0.op rfl rfl ?_))))))
 obtain ⟨v1,e1,h1⟩:=A3 hF
 refine A0.chn rfl (Z4 rfl rfl (Li (m:=x0.Sectors) (o:=true) ekS Eh rfl (fkS.fst _ _) e1)) ?_
 refine A0.opA rfl rfl (.here (.rx rfl) .nil) ?_
 refine A0.opA rfl rfl (.here (.rx rfl) .nil) ?_
 refine A0.opA rfl rfl (.here (.rx rfl) .nil) ?_
 obtain ⟨v2,e2,h2⟩:=A3 h1
 refine A0.chn rfl (Z4 rfl rfl (Li (m:=x0.Cache) (o:=true) A1 Eh rfl (Ef.fst _ _) e2)) ?_
 refine A0.op rfl rfl ?_
 refine A0.chn rfl rfl ?_
 refine A0.done ?_
 refine RW.kp [2] [(2,.ptr 1 0)] [some ⟨A6 false x0,0⟩,some ⟨[.sl 2 0 v1.length,.sl 3 0 v2.length],0⟩,some ⟨fl (encS true) v1,1⟩,some ⟨fl (A2 true) v2,2⟩] rfl rfl ?_
 refine RW.ret ?_
 cases h2
 exact RRet.mk rfl (OutL.agg (.cons (OutR.ownq ekS rfl rfl) rfl (.cons (OutR.ownq A1 rfl rfl) rfl .nil))) (by first | decide | simp)
set_option maxHeartbeats 2000000 in
theorem Cq {x0 : TDisk} {r : Bool} (hF : R1 x0 = some r) : B3 Tryz.prog 89 [.agg (A6 false x0)] (.bool r):=by
 refine B3.of_r A2x rfl ?_
 unfold R1 at hF
 refine RW.sreg (rl.run 2 rfl (rl.done (RW.seq (RW.seq ?_))))
 obtain ⟨y1,ey1,h1⟩:=A3 hF
 refine RW.cutq (σ:=Bool) (fun y1=>[(1,.ptr 0 0),(15,.bool y1)]) (fun y1=>[some ⟨A6 false x0,0⟩]) (fun y=>y1 = y) (fun _ _ _ _ g h=>RW.gh g h) ?_ ?_
 ·refine RW.reg ?_
  refine rl.run 3 rfl ?_
  obtain ⟨v2,e2,h2⟩:=A3 ey1
  refine rl.call rfl rfl rfl (A7.val (r':=.bool v2) C2 (C0 e2) (.cons .int (.cons .int (.cons .int .nil))) .refl ?_)
  cases hb : v2
  ·have h3:=A5 h2 hb
   refine rl.run 7 rfl (rl.done ?_)
   cases h3
   exact ⟨_,rfl,(Gh.ren0 [0] (.cells rfl rfl .z4 .nil) rfl (.p rfl rfl (.b rfl .nil)))⟩
  ·have h4:=A4 h2 hb
   refine rl.run 5 rfl ?_
   refine rl.gen rfl rfl fun b hb=>?_
   cases b
   ·have h5:=A5 h4 hb
    refine rl.run 1 rfl (rl.done ?_)
    cases h5
    exact ⟨_,rfl,(Gh.ren0 [0] (.cells rfl rfl .z4 .nil) rfl (.p rfl rfl (.b rfl .nil)))⟩
   ·have h6:=A4 h4 hb
    refine rl.run 1 rfl (rl.done ?_)
    cases h6
    exact ⟨_,rfl,(Gh.ren0 [0] (.cells rfl rfl .z4 .nil) rfl (.p rfl rfl (.b rfl .nil)))⟩
 ·intro y hC
  subst hC
  cases hb : y1
  ·have h7:=A5 h1 hb
   refine RW.cond_f rfl (RW.skip (RW.seq (RW.sreg (rl.run 1 rfl (rl.done ?_)))))
   obtain ⟨y6,ey6,h9⟩:=A3 h7
   refine RW.cutq (σ:=Unit) (fun y4=>[(1,.ptr 0 0)]) (fun y4=>[some ⟨A6 false x0,0⟩]) (fun y=>y6 = .inr y) (fun _ _ _ _ g h=>RW.gh g h) ?_ ?_
   ·refine RW.blk ?_
    refine RW.iter (σ:=Int) ey6 (fun s3=>[(1,.ptr 0 0),(3,.j s3)]) (fun s3=>[some ⟨A6 false x0,0⟩]) (Gh.ren0 [0] (.cells rfl rfl .z4 .nil) rfl (.p rfl rfl (.i rfl .nil))) (fun s3 B o hS8 hB8 hE8=>?_)
    unfold Z2 at hS8
    refine RW.seq (RW.sreg (rl.run 4 rfl ?_))
    refine rl.gen rfl rfl fun b hb=>?_
    cases b
    ·have h10:=A5 hS8 hb
     refine rl.done (RW.cond_f rfl (RW.exit (D0 ?_)))
     cases h10
     exact ⟨_,(hE8 _ rfl).symm,(Gh.ren0 [0] (.cells rfl rfl .z4 .nil) rfl (.p rfl rfl .nil))⟩
    ·have h11:=A4 hS8 hb
     refine rl.done (RW.cond_t rfl (RW.skip (RW.seq (RW.blk (RW.sreg (rl.run 3 rfl ?_))))))
     obtain ⟨v5,e5,h12⟩:=A3 h11
     refine rl.op (C1 (enc:=encS) (o:=false) rfl rfl rfl e5) ?_
     refine rl.op (G5 (off':=0) ekS rfl e5 rfl rfl rfl) ?_
     refine rl.run 1 rfl ?_
     refine rl.gen rfl rfl fun b hb=>?_
     cases b
     ·have h13:=A5 h12 hb
      refine rl.done ?_
      refine RW.kp [1,3,29] [(1,.ptr 0 0),(3,.j s3),(29,.bool false)] [some ⟨A6 false x0,0⟩] rfl rfl ?_
      refine RW.cond_f rfl (RW.skip (RW.reg (rl.run 3 rfl (rl.done ?_))))
      cases h13
      exact hB8 _ rfl _ _ (Gh.ren0 [0] (.cells rfl rfl .z4 .nil) rfl (.p rfl rfl (.i rfl .nil)))
     ·have h14:=A4 h12 hb
      refine rl.done ?_
      refine RW.kp [1,3,29] [(1,.ptr 0 0),(3,.j s3),(29,.bool true)] [some ⟨A6 false x0,0⟩] rfl rfl ?_
      refine RW.cond_t rfl (RW.sreg (rl.run 1 rfl (rl.done (RW.ret ?_))))
      cases h14
      have h15:=elimL h9 (hE8 _ rfl)
      cases h15
      exact RRet.mk rfl .bool (by first | decide | simp)
   ·intro y4 hC
    have h9:=elimR h9 hC
    refine RW.seq (RW.sreg (rl.run 1 rfl (rl.done ?_)))
    obtain ⟨y13,ey13,h17⟩:=A3 h9
    refine RW.cutq (σ:=Unit) (fun y8=>[]) (fun y8=>[]) (fun y=>y13 = .inr y) (fun _ _ _ _ g h=>RW.gh g h) ?_ ?_
    ·refine RW.blk ?_
     refine RW.iter (σ:=Int) ey13 (fun s7=>[(1,.ptr 0 0),(4,.j s7)]) (fun s7=>[some ⟨A6 false x0,0⟩]) (Gh.ren0 [0] (.cells rfl rfl .z4 .nil) rfl (.p rfl rfl (.i rfl .nil))) (fun s7 B o hS16 hB16 hE16=>?_)
     unfold Z7 at hS16
     refine RW.seq (RW.sreg (rl.run 4 rfl ?_))
     refine rl.gen rfl rfl fun b hb=>?_
     cases b
     ·have h18:=A5 hS16 hb
      refine rl.done (RW.cond_f rfl (RW.exit (D0 ?_)))
      cases h18
      exact ⟨_,(hE16 _ rfl).symm,(Gh.ren0 [] .nil rfl .nil)⟩
     ·have h19:=A4 hS16 hb
      refine rl.done (RW.cond_t rfl (RW.skip (RW.seq (RW.blk (RW.seq ?_)))))
      obtain ⟨y9,ey9,h20⟩:=A3 h19
      refine RW.cutq (σ:=Bool) (fun y9=>[(1,.ptr 0 0),(4,.j s7),(58,.bool y9)]) (fun y9=>[some ⟨A6 false x0,0⟩]) (fun y=>y9 = y) (fun _ _ _ _ g h=>RW.gh g h) ?_ ?_
      ·refine RW.drw ?_
       refine A0.op rfl rfl (A0.op rfl rfl (A0.op rfl rfl ?_))
       obtain ⟨v10,e10,h21⟩:=A3 ey9
       refine A0.op rfl (C1 (enc:=A2) (o:=false) rfl rfl rfl e10) ?_
       refine A0.op rfl rfl ?_
       refine A0.op rfl (G5 (off':=0) A1 rfl e10 rfl rfl rfl) ?_
       refine A0.op rfl rfl (A0.op rfl rfl (A0.op rfl rfl (A0.op rfl rfl ?_)))
       obtain ⟨v11,e11,h22⟩:=A3 h21
       refine A0.call rfl rfl rfl (A7.val (r':=.bool v11) C2 (C0 e11) (.cons .int (.cons .int (.cons .int .nil))) .refl ⟨rfl,?_⟩)
       cases hb : v11
       ·have h23:=A5 h22 hb
        refine A0.op rfl rfl (A0.op rfl rfl (A0.off rfl (A0.off rfl (A0.off rfl (A0.off rfl (A0.off rfl (A0.off rfl (A0.off rfl (A0.off rfl (A0.op rfl rfl (A0.done ?_)))))))))))
        cases h23
        exact ⟨_,rfl,(Gh.ren0 [0] (.cells rfl rfl .z4 .nil) rfl (.p rfl rfl (.i rfl (.b rfl .nil))))⟩
       ·have h24:=A4 h22 hb
        refine A0.op rfl rfl (A0.op rfl rfl (A0.op rfl rfl (A0.op rfl rfl (A0.op rfl rfl ?_))))
        obtain ⟨v12,e12,h25⟩:=A3 h24
        refine A0.op rfl (C1 (enc:=A2) (o:=false) rfl rfl rfl e12) ?_
        refine A0.op rfl rfl ?_
        refine A0.op rfl (G5 (off':=1) A1 rfl e12 rfl rfl rfl) ?_
        refine A0.op rfl rfl ?_
        refine A0.gen rfl rfl fun b hb=>?_
        cases b
        ·have h26:=A5 h25 hb
         refine A0.op rfl rfl (A0.done ?_)
         cases h26
         exact ⟨_,rfl,(Gh.ren0 [0] (.cells rfl rfl .z4 .nil) rfl (.p rfl rfl (.i rfl (.b rfl .nil))))⟩
        ·have h27:=A4 h25 hb
         refine A0.op rfl rfl (A0.done ?_)
         cases h27
         exact ⟨_,rfl,(Gh.ren0 [0] (.cells rfl rfl .z4 .nil) rfl (.p rfl rfl (.i rfl (.b rfl .nil))))⟩
      ·intro y hC
       subst hC
       cases hb : y9
       ·have h28:=A5 h20 hb
        refine RW.cond_f rfl (RW.skip (RW.reg (rl.run 3 rfl (rl.done ?_))))
        cases h28
        exact hB16 _ rfl _ _ (Gh.ren0 [0] (.cells rfl rfl .z4 .nil) rfl (.p rfl rfl (.i rfl .nil)))
       ·have h29:=A4 h20 hb
        refine RW.cond_t rfl (RW.sreg (rl.run 1 rfl (rl.done (RW.ret ?_))))
        cases h29
        have h30:=elimL h17 (hE16 _ rfl)
        cases h30
        exact RRet.mk rfl .bool (by first | decide | simp)
    ·intro y8 hC
     have h17:=elimR h17 hC
     refine RW.sreg (rl.run 1 rfl (rl.done (RW.ret ?_)))
     cases h17
     exact RRet.mk rfl .bool (by first | decide | simp)
  ·have h31:=A4 h1 hb
   refine RW.cond_t rfl (RW.sreg (rl.run 1 rfl (rl.done (RW.ret ?_))))
   cases h31
   exact RRet.mk rfl .bool (by first | decide | simp)
theorem Ey {x0 : TDisk} {x1 : Int} {x2 : List UInt8} {r : TDisk × Bool} (hF : K0 x0 x1 x2 = some r) : B3 Tryz.prog 141 [.agg (A6 false x0),.j x1,.str x2] (.tup [.agg (A6 true r.1),.bool r.2]):=by
 refine B3.of_r Pi rfl ?_
 unfold K0 at hF
 refine RW.sreg (rl.run 3 rfl (rl.done (RW.sreg (rl.run 1 rfl ?_))))
 obtain ⟨v1,e1,h1⟩:=A3 hF
 refine rl.call rfl rfl rfl (A7.own (r':=.agg (B8 2 3 v1)) (H':=[some ⟨A6 false x0,0⟩,some ⟨[.nils,.nils],0⟩,some ⟨fl (encS true) v1.Sectors,1⟩,some ⟨fl (A2 true) v1.Cache,2⟩]) K2 (J4 e1) (.cons (DFL.agg (.cons (.lst ekS) (.cons (.lst A1) .nil))) .nil) (C9.own _) rfl ?_)
 refine rl.run 2 rfl (rl.done (RW.seq (RW.seq ?_)))
 obtain ⟨y2,ey2,h2⟩:=A3 h1
 refine RW.cutq (σ:=Bool) (fun y2=>[(1,.j x1),(2,.str x2),(6,.ptr 0 0),(8,.ptr 1 0),(33,.bool y2)]) (fun y2=>[some ⟨[.nils,.nils],0⟩,some ⟨B8 2 3 v1,0⟩,some ⟨fl (encS true) v1.Sectors,1⟩,some ⟨fl (A2 true) v1.Cache,2⟩]) (fun y=>y2 = y) (fun _ _ _ _ g h=>RW.gh g h) ?_ ?_
 ·refine RW.reg ?_
  refine rl.run 1 rfl ?_
  obtain ⟨v3,e3,h3⟩:=A3 ey2
  refine rl.call rfl rfl rfl (A7.val (r':=.bool v3) Dk (Cq e3) (.cons (DFL.agg (.cons (.lst ekS) (.cons (.lst A1) .nil))) .nil) .refl ?_)
  cases hb : v3
  ·have h4:=A5 h3 hb
   refine rl.run 21 rfl (rl.done ?_)
   cases h4
   exact ⟨_,rfl,(Gh.ren0 [1,4,2,3] (.cells rfl rfl .z9 (.cells rfl rfl (.slq rfl rfl (.slq rfl rfl .nil)) (.same rfl (ekS.fref _ _) (.same rfl (A1.fref _ _) .nil)))) rfl (.i rfl (.s rfl (.p rfl rfl (.p rfl rfl (.b rfl .nil))))))⟩
  ·have h5:=A4 h3 hb
   refine rl.run 7 rfl ?_
   obtain ⟨v4,e4,h6⟩:=A3 h5
   refine rl.call rfl rfl rfl (A7.val (r':=.bool v4) C2 (C0 e4) (.cons .int (.cons .int (.cons .int .nil))) .refl ?_)
   cases hb : v4
   ·have h7:=A5 h6 hb
    refine rl.run 13 rfl (rl.done ?_)
    cases h7
    exact ⟨_,rfl,(Gh.ren0 [1,4,2,3] (.cells rfl rfl .z9 (.cells rfl rfl (.slq rfl rfl (.slq rfl rfl .nil)) (.same rfl (ekS.fref _ _) (.same rfl (A1.fref _ _) .nil)))) rfl (.i rfl (.s rfl (.p rfl rfl (.p rfl rfl (.b rfl .nil))))))⟩
   ·have h8:=A4 h6 hb
    refine rl.run 5 rfl ?_
    refine rl.gen rfl rfl fun b hb=>?_
    cases b
    ·have h9:=A5 h8 hb
     refine rl.run 5 rfl ?_
     refine rl.gen rfl rfl fun b hb=>?_
     cases b
     ·have h10:=A5 h9 hb
      refine rl.run 1 rfl (rl.done ?_)
      cases h10
      exact ⟨_,rfl,(Gh.ren0 [1,4,2,3] (.cells rfl rfl .z9 (.cells rfl rfl (.slq rfl rfl (.slq rfl rfl .nil)) (.same rfl (ekS.fref _ _) (.same rfl (A1.fref _ _) .nil)))) rfl (.i rfl (.s rfl (.p rfl rfl (.p rfl rfl (.b rfl .nil))))))⟩
     ·have h11:=A4 h9 hb
      refine rl.run 1 rfl (rl.done ?_)
      cases h11
      exact ⟨_,rfl,(Gh.ren0 [1,4,2,3] (.cells rfl rfl .z9 (.cells rfl rfl (.slq rfl rfl (.slq rfl rfl .nil)) (.same rfl (ekS.fref _ _) (.same rfl (A1.fref _ _) .nil)))) rfl (.i rfl (.s rfl (.p rfl rfl (.p rfl rfl (.b rfl .nil))))))⟩
    ·have h12:=A4 h8 hb
     refine rl.run 7 rfl (rl.done ?_)
     cases h12
     exact ⟨_,rfl,(Gh.ren0 [1,4,2,3] (.cells rfl rfl .z9 (.cells rfl rfl (.slq rfl rfl (.slq rfl rfl .nil)) (.same rfl (ekS.fref _ _) (.same rfl (A1.fref _ _) .nil)))) rfl (.i rfl (.s rfl (.p rfl rfl (.p rfl rfl (.b rfl .nil))))))⟩
 ·intro y hC
  subst hC
  cases hb : y2
  ·have h13:=A5 h2 hb
   refine RW.cond_f rfl (RW.skip (RW.sreg (rl.run 6 rfl ?_)))
   obtain ⟨v5,e5,h14⟩:=A3 h13
   refine rl.op (Z4 rfl rfl (V5 (l:=v1.Cache) (m:=[({ At:=x1,Text:=x2 } : TWrite)]) (o:=true) A1 rfl rfl (P8 (m:=[({ At:=x1,Text:=x2 } : TWrite)]) (o:=true) Ef rfl rfl) rfl (Ef.fst _ _) e5)) ?_
   refine rl.run 2 rfl (rl.done ?_)
   refine RW.kp [6,8] [(6,.ptr 0 0),(8,.ptr 1 0)] [some ⟨[.nils,.nils],0⟩,some ⟨[.sl 2 0 v1.Sectors.length,.sl 5 0 v5.length],0⟩,some ⟨fl (encS true) v1.Sectors,1⟩,none,some ⟨fl (A2 true) [({ At:=x1,Text:=x2 } : TWrite)],2⟩,some ⟨fl (A2 true) v5,2⟩] rfl rfl ?_
   refine RW.sreg (rl.run 3 rfl (rl.done (RW.ret ?_)))
   cases h14
   exact RRet.mk rfl (OutT.tup (.cons (OutL.agg (.cons (OutR.ownq ekS rfl rfl) rfl (.cons (OutR.ownq A1 rfl rfl) rfl .nil))) (.cons .bool .nil))) (by first | decide | simp)
  ·have h15:=A4 h2 hb
   refine RW.cond_t rfl (RW.sreg (rl.run 3 rfl (rl.done (RW.ret ?_))))
   cases h15
   exact RRet.mk rfl (OutT.tup (.cons (OutL.agg (.cons (OutR.ownq ekS rfl rfl) rfl (.cons (OutR.ownq A1 rfl rfl) rfl .nil))) (.cons .bool .nil))) (by first | decide | simp)
theorem Fm {x0 : TDisk} {x1 : Int} {r : (List UInt8) × Bool} (hF : J8 x0 x1 = some r) : B3 Tryz.prog 160 [.agg (A6 false x0),.j x1] (.tup [.str r.1,.bool r.2]):=by
 refine B3.of_r Qu rfl ?_
 unfold J8 at hF
 refine RW.sreg (rl.run 3 rfl (rl.done (RW.seq (RW.sreg (rl.run 5 rfl ?_)))))
 obtain ⟨v1,e1,h1⟩:=A3 hF
 refine rl.call rfl rfl rfl (A7.val (r':=.bool v1) C2 (C0 e1) (.cons .int (.cons .int (.cons .int .nil))) .refl ?_)
 cases hb : v1
 ·have h2:=A5 h1 hb
  refine rl.run 1 rfl (rl.done (RW.cond_t rfl (RW.sreg (rl.run 2 rfl (rl.done (RW.ret ?_))))))
  cases h2
  exact RRet.mk rfl (OutT.tup (.cons .str (.cons .bool .nil))) (by first | decide | simp)
 ·have h3:=A4 h1 hb
  refine rl.run 1 rfl (rl.done (RW.cond_f rfl (RW.skip (RW.seq (RW.sreg (rl.run 5 rfl (rl.done ?_)))))))
  refine RW.kp [1,2,6] [(1,.j x1),(2,.ptr 0 0),(6,.j (w64 ((x0.Cache.length : Int) - 1)))] [some ⟨A6 false x0,0⟩] rfl rfl ?_
  obtain ⟨y6,ey6,h5⟩:=A3 h3
  refine RW.cutq (σ:=Unit) (fun y3=>[(1,.j x1),(2,.ptr 0 0)]) (fun y3=>[some ⟨A6 false x0,0⟩]) (fun y=>y6 = .inr y) (fun _ _ _ _ g h=>RW.gh g h) ?_ ?_
  ·refine RW.blk ?_
   refine RW.iter (σ:=Int) ey6 (fun s2=>[(1,.j x1),(2,.ptr 0 0),(6,.j s2)]) (fun s2=>[some ⟨A6 false x0,0⟩]) (Gh.ren0 [0] (.cells rfl rfl .z4 .nil) rfl (.i rfl (.p rfl rfl (.i rfl .nil)))) (fun s2 B o hS4 hB4 hE4=>?_)
   unfold L9 at hS4
   refine RW.seq (RW.sreg (rl.run 1 rfl ?_))
   refine rl.gen rfl rfl fun b hb=>?_
   cases b
   ·have h6:=A5 hS4 hb
    refine rl.done (RW.cond_f rfl (RW.exit (D0 ?_)))
    cases h6
    exact ⟨_,(hE4 _ rfl).symm,(Gh.ren0 [0] (.cells rfl rfl .z4 .nil) rfl (.i rfl (.p rfl rfl .nil)))⟩
   ·have h7:=A4 hS4 hb
    refine rl.done (RW.cond_t rfl (RW.skip (RW.seq (RW.blk (RW.sreg (rl.run 3 rfl ?_))))))
    obtain ⟨v4,e4,h8⟩:=A3 h7
    refine rl.op (C1 (enc:=A2) (o:=false) rfl rfl rfl e4) ?_
    refine rl.run 1 rfl ?_
    refine rl.op (G5 (off':=0) A1 rfl e4 rfl rfl rfl) ?_
    refine rl.run 1 rfl ?_
    refine rl.gen rfl rfl fun b hb=>?_
    cases b
    ·have h9:=A5 h8 hb
     refine rl.done (RW.cond_f rfl (RW.skip (RW.reg (rl.run 3 rfl (rl.done ?_)))))
     cases h9
     exact hB4 _ rfl _ _ (Gh.ren0 [0] (.cells rfl rfl .z4 .nil) rfl (.i rfl (.p rfl rfl (.i rfl .nil))))
    ·have h10:=A4 h8 hb
     refine rl.done (RW.cond_t rfl (RW.sreg (rl.run 3 rfl ?_)))
     obtain ⟨v5,e5,h11⟩:=A3 h10
     refine rl.op (C1 (enc:=A2) (o:=false) rfl rfl rfl e5) ?_
     refine rl.run 1 rfl ?_
     refine rl.op (G5 (off':=1) A1 rfl e5 rfl rfl rfl) ?_
     refine rl.run 2 rfl (rl.done ?_)
     refine RW.kp [4,5] [(4,.str v5.Text),(5,.bool true)] [some ⟨A6 false x0,0⟩] rfl rfl ?_
     refine RW.ret ?_
     cases h11
     have h12:=elimL h5 (hE4 _ rfl)
     cases h12
     exact RRet.mk rfl (OutT.tup (.cons .str (.cons .bool .nil))) (by first | decide | simp)
  ·intro y3 hC
   have h5:=elimR h5 hC
   refine RW.sreg (rl.run 3 rfl ?_)
   obtain ⟨v7,e7,h13⟩:=A3 h5
   refine rl.op (C1 (enc:=encS) (o:=false) rfl rfl rfl e7) ?_
   refine rl.op (G5 (off':=0) ekS rfl e7 rfl rfl rfl) ?_
   refine rl.run 2 rfl (rl.done (RW.ret ?_))
   cases h13
   exact RRet.mk rfl (OutT.tup (.cons .str (.cons .bool .nil))) (by first | decide | simp)
set_option maxHeartbeats 2000000 in
theorem Fn {x0 : TDisk} {x1 : Int} {x2 : Int} {x3 : List UInt8} {r : TDisk × Bool} (hF : J1 x0 x1 x2 x3 = some r) : B3 Tryz.prog 110 [.agg (A6 false x0),.j x1,.j x2,.str x3] (.tup [.agg (A6 true r.1),.bool r.2]):=by
 refine B3.of_r Th rfl ?_
 unfold J1 at hF
 refine RW.sreg (rl.run 3 rfl (rl.done (RW.sreg (rl.run 1 rfl ?_))))
 obtain ⟨v1,e1,h1⟩:=A3 hF
 refine rl.call rfl rfl rfl (A7.own (r':=.agg (B8 2 3 v1)) (H':=[some ⟨A6 false x0,0⟩,some ⟨[.nils,.nils],0⟩,some ⟨fl (encS true) v1.Sectors,1⟩,some ⟨fl (A2 true) v1.Cache,2⟩]) K2 (J4 e1) (.cons (DFL.agg (.cons (.lst ekS) (.cons (.lst A1) .nil))) .nil) (C9.own _) rfl ?_)
 refine rl.run 2 rfl (rl.done (RW.seq (RW.seq ?_)))
 obtain ⟨y2,ey2,h2⟩:=A3 h1
 refine RW.cutq (σ:=Bool) (fun y2=>[(1,.j x1),(2,.j x2),(3,.str x3),(4,.ptr 0 0),(8,.ptr 1 0),(10,.ptr 2 0),(37,.bool y2)]) (fun y2=>[some ⟨A6 false x0,0⟩,some ⟨[.nils,.nils],0⟩,some ⟨B8 3 4 v1,0⟩,some ⟨fl (encS true) v1.Sectors,1⟩,some ⟨fl (A2 true) v1.Cache,2⟩]) (fun y=>y2 = y) (fun _ _ _ _ g h=>RW.gh g h) ?_ ?_
 ·refine RW.reg ?_
  refine rl.run 1 rfl ?_
  obtain ⟨v3,e3,h3⟩:=A3 ey2
  refine rl.call rfl rfl rfl (A7.val (r':=.bool v3) C2 (C0 e3) (.cons .int (.cons .int (.cons .int .nil))) .refl ?_)
  cases hb : v3
  ·have h4:=A5 h3 hb
   refine rl.run 15 rfl (rl.done ?_)
   cases h4
   exact ⟨_,rfl,(Gh.ren0 [0,1,4,2,3] (.cells rfl rfl .z4 (.cells rfl rfl .z9 (.cells rfl rfl (.slq rfl rfl (.slq rfl rfl .nil)) (.same rfl (ekS.fref _ _) (.same rfl (A1.fref _ _) .nil))))) rfl (.i rfl (.i rfl (.s rfl (.p rfl rfl (.p rfl rfl (.p rfl rfl (.b rfl .nil))))))))⟩
  ·have h5:=A4 h3 hb
   refine rl.run 7 rfl ?_
   obtain ⟨v4,e4,h6⟩:=A3 h5
   refine rl.call rfl rfl rfl (A7.val (r':=.bool v4) C2 (C0 e4) (.cons .int (.cons .int (.cons .int .nil))) .refl ?_)
   cases hb : v4
   ·have h7:=A5 h6 hb
    refine rl.run 7 rfl (rl.done ?_)
    cases h7
    exact ⟨_,rfl,(Gh.ren0 [0,1,4,2,3] (.cells rfl rfl .z4 (.cells rfl rfl .z9 (.cells rfl rfl (.slq rfl rfl (.slq rfl rfl .nil)) (.same rfl (ekS.fref _ _) (.same rfl (A1.fref _ _) .nil))))) rfl (.i rfl (.i rfl (.s rfl (.p rfl rfl (.p rfl rfl (.p rfl rfl (.b rfl .nil))))))))⟩
   ·have h8:=A4 h6 hb
    refine rl.run 4 rfl ?_
    obtain ⟨v5,e5,h9⟩:=A3 h8
    refine rl.call rfl rfl rfl (A7.val (r':=.bool v5) Dk (Cq e5) (.cons (DFL.agg (.cons (.lst ekS) (.cons (.lst A1) .nil))) .nil) .refl ?_)
    cases hb : v5
    ·have h10:=A5 h9 hb
     refine rl.run 2 rfl (rl.done ?_)
     cases h10
     exact ⟨_,rfl,(Gh.ren0 [0,1,4,2,3] (.cells rfl rfl .z4 (.cells rfl rfl .z9 (.cells rfl rfl (.slq rfl rfl (.slq rfl rfl .nil)) (.same rfl (ekS.fref _ _) (.same rfl (A1.fref _ _) .nil))))) rfl (.i rfl (.i rfl (.s rfl (.p rfl rfl (.p rfl rfl (.p rfl rfl (.b rfl .nil))))))))⟩
    ·have h11:=A4 h9 hb
     refine rl.run 2 rfl (rl.done ?_)
     cases h11
     exact ⟨_,rfl,(Gh.ren0 [0,1,4,2,3] (.cells rfl rfl .z4 (.cells rfl rfl .z9 (.cells rfl rfl (.slq rfl rfl (.slq rfl rfl .nil)) (.same rfl (ekS.fref _ _) (.same rfl (A1.fref _ _) .nil))))) rfl (.i rfl (.i rfl (.s rfl (.p rfl rfl (.p rfl rfl (.p rfl rfl (.b rfl .nil))))))))⟩
 ·intro y hC
  subst hC
  cases hb : y2
  ·have h12:=A5 h2 hb
   refine RW.cond_f rfl (RW.skip (RW.seq (RW.sreg (rl.run 1 rfl (rl.done ?_)))))
   obtain ⟨y28,ey28,h14⟩:=A3 h12
   refine RW.cutq (σ:=(List (List UInt8)) × (List TWrite)) (fun y7=>[(8,.ptr 0 0),(10,.ptr 1 0)]) (fun y7=>[some ⟨[.nils,.nils],0⟩,some ⟨[.sl 2 0 y7.1.length,.sl 3 0 y7.2.length],0⟩,some ⟨fl (encS true) y7.1,1⟩,some ⟨fl (A2 true) y7.2,2⟩]) (fun y=>y28 = .inr y) (fun _ _ _ _ g h=>RW.gh g h) ?_ ?_
   ·refine RW.blk ?_
    refine RW.iter (σ:=Int × (List (List UInt8)) × (List TWrite)) ey28 (fun s6=>[(1,.j x1),(2,.j x2),(3,.str x3),(4,.ptr 0 0),(8,.ptr 1 0),(10,.ptr 2 0),(11,.j s6.1)]) (fun s6=>[some ⟨A6 false x0,0⟩,some ⟨[.nils,.nils],0⟩,some ⟨[.sl 3 0 s6.2.1.length,.sl 4 0 s6.2.2.length],0⟩,some ⟨fl (encS true) s6.2.1,1⟩,some ⟨fl (A2 true) s6.2.2,2⟩]) (Gh.ren0 [0,1,2,3,4] (.cells rfl rfl .z4 (.cells rfl rfl .z9 (.cells rfl rfl (.slq rfl rfl (.slq rfl rfl .nil)) (.same rfl (ekS.fref _ _) (.same rfl (A1.fref _ _) .nil))))) rfl (.i rfl (.i rfl (.s rfl (.p rfl rfl (.p rfl rfl (.p rfl rfl (.i rfl .nil)))))))) (fun s6 B o hS13 hB13 hE13=>?_)
    unfold D2 at hS13
    refine RW.seq (RW.sreg (rl.run 3 rfl ?_))
    refine rl.gen rfl rfl fun b hb=>?_
    cases b
    ·have h15:=A5 hS13 hb
     refine rl.done (RW.cond_f rfl (RW.exit (D0 ?_)))
     cases h15
     exact ⟨_,(hE13 _ rfl).symm,(Gh.ren0 [1,2,3,4] (.cells rfl rfl .z9 (.cells rfl rfl (.slq rfl rfl (.slq rfl rfl .nil)) (.same rfl (ekS.fref _ _) (.same rfl (A1.fref _ _) .nil)))) rfl (.p rfl rfl (.p rfl rfl .nil)))⟩
    ·have h16:=A4 hS13 hb
     refine rl.done (RW.cond_t rfl (RW.skip (RW.blk (RW.sreg (rl.run 7 rfl (rl.done (RW.sreg (rl.run 5 rfl (rl.done ?_)))))))))
     refine RW.kp [1,2,3,4,8,10,11,12,13] [(1,.j x1),(2,.j x2),(3,.str x3),(4,.ptr 0 0),(8,.ptr 1 0),(10,.ptr 2 0),(11,.j s6.1),(12,.j (w64 (x1 + (w64 (Int.tdiv (w64 (x2 + s6.1)) 32))))),(13,.j (Int.tmod (w64 (x2 + s6.1)) 32))] [some ⟨A6 false x0,0⟩,some ⟨[.nils,.nils],0⟩,some ⟨[.sl 3 0 s6.2.1.length,.sl 4 0 s6.2.2.length],0⟩,some ⟨fl (encS true) s6.2.1,1⟩,some ⟨fl (A2 true) s6.2.2,2⟩] rfl rfl ?_
     refine RW.sreg (rl.run 3 rfl (rl.done (RW.seq (RW.sreg (rl.run 5 rfl ?_)))))
     refine rl.gen rfl rfl fun b hb=>?_
     cases b
     ·have h17:=A5 h16 hb
      refine rl.done (RW.cond_f rfl (RW.skip (RW.sreg (rl.run 2 rfl ?_))))
      obtain ⟨v8,e8,h18⟩:=A3 h17
      refine rl.call rfl rfl rfl (A7.val (r':=.tup [.str v8.1,.bool v8.2]) Ga (Fm e8) (.cons (DFL.agg (.cons (.slq ekS rfl rfl) (.cons (.slq A1 rfl rfl) .nil))) (.cons .int .nil)) (FlL.tup (.cons .refl (.cons .refl .nil))) ?_)
      refine rl.run 5 rfl (rl.done ?_)
      refine RW.kp [1,2,3,4,8,10,11,12,13,14,15,16] [(1,.j x1),(2,.j x2),(3,.str x3),(4,.ptr 0 0),(8,.ptr 1 0),(10,.ptr 2 0),(11,.j s6.1),(12,.j (w64 (x1 + (w64 (Int.tdiv (w64 (x2 + s6.1)) 32))))),(13,.j (Int.tmod (w64 (x2 + s6.1)) 32)),(14,.j (w64 (32 - (Int.tmod (w64 (x2 + s6.1)) 32)))),(15,.str v8.1),(16,.bool v8.2)] [some ⟨A6 false x0,0⟩,some ⟨[.nils,.nils],0⟩,some ⟨[.sl 3 0 s6.2.1.length,.sl 4 0 s6.2.2.length],0⟩,some ⟨fl (encS true) s6.2.1,1⟩,some ⟨fl (A2 true) s6.2.2,2⟩] rfl rfl ?_
      refine RW.seq (RW.seq ?_)
      obtain ⟨y9,ey9,h19⟩:=A3 h18
      refine RW.cutq (σ:=Bool) (fun y9=>[(1,.j x1),(2,.j x2),(3,.str x3),(4,.ptr 0 0),(8,.ptr 1 0),(10,.ptr 2 0),(11,.j s6.1),(12,.j (w64 (x1 + (w64 (Int.tdiv (w64 (x2 + s6.1)) 32))))),(13,.j (Int.tmod (w64 (x2 + s6.1)) 32)),(14,.j (w64 (32 - (Int.tmod (w64 (x2 + s6.1)) 32)))),(15,.str v8.1),(77,.bool y9)]) (fun y9=>[some ⟨A6 false x0,0⟩,some ⟨[.nils,.nils],0⟩,some ⟨[.sl 3 0 s6.2.1.length,.sl 4 0 s6.2.2.length],0⟩,some ⟨fl (encS true) s6.2.1,1⟩,some ⟨fl (A2 true) s6.2.2,2⟩]) (fun y=>y9 = y) (fun _ _ _ _ g h=>RW.gh g h) ?_ ?_
      ·refine RW.reg ?_
       refine rl.run 3 rfl ?_
       cases hb : (!v8.2)
       ·have h20:=A5 ey9 hb
        refine rl.run 2 rfl ?_
        refine rl.gen rfl rfl fun b hb=>?_
        cases b
        ·have h21:=A5 h20 hb
         refine rl.run 1 rfl (rl.done ?_)
         cases h21
         exact ⟨_,rfl,(Gh.ren0 [0,1,2,3,4] (.cells rfl rfl .z4 (.cells rfl rfl .z9 (.cells rfl rfl (.slq rfl rfl (.slq rfl rfl .nil)) (.same rfl (ekS.fref _ _) (.same rfl (A1.fref _ _) .nil))))) rfl (.i rfl (.i rfl (.s rfl (.p rfl rfl (.p rfl rfl (.p rfl rfl (.i rfl (.i rfl (.i rfl (.i rfl (.s rfl (.b rfl .nil)))))))))))))⟩
        ·have h22:=A4 h20 hb
         refine rl.run 1 rfl (rl.done ?_)
         cases h22
         exact ⟨_,rfl,(Gh.ren0 [0,1,2,3,4] (.cells rfl rfl .z4 (.cells rfl rfl .z9 (.cells rfl rfl (.slq rfl rfl (.slq rfl rfl .nil)) (.same rfl (ekS.fref _ _) (.same rfl (A1.fref _ _) .nil))))) rfl (.i rfl (.i rfl (.s rfl (.p rfl rfl (.p rfl rfl (.p rfl rfl (.i rfl (.i rfl (.i rfl (.i rfl (.s rfl (.b rfl .nil)))))))))))))⟩
       ·have h23:=A4 ey9 hb
        refine rl.run 4 rfl (rl.done ?_)
        cases h23
        exact ⟨_,rfl,(Gh.ren0 [0,1,2,3,4] (.cells rfl rfl .z4 (.cells rfl rfl .z9 (.cells rfl rfl (.slq rfl rfl (.slq rfl rfl .nil)) (.same rfl (ekS.fref _ _) (.same rfl (A1.fref _ _) .nil))))) rfl (.i rfl (.i rfl (.s rfl (.p rfl rfl (.p rfl rfl (.p rfl rfl (.i rfl (.i rfl (.i rfl (.i rfl (.s rfl (.b rfl .nil)))))))))))))⟩
      ·intro y hC
       subst hC
       cases hb : y9
       ·have h24:=A5 h19 hb
        refine RW.cond_f rfl (RW.skip ?_)
        refine RW.sdrwF [⟨[.nils,.nils],0⟩] ?_
        refine A0.op rfl rfl (A0.op rfl rfl (A0.op rfl rfl (A0.op rfl rfl ?_)))
        obtain ⟨v10,e10,h25⟩:=A3 h24
        refine A0.op rfl (Jy rfl rfl rfl Ls e10) ?_
        refine A0.op rfl rfl (A0.op rfl rfl (A0.op rfl rfl (A0.op rfl rfl (A0.op rfl rfl ?_))))
        obtain ⟨v11,e11,h26⟩:=A3 h25
        refine A0.op rfl (Jy rfl rfl rfl Mb e11) ?_
        obtain ⟨v12,e12,h27⟩:=A3 h26
        refine A0.op rfl (U3 rfl rfl e12) ?_
        refine A0.op rfl rfl (A0.op rfl rfl (A0.op rfl rfl (A0.op rfl rfl ?_)))
        obtain ⟨v13,e13,h28⟩:=A3 h27
        refine A0.op rfl (Jy rfl rfl rfl Rg e13) ?_
        obtain ⟨v14,e14,h29⟩:=A3 h28
        refine A0.op rfl (U3 rfl rfl e14) ?_
        obtain ⟨v15,e15,h30⟩:=A3 h29
        refine A0.ccall rfl rfl rfl (A7.own (r':=.tup [.agg (B8 6 7 v15.1),.bool v15.2]) (H':=[some ⟨A6 false x0,0⟩,some ⟨[.nils,.nils],0⟩,some ⟨[.sl 3 0 s6.2.1.length,.sl 4 0 s6.2.2.length],0⟩,some ⟨fl (encS true) s6.2.1,1⟩,some ⟨fl (A2 true) s6.2.2,2⟩,some ⟨[.nils,.nils],0⟩,some ⟨fl (encS true) v15.1.Sectors,1⟩,some ⟨fl (A2 true) v15.1.Cache,2⟩]) Fj (Ey e15) (.cons (DFL.agg (.cons (.slq ekS rfl rfl) (.cons (.slq A1 rfl rfl) .nil))) (.cons .int (.cons .str .nil))) (fac (C9.own _) (fac .bool fan)) rfl ?_)
        refine A0.op rfl rfl (A0.op rfl rfl (A0.op rfl rfl ?_))
        refine A0.flt rfl (.cons rfl .nil) ?_
        refine A0.chnB rfl rfl (.here (.rx rfl) (.skip rfl (.skip rfl (.skip rfl (.skip rfl (.skip rfl (.skip rfl (.skip rfl (.skip rfl (.skip rfl (.skip rfl (.skip rfl (.skip rfl (.skip rfl (.skip rfl (.skip rfl (.skip rfl (.skip rfl (.skip rfl (.skip rfl (.skip rfl .nil))))))))))))))))))))) ?_
        refine A0.op rfl rfl (A0.done ?_)
        refine RW.kp [1,2,3,4,8,10,11,14,17,18] [(1,.j x1),(2,.j x2),(3,.str x3),(4,.ptr 0 0),(8,.ptr 1 0),(10,.ptr 2 0),(11,.j s6.1),(14,.j (w64 (32 - (Int.tmod (w64 (x2 + s6.1)) 32)))),(17,.ptr 5 0),(18,.bool v15.2)] [some ⟨A6 false x0,0⟩,some ⟨[.nils,.nils],0⟩,some ⟨[.sl 3 0 s6.2.1.length,.sl 4 0 s6.2.2.length],0⟩,some ⟨fl (encS true) s6.2.1,1⟩,some ⟨fl (A2 true) s6.2.2,2⟩,some ⟨B8 6 7 v15.1,0⟩,some ⟨fl (encS true) v15.1.Sectors,1⟩,some ⟨fl (A2 true) v15.1.Cache,2⟩] rfl rfl ?_
        refine RW.seq (RW.sreg (rl.run 2 rfl (rl.done ?_)))
        cases hb : (!v15.2)
        ·have h31:=A5 h30 hb
         refine RW.cond_f rfl (RW.skip (RW.sreg (rl.run 2 rfl (rl.done (RW.reg (rl.run 4 rfl (rl.done ?_)))))))
         cases h31
         exact hB13 _ rfl _ _ (Gh.ren0 [0,1,2,6,7] (.cells rfl rfl .z4 (.cells rfl rfl .z9 (.cells rfl rfl (.slq rfl rfl (.slq rfl rfl .nil)) (.same rfl (ekS.fref _ _) (.same rfl (A1.fref _ _) .nil))))) rfl (.i rfl (.i rfl (.s rfl (.p rfl rfl (.p rfl rfl (.p rfl rfl (.i rfl .nil))))))))
        ·have h32:=A4 h30 hb
         refine RW.cond_t rfl (RW.sreg (rl.run 1 rfl ?_))
         obtain ⟨v16,e16,h33⟩:=A3 h32
         refine rl.call rfl rfl rfl (A7.own (r':=.agg (B8 8 9 v16)) (H':=[some ⟨A6 false x0,0⟩,some ⟨[.nils,.nils],0⟩,some ⟨[.sl 3 0 s6.2.1.length,.sl 4 0 s6.2.2.length],0⟩,some ⟨fl (encS true) s6.2.1,1⟩,some ⟨fl (A2 true) s6.2.2,2⟩,some ⟨B8 6 7 v15.1,0⟩,some ⟨fl (encS true) v15.1.Sectors,1⟩,some ⟨fl (A2 true) v15.1.Cache,2⟩,some ⟨fl (encS true) v16.Sectors,1⟩,some ⟨fl (A2 true) v16.Cache,2⟩]) K2 (J4 e16) (.cons (DFL.agg (.cons (.lst ekS) (.cons (.lst A1) .nil))) .nil) (C9.own _) rfl ?_)
         refine rl.run 2 rfl (rl.done ?_)
         refine RW.kp [8,9] [(8,.ptr 1 0),(9,.bool false)] [some ⟨A6 false x0,0⟩,some ⟨B8 8 9 v16,0⟩,some ⟨[.sl 3 0 s6.2.1.length,.sl 4 0 s6.2.2.length],0⟩,some ⟨fl (encS true) s6.2.1,1⟩,some ⟨fl (A2 true) s6.2.2,2⟩,some ⟨B8 6 7 v15.1,0⟩,some ⟨fl (encS true) v15.1.Sectors,1⟩,some ⟨fl (A2 true) v15.1.Cache,2⟩,some ⟨fl (encS true) v16.Sectors,1⟩,some ⟨fl (A2 true) v16.Cache,2⟩] rfl rfl ?_
         refine RW.ret ?_
         cases h33
         have h34:=elimL h14 (hE13 _ rfl)
         cases h34
         exact RRet.mk rfl (OutT.tup (.cons (OutL.agg (.cons (OutR.ownq ekS rfl rfl) rfl (.cons (OutR.ownq A1 rfl rfl) rfl .nil))) (.cons .bool .nil))) (by first | decide | simp)
       ·have h35:=A4 h19 hb
        refine RW.cond_t rfl (RW.sreg (rl.run 1 rfl ?_))
        obtain ⟨v17,e17,h36⟩:=A3 h35
        refine rl.call rfl rfl rfl (A7.own (r':=.agg (B8 5 6 v17)) (H':=[some ⟨A6 false x0,0⟩,some ⟨[.nils,.nils],0⟩,some ⟨[.sl 3 0 s6.2.1.length,.sl 4 0 s6.2.2.length],0⟩,some ⟨fl (encS true) s6.2.1,1⟩,some ⟨fl (A2 true) s6.2.2,2⟩,some ⟨fl (encS true) v17.Sectors,1⟩,some ⟨fl (A2 true) v17.Cache,2⟩]) K2 (J4 e17) (.cons (DFL.agg (.cons (.lst ekS) (.cons (.lst A1) .nil))) .nil) (C9.own _) rfl ?_)
        refine rl.run 2 rfl (rl.done ?_)
        refine RW.kp [8,9] [(8,.ptr 1 0),(9,.bool false)] [some ⟨A6 false x0,0⟩,some ⟨B8 5 6 v17,0⟩,some ⟨[.sl 3 0 s6.2.1.length,.sl 4 0 s6.2.2.length],0⟩,some ⟨fl (encS true) s6.2.1,1⟩,some ⟨fl (A2 true) s6.2.2,2⟩,some ⟨fl (encS true) v17.Sectors,1⟩,some ⟨fl (A2 true) v17.Cache,2⟩] rfl rfl ?_
        refine RW.ret ?_
        cases h36
        have h37:=elimL h14 (hE13 _ rfl)
        cases h37
        exact RRet.mk rfl (OutT.tup (.cons (OutL.agg (.cons (OutR.ownq ekS rfl rfl) rfl (.cons (OutR.ownq A1 rfl rfl) rfl .nil))) (.cons .bool .nil))) (by first | decide | simp)
     ·have h38:=A4 h16 hb
      refine rl.done (RW.cond_t rfl (RW.reg (rl.run 5 rfl (rl.done (RW.sreg (rl.run 2 rfl ?_))))))
      obtain ⟨v18,e18,h39⟩:=A3 h38
      refine rl.call rfl rfl rfl (A7.val (r':=.tup [.str v18.1,.bool v18.2]) Ga (Fm e18) (.cons (DFL.agg (.cons (.slq ekS rfl rfl) (.cons (.slq A1 rfl rfl) .nil))) (.cons .int .nil)) (FlL.tup (.cons .refl (.cons .refl .nil))) ?_)
      refine rl.run 5 rfl (rl.done ?_)
      refine RW.kp [1,2,3,4,8,10,11,12,13,14,15,16] [(1,.j x1),(2,.j x2),(3,.str x3),(4,.ptr 0 0),(8,.ptr 1 0),(10,.ptr 2 0),(11,.j s6.1),(12,.j (w64 (x1 + (w64 (Int.tdiv (w64 (x2 + s6.1)) 32))))),(13,.j (Int.tmod (w64 (x2 + s6.1)) 32)),(14,.j (w64 ((x3.length : Int) - s6.1))),(15,.str v18.1),(16,.bool v18.2)] [some ⟨A6 false x0,0⟩,some ⟨[.nils,.nils],0⟩,some ⟨[.sl 3 0 s6.2.1.length,.sl 4 0 s6.2.2.length],0⟩,some ⟨fl (encS true) s6.2.1,1⟩,some ⟨fl (A2 true) s6.2.2,2⟩] rfl rfl ?_
      refine RW.seq (RW.seq ?_)
      obtain ⟨y19,ey19,h40⟩:=A3 h39
      refine RW.cutq (σ:=Bool) (fun y19=>[(1,.j x1),(2,.j x2),(3,.str x3),(4,.ptr 0 0),(8,.ptr 1 0),(10,.ptr 2 0),(11,.j s6.1),(12,.j (w64 (x1 + (w64 (Int.tdiv (w64 (x2 + s6.1)) 32))))),(13,.j (Int.tmod (w64 (x2 + s6.1)) 32)),(14,.j (w64 ((x3.length : Int) - s6.1))),(15,.str v18.1),(77,.bool y19)]) (fun y19=>[some ⟨A6 false x0,0⟩,some ⟨[.nils,.nils],0⟩,some ⟨[.sl 3 0 s6.2.1.length,.sl 4 0 s6.2.2.length],0⟩,some ⟨fl (encS true) s6.2.1,1⟩,some ⟨fl (A2 true) s6.2.2,2⟩]) (fun y=>y19 = y) (fun _ _ _ _ g h=>RW.gh g h) ?_ ?_
      ·refine RW.reg ?_
       refine rl.run 3 rfl ?_
       cases hb : (!v18.2)
       ·have h41:=A5 ey19 hb
        refine rl.run 2 rfl ?_
        refine rl.gen rfl rfl fun b hb=>?_
        cases b
        ·have h42:=A5 h41 hb
         refine rl.run 1 rfl (rl.done ?_)
         cases h42
         exact ⟨_,rfl,(Gh.ren0 [0,1,2,3,4] (.cells rfl rfl .z4 (.cells rfl rfl .z9 (.cells rfl rfl (.slq rfl rfl (.slq rfl rfl .nil)) (.same rfl (ekS.fref _ _) (.same rfl (A1.fref _ _) .nil))))) rfl (.i rfl (.i rfl (.s rfl (.p rfl rfl (.p rfl rfl (.p rfl rfl (.i rfl (.i rfl (.i rfl (.i rfl (.s rfl (.b rfl .nil)))))))))))))⟩
        ·have h43:=A4 h41 hb
         refine rl.run 1 rfl (rl.done ?_)
         cases h43
         exact ⟨_,rfl,(Gh.ren0 [0,1,2,3,4] (.cells rfl rfl .z4 (.cells rfl rfl .z9 (.cells rfl rfl (.slq rfl rfl (.slq rfl rfl .nil)) (.same rfl (ekS.fref _ _) (.same rfl (A1.fref _ _) .nil))))) rfl (.i rfl (.i rfl (.s rfl (.p rfl rfl (.p rfl rfl (.p rfl rfl (.i rfl (.i rfl (.i rfl (.i rfl (.s rfl (.b rfl .nil)))))))))))))⟩
       ·have h44:=A4 ey19 hb
        refine rl.run 4 rfl (rl.done ?_)
        cases h44
        exact ⟨_,rfl,(Gh.ren0 [0,1,2,3,4] (.cells rfl rfl .z4 (.cells rfl rfl .z9 (.cells rfl rfl (.slq rfl rfl (.slq rfl rfl .nil)) (.same rfl (ekS.fref _ _) (.same rfl (A1.fref _ _) .nil))))) rfl (.i rfl (.i rfl (.s rfl (.p rfl rfl (.p rfl rfl (.p rfl rfl (.i rfl (.i rfl (.i rfl (.i rfl (.s rfl (.b rfl .nil)))))))))))))⟩
      ·intro y hC
       subst hC
       cases hb : y19
       ·have h45:=A5 h40 hb
        refine RW.cond_f rfl (RW.skip ?_)
        refine RW.sdrwF [⟨[.nils,.nils],0⟩] ?_
        refine A0.op rfl rfl (A0.op rfl rfl (A0.op rfl rfl (A0.op rfl rfl ?_)))
        obtain ⟨v20,e20,h46⟩:=A3 h45
        refine A0.op rfl (Jy rfl rfl rfl Ls e20) ?_
        refine A0.op rfl rfl (A0.op rfl rfl (A0.op rfl rfl (A0.op rfl rfl (A0.op rfl rfl ?_))))
        obtain ⟨v21,e21,h47⟩:=A3 h46
        refine A0.op rfl (Jy rfl rfl rfl Mb e21) ?_
        obtain ⟨v22,e22,h48⟩:=A3 h47
        refine A0.op rfl (U3 rfl rfl e22) ?_
        refine A0.op rfl rfl (A0.op rfl rfl (A0.op rfl rfl (A0.op rfl rfl ?_)))
        obtain ⟨v23,e23,h49⟩:=A3 h48
        refine A0.op rfl (Jy rfl rfl rfl Rg e23) ?_
        obtain ⟨v24,e24,h50⟩:=A3 h49
        refine A0.op rfl (U3 rfl rfl e24) ?_
        obtain ⟨v25,e25,h51⟩:=A3 h50
        refine A0.ccall rfl rfl rfl (A7.own (r':=.tup [.agg (B8 6 7 v25.1),.bool v25.2]) (H':=[some ⟨A6 false x0,0⟩,some ⟨[.nils,.nils],0⟩,some ⟨[.sl 3 0 s6.2.1.length,.sl 4 0 s6.2.2.length],0⟩,some ⟨fl (encS true) s6.2.1,1⟩,some ⟨fl (A2 true) s6.2.2,2⟩,some ⟨[.nils,.nils],0⟩,some ⟨fl (encS true) v25.1.Sectors,1⟩,some ⟨fl (A2 true) v25.1.Cache,2⟩]) Fj (Ey e25) (.cons (DFL.agg (.cons (.slq ekS rfl rfl) (.cons (.slq A1 rfl rfl) .nil))) (.cons .int (.cons .str .nil))) (fac (C9.own _) (fac .bool fan)) rfl ?_)
        refine A0.op rfl rfl (A0.op rfl rfl (A0.op rfl rfl ?_))
        refine A0.flt rfl (.cons rfl .nil) ?_
        refine A0.chnB rfl rfl (.here (.rx rfl) (.skip rfl (.skip rfl (.skip rfl (.skip rfl (.skip rfl (.skip rfl (.skip rfl (.skip rfl (.skip rfl (.skip rfl (.skip rfl (.skip rfl (.skip rfl (.skip rfl (.skip rfl (.skip rfl (.skip rfl (.skip rfl (.skip rfl (.skip rfl .nil))))))))))))))))))))) ?_
        refine A0.op rfl rfl (A0.done ?_)
        refine RW.kp [1,2,3,4,8,10,11,14,17,18] [(1,.j x1),(2,.j x2),(3,.str x3),(4,.ptr 0 0),(8,.ptr 1 0),(10,.ptr 2 0),(11,.j s6.1),(14,.j (w64 ((x3.length : Int) - s6.1))),(17,.ptr 5 0),(18,.bool v25.2)] [some ⟨A6 false x0,0⟩,some ⟨[.nils,.nils],0⟩,some ⟨[.sl 3 0 s6.2.1.length,.sl 4 0 s6.2.2.length],0⟩,some ⟨fl (encS true) s6.2.1,1⟩,some ⟨fl (A2 true) s6.2.2,2⟩,some ⟨B8 6 7 v25.1,0⟩,some ⟨fl (encS true) v25.1.Sectors,1⟩,some ⟨fl (A2 true) v25.1.Cache,2⟩] rfl rfl ?_
        refine RW.seq (RW.sreg (rl.run 2 rfl (rl.done ?_)))
        cases hb : (!v25.2)
        ·have h52:=A5 h51 hb
         refine RW.cond_f rfl (RW.skip (RW.sreg (rl.run 2 rfl (rl.done (RW.reg (rl.run 4 rfl (rl.done ?_)))))))
         cases h52
         exact hB13 _ rfl _ _ (Gh.ren0 [0,1,2,6,7] (.cells rfl rfl .z4 (.cells rfl rfl .z9 (.cells rfl rfl (.slq rfl rfl (.slq rfl rfl .nil)) (.same rfl (ekS.fref _ _) (.same rfl (A1.fref _ _) .nil))))) rfl (.i rfl (.i rfl (.s rfl (.p rfl rfl (.p rfl rfl (.p rfl rfl (.i rfl .nil))))))))
        ·have h53:=A4 h51 hb
         refine RW.cond_t rfl (RW.sreg (rl.run 1 rfl ?_))
         obtain ⟨v26,e26,h54⟩:=A3 h53
         refine rl.call rfl rfl rfl (A7.own (r':=.agg (B8 8 9 v26)) (H':=[some ⟨A6 false x0,0⟩,some ⟨[.nils,.nils],0⟩,some ⟨[.sl 3 0 s6.2.1.length,.sl 4 0 s6.2.2.length],0⟩,some ⟨fl (encS true) s6.2.1,1⟩,some ⟨fl (A2 true) s6.2.2,2⟩,some ⟨B8 6 7 v25.1,0⟩,some ⟨fl (encS true) v25.1.Sectors,1⟩,some ⟨fl (A2 true) v25.1.Cache,2⟩,some ⟨fl (encS true) v26.Sectors,1⟩,some ⟨fl (A2 true) v26.Cache,2⟩]) K2 (J4 e26) (.cons (DFL.agg (.cons (.lst ekS) (.cons (.lst A1) .nil))) .nil) (C9.own _) rfl ?_)
         refine rl.run 2 rfl (rl.done ?_)
         refine RW.kp [8,9] [(8,.ptr 1 0),(9,.bool false)] [some ⟨A6 false x0,0⟩,some ⟨B8 8 9 v26,0⟩,some ⟨[.sl 3 0 s6.2.1.length,.sl 4 0 s6.2.2.length],0⟩,some ⟨fl (encS true) s6.2.1,1⟩,some ⟨fl (A2 true) s6.2.2,2⟩,some ⟨B8 6 7 v25.1,0⟩,some ⟨fl (encS true) v25.1.Sectors,1⟩,some ⟨fl (A2 true) v25.1.Cache,2⟩,some ⟨fl (encS true) v26.Sectors,1⟩,some ⟨fl (A2 true) v26.Cache,2⟩] rfl rfl ?_
         refine RW.ret ?_
         cases h54
         have h55:=elimL h14 (hE13 _ rfl)
         cases h55
         exact RRet.mk rfl (OutT.tup (.cons (OutL.agg (.cons (OutR.ownq ekS rfl rfl) rfl (.cons (OutR.ownq A1 rfl rfl) rfl .nil))) (.cons .bool .nil))) (by first | decide | simp)
       ·have h56:=A4 h40 hb
        refine RW.cond_t rfl (RW.sreg (rl.run 1 rfl ?_))
        obtain ⟨v27,e27,h57⟩:=A3 h56
        refine rl.call rfl rfl rfl (A7.own (r':=.agg (B8 5 6 v27)) (H':=[some ⟨A6 false x0,0⟩,some ⟨[.nils,.nils],0⟩,some ⟨[.sl 3 0 s6.2.1.length,.sl 4 0 s6.2.2.length],0⟩,some ⟨fl (encS true) s6.2.1,1⟩,some ⟨fl (A2 true) s6.2.2,2⟩,some ⟨fl (encS true) v27.Sectors,1⟩,some ⟨fl (A2 true) v27.Cache,2⟩]) K2 (J4 e27) (.cons (DFL.agg (.cons (.lst ekS) (.cons (.lst A1) .nil))) .nil) (C9.own _) rfl ?_)
        refine rl.run 2 rfl (rl.done ?_)
        refine RW.kp [8,9] [(8,.ptr 1 0),(9,.bool false)] [some ⟨A6 false x0,0⟩,some ⟨B8 5 6 v27,0⟩,some ⟨[.sl 3 0 s6.2.1.length,.sl 4 0 s6.2.2.length],0⟩,some ⟨fl (encS true) s6.2.1,1⟩,some ⟨fl (A2 true) s6.2.2,2⟩,some ⟨fl (encS true) v27.Sectors,1⟩,some ⟨fl (A2 true) v27.Cache,2⟩] rfl rfl ?_
        refine RW.ret ?_
        cases h57
        have h58:=elimL h14 (hE13 _ rfl)
        cases h58
        exact RRet.mk rfl (OutT.tup (.cons (OutL.agg (.cons (OutR.ownq ekS rfl rfl) rfl (.cons (OutR.ownq A1 rfl rfl) rfl .nil))) (.cons .bool .nil))) (by first | decide | simp)
   ·intro y7 hC
    have h14:=elimR h14 hC
    refine RW.sreg (rl.run 3 rfl (rl.done (RW.ret ?_)))
    cases h14
    exact RRet.mk rfl (OutT.tup (.cons (OutL.agg (.cons (OutR.ownq ekS rfl rfl) rfl (.cons (OutR.ownq A1 rfl rfl) rfl .nil))) (.cons .bool .nil))) (by first | decide | simp)
  ·have h59:=A4 h2 hb
   refine RW.cond_t rfl (RW.sreg (rl.run 3 rfl (rl.done (RW.ret ?_))))
   cases h59
   exact RRet.mk rfl (OutT.tup (.cons (OutL.agg (.cons (OutR.ownq ekS rfl rfl) rfl (.cons (OutR.ownq A1 rfl rfl) rfl .nil))) (.cons .bool .nil))) (by first | decide | simp)
theorem T3 {x0 : TDisk} {r : TDisk} (hF : G4 x0 = some r) : B3 Tryz.prog 111 [.agg (A6 false x0)] (.agg (A6 true r)):=by
 refine B3.of_r Wq rfl ?_
 unfold G4 at hF
 refine RW.sreg (rl.run 2 rfl (rl.done (RW.sreg (rl.run 1 rfl ?_))))
 obtain ⟨v1,e1,h1⟩:=A3 hF
 refine rl.call rfl rfl rfl (A7.own (r':=.agg (B8 2 3 v1)) (H':=[some ⟨A6 false x0,0⟩,some ⟨[.nils,.nils],0⟩,some ⟨fl (encS true) v1.Sectors,1⟩,some ⟨fl (A2 true) v1.Cache,2⟩]) K2 (J4 e1) (.cons (DFL.agg (.cons (.lst ekS) (.cons (.lst A1) .nil))) .nil) (C9.own _) rfl ?_)
 refine rl.run 2 rfl (rl.done (RW.seq (RW.sreg (rl.run 1 rfl ?_))))
 obtain ⟨v2,e2,h2⟩:=A3 h1
 refine rl.call rfl rfl rfl (A7.val (r':=.bool v2) Dk (Cq e2) (.cons (DFL.agg (.cons (.lst ekS) (.cons (.lst A1) .nil))) .nil) .refl ?_)
 cases hb : v2
 ·have h3:=A5 h2 hb
  refine rl.run 1 rfl (rl.done (RW.cond_t rfl (RW.sreg (rl.run 2 rfl (rl.done (RW.ret ?_))))))
  cases h3
  exact RRet.mk rfl (OutL.agg (.cons (OutR.ownq ekS rfl rfl) rfl (.cons (OutR.ownq A1 rfl rfl) rfl .nil))) (by first | decide | simp)
 ·have h4:=A4 h2 hb
  refine rl.run 1 rfl (rl.done (RW.cond_f rfl (RW.skip (RW.seq (RW.sreg (rl.run 1 rfl (rl.done ?_)))))))
  obtain ⟨y9,ey9,h6⟩:=A3 h4
  refine RW.cutq (σ:=(List (List UInt8))) (fun y4=>[(2,.ptr 0 0),(3,.ptr 1 0)]) (fun y4=>[some ⟨[.nils,.nils],0⟩,some ⟨[.sl 2 0 y4.length,.sl 3 0 v1.Cache.length],0⟩,some ⟨fl (encS true) y4,1⟩,some ⟨fl (A2 true) v1.Cache,2⟩]) (fun y=>y9 = y) (fun _ _ _ _ g h=>RW.gh g h) ?_ ?_
  ·refine RW.blk ?_
   refine RW.iter (σ:=Int × (List (List UInt8))) ey9 (fun s3=>[(1,.ptr 0 0),(2,.ptr 1 0),(3,.ptr 2 0),(4,.j s3.1)]) (fun s3=>[some ⟨A6 false x0,0⟩,some ⟨[.nils,.nils],0⟩,some ⟨[.sl 3 0 s3.2.length,.sl 4 0 v1.Cache.length],0⟩,some ⟨fl (encS true) s3.2,1⟩,some ⟨fl (A2 true) v1.Cache,2⟩]) (Gh.ren0 [0,1,4,2,3] (.cells rfl rfl .z4 (.cells rfl rfl .z9 (.cells rfl rfl (.slq rfl rfl (.slq rfl rfl .nil)) (.same rfl (ekS.fref _ _) (.same rfl (A1.fref _ _) .nil))))) rfl (.p rfl rfl (.p rfl rfl (.p rfl rfl (.i rfl .nil))))) (fun s3 B o hS5 hB5 hE5=>?_)
   unfold Y8 at hS5
   refine RW.seq (RW.sreg (rl.run 4 rfl ?_))
   refine rl.gen rfl rfl fun b hb=>?_
   cases b
   ·have h7:=A5 hS5 hb
    refine rl.done (RW.cond_f rfl (RW.exit (D0 ?_)))
    cases h7
    exact ⟨_,(hE5 _ rfl).symm,(Gh.ren0 [1,2,3,4] (.cells rfl rfl .z9 (.cells rfl rfl (.slq rfl rfl (.slq rfl rfl .nil)) (.same rfl (ekS.fref _ _) (.same rfl (A1.fref _ _) .nil)))) rfl (.p rfl rfl (.p rfl rfl .nil)))⟩
   ·have h8:=A4 hS5 hb
    refine rl.done (RW.cond_t rfl (RW.skip (RW.seq (RW.blk (RW.drw (A0.op rfl rfl (A0.op rfl rfl (A0.op rfl rfl (A0.op rfl rfl (A0.op rfl rfl ?_))))))))))
    obtain ⟨v5,e5,h9⟩:=A3 h8
    refine A0.op rfl (C1 (enc:=A2) (o:=false) rfl rfl rfl e5) ?_
    refine A0.op rfl rfl ?_
    refine A0.op rfl (G5 (off':=0) A1 rfl e5 rfl rfl rfl) ?_
    refine A0.op rfl rfl (A0.op rfl rfl (A0.op rfl rfl ?_))
    obtain ⟨v6,e6,h10⟩:=A3 h9
    refine A0.op rfl (C1 (enc:=A2) (o:=false) rfl rfl rfl e6) ?_
    refine A0.op rfl rfl ?_
    refine A0.op rfl (G5 (off':=1) A1 rfl e6 rfl rfl rfl) ?_
    obtain ⟨v7,e7,h11⟩:=A3 h10
    refine A0.op rfl (Eo rfl rfl rfl rfl e7) ?_
    obtain ⟨v8,e8,h12⟩:=A3 h11
    refine A0.chn rfl (A0w (off':=0) (o:=true) (e':=v6.Text) ekS e7 rfl rfl rfl rfl rfl rfl rfl rfl rfl e8) ?_
    refine A0.done (RW.reg (rl.run 3 rfl (rl.done ?_)))
    cases h12
    exact hB5 _ rfl _ _ (Gh.ren0 [0,1,2,3,4] (.cells rfl rfl .z4 (.cells rfl rfl .z9 (.cells rfl rfl (.slq rfl (Ao e8) (.slq rfl rfl .nil)) (.same rfl (ekS.fref _ _) (.same rfl (A1.fref _ _) .nil))))) rfl (.p rfl rfl (.p rfl rfl (.p rfl rfl (.i rfl .nil)))))
  ·intro y4 hC
   subst hC
   refine RW.sreg (rl.run 3 rfl (rl.done (RW.sreg (rl.run 2 rfl (rl.done (RW.ret ?_))))))
   cases h6
   exact RRet.mk rfl (OutL.agg (.cons (OutR.ownq ekS rfl rfl) rfl (.cons (OutR.nil (enc:=A2)) rfl .nil))) (by first | decide | simp)
set_option maxHeartbeats 2000000 in
theorem Wr {x0 : TCheck} {r : Bool} (hF : Aw x0 = some r) : B3 Tryz.prog 45 [.agg (G6 false x0)] (.bool r):=by
 refine B3.of_r A2a rfl ?_
 unfold Aw at hF
 refine RW.sreg (rl.run 2 rfl (rl.done (RW.seq (RW.seq ?_))))
 obtain ⟨y1,ey1,h1⟩:=A3 hF
 refine RW.cutq (σ:=Bool) (fun y1=>[(1,.ptr 0 0),(34,.bool y1)]) (fun y1=>[some ⟨G6 false x0,0⟩]) (fun y=>y1 = y) (fun _ _ _ _ g h=>RW.gh g h) ?_ ?_
 ·refine RW.reg ?_
  refine rl.run 2 rfl ?_
  obtain ⟨v2,e2,h2⟩:=A3 ey1
  refine rl.call rfl rfl rfl (A7.val (r':=.bool v2) C2 (C0 e2) (.cons .int (.cons .int (.cons .int .nil))) .refl ?_)
  cases hb : v2
  ·have h3:=A5 h2 hb
   refine rl.run 26 rfl (rl.done ?_)
   cases h3
   exact ⟨_,rfl,(Gh.ren0 [0] (.cells rfl rfl .z11 .nil) rfl (.p rfl rfl (.b rfl .nil)))⟩
  ·have h4:=A4 h2 hb
   refine rl.run 4 rfl ?_
   obtain ⟨v3,e3,h5⟩:=A3 h4
   refine rl.call rfl rfl rfl (A7.val (r':=.bool v3) C2 (C0 e3) (.cons .int (.cons .int (.cons .int .nil))) .refl ?_)
   cases hb : v3
   ·have h6:=A5 h5 hb
    refine rl.run 21 rfl (rl.done ?_)
    cases h6
    exact ⟨_,rfl,(Gh.ren0 [0] (.cells rfl rfl .z11 .nil) rfl (.p rfl rfl (.b rfl .nil)))⟩
   ·have h7:=A4 h5 hb
    refine rl.run 5 rfl ?_
    obtain ⟨v4,e4,h8⟩:=A3 h7
    refine rl.call rfl rfl rfl (A7.val (r':=.bool v4) C2 (C0 e4) (.cons .int (.cons .int (.cons .int .nil))) .refl ?_)
    cases hb : v4
    ·have h9:=A5 h8 hb
     refine rl.run 15 rfl (rl.done ?_)
     cases h9
     exact ⟨_,rfl,(Gh.ren0 [0] (.cells rfl rfl .z11 .nil) rfl (.p rfl rfl (.b rfl .nil)))⟩
    ·have h10:=A4 h8 hb
     refine rl.run 5 rfl ?_
     obtain ⟨v5,e5,h11⟩:=A3 h10
     refine rl.call rfl rfl rfl (A7.val (r':=.bool v5) C2 (C0 e5) (.cons .int (.cons .int (.cons .int .nil))) .refl ?_)
     cases hb : v5
     ·have h12:=A5 h11 hb
      refine rl.run 9 rfl (rl.done ?_)
      cases h12
      exact ⟨_,rfl,(Gh.ren0 [0] (.cells rfl rfl .z11 .nil) rfl (.p rfl rfl (.b rfl .nil)))⟩
     ·have h13:=A4 h11 hb
      refine rl.run 6 rfl ?_
      obtain ⟨v6,e6,h14⟩:=A3 h13
      refine rl.call rfl rfl rfl (A7.val (r':=.bool v6) C2 (C0 e6) (.cons .int (.cons .int (.cons .int .nil))) .refl ?_)
      cases hb : v6
      ·have h15:=A5 h14 hb
       refine rl.run 2 rfl (rl.done ?_)
       cases h15
       exact ⟨_,rfl,(Gh.ren0 [0] (.cells rfl rfl .z11 .nil) rfl (.p rfl rfl (.b rfl .nil)))⟩
      ·have h16:=A4 h14 hb
       refine rl.run 2 rfl (rl.done ?_)
       cases h16
       exact ⟨_,rfl,(Gh.ren0 [0] (.cells rfl rfl .z11 .nil) rfl (.p rfl rfl (.b rfl .nil)))⟩
 ·intro y hC
  subst hC
  cases hb : y1
  ·have h17:=A5 h1 hb
   refine RW.cond_f rfl (RW.skip (RW.seq (RW.sreg (rl.run 1 rfl (rl.done ?_)))))
   obtain ⟨y18,ey18,h19⟩:=A3 h17
   refine RW.cutq (σ:=Unit) (fun y8=>[]) (fun y8=>[]) (fun y=>y18 = .inr y) (fun _ _ _ _ g h=>RW.gh g h) ?_ ?_
   ·refine RW.blk ?_
    refine RW.iter (σ:=Int) ey18 (fun s7=>[(1,.ptr 0 0),(3,.j s7)]) (fun s7=>[some ⟨G6 false x0,0⟩]) (Gh.ren0 [0] (.cells rfl rfl .z11 .nil) rfl (.p rfl rfl (.i rfl .nil))) (fun s7 B o hS18 hB18 hE18=>?_)
    unfold Y4 at hS18
    refine RW.seq (RW.sreg (rl.run 4 rfl ?_))
    refine rl.gen rfl rfl fun b hb=>?_
    cases b
    ·have h20:=A5 hS18 hb
     refine rl.done (RW.cond_f rfl (RW.exit (D0 ?_)))
     cases h20
     exact ⟨_,(hE18 _ rfl).symm,(Gh.ren0 [] .nil rfl .nil)⟩
    ·have h21:=A4 hS18 hb
     refine rl.done (RW.cond_t rfl (RW.skip (RW.seq (RW.blk (RW.sreg (rl.run 3 rfl ?_))))))
     obtain ⟨v9,e9,h22⟩:=A3 h21
     refine rl.op (C1 (enc:=L6) (o:=false) rfl rfl rfl e9) ?_
     refine rl.op (K5 (off':=0) (vs:=(L6 false v9)) V3 rfl e9 rfl rfl rfl) ?_
     refine rl.run 2 rfl (rl.done (RW.seq (RW.seq ?_)))
     obtain ⟨y10,ey10,h23⟩:=A3 h22
     refine RW.cutq (σ:=Bool) (fun y10=>[(1,.ptr 0 0),(3,.j s7),(4,.ptr 1 0),(75,.bool y10)]) (fun y10=>[some ⟨G6 false x0,0⟩,some ⟨L6 false v9,0⟩]) (fun y=>y10 = y) (fun _ _ _ _ g h=>RW.gh g h) ?_ ?_
     ·refine RW.drw ?_
      refine A0.op rfl rfl (A0.op rfl rfl ?_)
      obtain ⟨v11,e11,h24⟩:=A3 ey10
      refine A0.call rfl rfl rfl (A7.val (r':=.bool v11) C2 (C0 e11) (.cons .int (.cons .int (.cons .int .nil))) .refl ⟨rfl,?_⟩)
      cases hb : v11
      ·have h25:=A5 h24 hb
       refine A0.op rfl rfl (A0.op rfl rfl (A0.off rfl (A0.off rfl (A0.off rfl (A0.off rfl (A0.off rfl (A0.off rfl (A0.off rfl (A0.op rfl rfl (A0.op rfl rfl (A0.off rfl ?_)))))))))))
       refine A0.off rfl (A0.off rfl (A0.off rfl (A0.off rfl (A0.off rfl (A0.off rfl (A0.off rfl (A0.off rfl (A0.off rfl (A0.off rfl (A0.off rfl (A0.off rfl ?_)))))))))))
       refine A0.off rfl (A0.op rfl rfl (A0.done ?_))
       cases h25
       exact ⟨_,rfl,(Gh.ren0 [0,1] (.cells rfl rfl .z11 (.cells rfl rfl .z12 .nil)) rfl (.p rfl rfl (.i rfl (.p rfl rfl (.b rfl .nil)))))⟩
      ·have h26:=A4 h24 hb
       refine A0.op rfl rfl (A0.op rfl rfl (A0.op rfl rfl (A0.op rfl rfl (A0.op rfl rfl (A0.op rfl rfl (A0.op rfl rfl ?_))))))
       obtain ⟨v12,e12,h27⟩:=A3 h26
       refine A0.call rfl rfl rfl (A7.val (r':=.bool v12) C2 (C0 e12) (.cons .int (.cons .int (.cons .int .nil))) .refl ⟨rfl,?_⟩)
       cases hb : v12
       ·have h28:=A5 h27 hb
        refine A0.op rfl rfl (A0.op rfl rfl (A0.op rfl rfl (A0.off rfl (A0.off rfl (A0.off rfl (A0.off rfl (A0.off rfl (A0.off rfl (A0.off rfl (A0.off rfl (A0.off rfl ?_)))))))))))
        refine A0.off rfl (A0.off rfl (A0.off rfl (A0.off rfl (A0.off rfl (A0.op rfl rfl (A0.done ?_))))))
        cases h28
        exact ⟨_,rfl,(Gh.ren0 [0,1] (.cells rfl rfl .z11 (.cells rfl rfl .z12 .nil)) rfl (.p rfl rfl (.i rfl (.p rfl rfl (.b rfl .nil)))))⟩
       ·have h29:=A4 h27 hb
        refine A0.op rfl rfl (A0.op rfl rfl (A0.op rfl rfl (A0.op rfl rfl ?_)))
        refine A0.gen rfl rfl fun b hb=>?_
        cases b
        ·have h30:=A5 h29 hb
         refine A0.op rfl rfl (A0.off rfl (A0.off rfl (A0.off rfl (A0.off rfl (A0.off rfl (A0.off rfl (A0.off rfl (A0.off rfl (A0.off rfl (A0.off rfl (A0.op rfl rfl ?_)))))))))))
         refine A0.op rfl rfl (A0.done ?_)
         cases h30
         exact ⟨_,rfl,(Gh.ren0 [0,1] (.cells rfl rfl .z11 (.cells rfl rfl .z12 .nil)) rfl (.p rfl rfl (.i rfl (.p rfl rfl (.b rfl .nil)))))⟩
        ·have h31:=A4 h29 hb
         refine A0.op rfl rfl (A0.op rfl rfl (A0.op rfl rfl (A0.op rfl rfl (A0.op rfl rfl ?_))))
         obtain ⟨v13,e13,h32⟩:=A3 h31
         refine A0.op rfl (C1 (enc:=L6) (o:=false) rfl rfl rfl e13) ?_
         refine A0.op rfl rfl ?_
         refine A0.op rfl (G5 (off':=1) V3 rfl e13 rfl rfl rfl) ?_
         refine A0.op rfl rfl (A0.op rfl rfl ?_)
         refine A0.gen rfl rfl fun b hb=>?_
         cases b
         ·have h33:=A5 h32 hb
          refine A0.op rfl rfl (A0.op rfl rfl (A0.done ?_))
          cases h33
          exact ⟨_,rfl,(Gh.ren0 [0,1] (.cells rfl rfl .z11 (.cells rfl rfl .z12 .nil)) rfl (.p rfl rfl (.i rfl (.p rfl rfl (.b rfl .nil)))))⟩
         ·have h34:=A4 h32 hb
          refine A0.op rfl rfl (A0.op rfl rfl (A0.done ?_))
          cases h34
          exact ⟨_,rfl,(Gh.ren0 [0,1] (.cells rfl rfl .z11 (.cells rfl rfl .z12 .nil)) rfl (.p rfl rfl (.i rfl (.p rfl rfl (.b rfl .nil)))))⟩
     ·intro y hC
      subst hC
      cases hb : y10
      ·have h35:=A5 h23 hb
       refine RW.cond_f rfl (RW.skip (RW.sreg (rl.run 1 rfl (rl.done ?_))))
       obtain ⟨y17,ey17,h37⟩:=A3 h35
       refine RW.cutq (σ:=Unit) (fun y15=>[(1,.ptr 0 0),(3,.j s7)]) (fun y15=>[some ⟨G6 false x0,0⟩]) (fun y=>y17 = .inr y) (fun _ _ _ _ g h=>RW.gh g h) ?_ ?_
       ·refine RW.blk ?_
        refine RW.iter (σ:=Int) ey17 (fun s14=>[(1,.ptr 0 0),(3,.j s7),(4,.ptr 1 0),(5,.j s14)]) (fun s14=>[some ⟨G6 false x0,0⟩,some ⟨L6 false v9,0⟩]) (Gh.ren0 [0,1] (.cells rfl rfl .z11 (.cells rfl rfl .z12 .nil)) rfl (.p rfl rfl (.i rfl (.p rfl rfl (.i rfl .nil))))) (fun s14 B o hS36 hB36 hE36=>?_)
        unfold W1 at hS36
        refine RW.seq (RW.sreg (rl.run 2 rfl ?_))
        refine rl.gen rfl rfl fun b hb=>?_
        cases b
        ·have h38:=A5 hS36 hb
         refine rl.done (RW.cond_f rfl (RW.exit (D0 ?_)))
         cases h38
         exact ⟨_,(hE36 _ rfl).symm,(Gh.ren0 [0] (.cells rfl rfl .z11 .nil) rfl (.p rfl rfl (.i rfl .nil)))⟩
        ·have h39:=A4 hS36 hb
         refine rl.done (RW.cond_t rfl (RW.skip (RW.seq (RW.blk (RW.sdrw (A0.op rfl rfl (A0.op rfl rfl (A0.op rfl rfl ?_))))))))
         obtain ⟨v16,e16,h40⟩:=A3 h39
         refine A0.op rfl (C1 (enc:=L6) (o:=false) rfl rfl rfl e16) ?_
         refine A0.op rfl rfl ?_
         refine A0.op rfl (G5 (off':=0) V3 rfl e16 rfl rfl rfl) ?_
         refine A0.op rfl rfl (A0.op rfl rfl ?_)
         refine A0.gen rfl rfl fun b hb=>?_
         cases b
         ·have h41:=A5 h40 hb
          refine A0.done ?_
          refine RW.kp [1,3,4,5,89] [(1,.ptr 0 0),(3,.j s7),(4,.ptr 1 0),(5,.j s14),(89,.bool false)] [some ⟨G6 false x0,0⟩,some ⟨L6 false v9,0⟩] rfl rfl ?_
          refine RW.cond_f rfl (RW.skip (RW.reg (rl.run 3 rfl (rl.done ?_))))
          cases h41
          exact hB36 _ rfl _ _ (Gh.ren0 [0,1] (.cells rfl rfl .z11 (.cells rfl rfl .z12 .nil)) rfl (.p rfl rfl (.i rfl (.p rfl rfl (.i rfl .nil)))))
         ·have h42:=A4 h40 hb
          refine A0.done ?_
          refine RW.kp [1,3,4,5,89] [(1,.ptr 0 0),(3,.j s7),(4,.ptr 1 0),(5,.j s14),(89,.bool true)] [some ⟨G6 false x0,0⟩,some ⟨L6 false v9,0⟩] rfl rfl ?_
          refine RW.cond_t rfl (RW.sreg (rl.run 1 rfl (rl.done (RW.ret ?_))))
          cases h42
          have h43:=elimL h37 (hE36 _ rfl)
          cases h43
          have h44:=elimL h19 (hE18 _ rfl)
          cases h44
          exact RRet.mk rfl .bool (by first | decide | simp)
       ·intro y15 hC
        have h37:=elimR h37 hC
        refine RW.reg (rl.run 3 rfl (rl.done ?_))
        cases h37
        exact hB18 _ rfl _ _ (Gh.ren0 [0] (.cells rfl rfl .z11 .nil) rfl (.p rfl rfl (.i rfl .nil)))
      ·have h45:=A4 h23 hb
       refine RW.cond_t rfl (RW.sreg (rl.run 1 rfl (rl.done (RW.ret ?_))))
       cases h45
       have h46:=elimL h19 (hE18 _ rfl)
       cases h46
       exact RRet.mk rfl .bool (by first | decide | simp)
   ·intro y8 hC
    have h19:=elimR h19 hC
    refine RW.sreg (rl.run 1 rfl (rl.done (RW.ret ?_)))
    cases h19
    exact RRet.mk rfl .bool (by first | decide | simp)
  ·have h47:=A4 h1 hb
   refine RW.cond_t rfl (RW.sreg (rl.run 1 rfl (rl.done (RW.ret ?_))))
   cases h47
   exact RRet.mk rfl .bool (by first | decide | simp)
theorem C7 {x0 : Int} {r : List UInt8} (hF : D4 x0 = some r) : B3 Tryz.prog 97 [.j x0] (.str r):=by
 refine B3.of_r A3a rfl ?_
 unfold D4 at hF
 refine RW.sreg (rl.run 1 rfl (rl.done (RW.sreg (rl.run 2 rfl (rl.done (RW.seq ?_))))))
 refine RW.gh (Gh.nil_t 3 1 rfl) ?_
 obtain ⟨y4,ey4,h2⟩:=A3 hF
 refine RW.cutq (σ:=Int × (List Int)) (fun y2=>[(0,.j y2.1),(3,.sl 0 0 y2.2.length)]) (fun y2=>[some ⟨fl (encB true) y2.2,1⟩]) (fun y=>y4 = y) (fun _ _ _ _ g h=>RW.gh g h) ?_ ?_
 ·refine RW.blk ?_
  refine RW.iter (σ:=Int × (List Int)) ey4 (fun s1=>[(0,.j s1.1),(3,.sl 0 0 s1.2.length)]) (fun s1=>[some ⟨fl (encB true) s1.2,1⟩]) (Gh.ren0 [0] (.same rfl (ekB.fref _ _) .nil) rfl (.i rfl (.cons rfl (.slq rfl rfl) .nil))) (fun s1 B o hS1 hB1 hE1=>?_)
  unfold U2 at hS1
  refine RW.seq (RW.sreg (rl.run 1 rfl ?_))
  refine rl.gen rfl rfl fun b hb=>?_
  cases b
  ·have h3:=A5 hS1 hb
   refine rl.done (RW.cond_f rfl (RW.exit (D0 ?_)))
   cases h3
   exact ⟨_,(hE1 _ rfl).symm,(Gh.ren0 [0] (.same rfl (ekB.fref _ _) .nil) rfl (.i rfl (.cons rfl (.slq rfl rfl) .nil)))⟩
  ·have h4:=A4 hS1 hb
   refine rl.done (RW.cond_t rfl (RW.skip (RW.blk (RW.sreg (rl.run 6 rfl ?_)))))
   obtain ⟨v3,e3,h5⟩:=A3 h4
   refine rl.op (Z4 rfl rfl (V5 (l:=s1.2) (m:=[IntKind.u8.wrap (w64 ((Int.tmod s1.1 128) + 128))]) (o:=true) ekB rfl rfl (P8 (m:=[IntKind.u8.wrap (w64 ((Int.tmod s1.1 128) + 128))]) (o:=true) fkB rfl rfl) rfl (fkB.fst _ _) e3)) ?_
   refine rl.run 1 rfl (rl.done (RW.reg (rl.run 3 rfl (rl.done ?_))))
   cases h5
   exact hB1 _ rfl _ _ (Gh.ren0 [2] (.same rfl (ekB.fref _ _) .nil) rfl (.i rfl (.cons rfl (.slq rfl rfl) .nil)))
 ·intro y2 hC
  subst hC
  refine RW.sreg (rl.run 4 rfl ?_)
  obtain ⟨v5,e5,h6⟩:=A3 h2
  refine rl.op (Z4 rfl rfl (V5 (l:=y4.2) (m:=[IntKind.u8.wrap y4.1]) (o:=true) ekB rfl rfl (P8 (m:=[IntKind.u8.wrap y4.1]) (o:=true) fkB rfl rfl) rfl (fkB.fst _ _) e5)) ?_
  refine rl.op (Ja (o:=true) (l:=v5) rfl rfl) ?_
  refine rl.run 1 rfl (rl.done (RW.ret ?_))
  cases h6
  exact RRet.mk rfl .str (by first | decide | simp)
theorem Wc {x0 : Int} {r : List UInt8} (hF : Dx x0 = some r) : B3 Tryz.prog 153 [.int .u32 x0] (.str r):=by
 refine B3.of_r A0k rfl ?_
 unfold Dx at hF
 refine RW.sreg (rl.run 1 rfl (rl.done (RW.sreg (rl.run 12 rfl ?_))))
 refine rl.op (Ja (o:=true) (l:=[IntKind.u8.wrap (shrv .u32 x0 24),IntKind.u8.wrap (shrv .u32 x0 16),IntKind.u8.wrap (shrv .u32 x0 8),IntKind.u8.wrap x0]) rfl rfl) ?_
 refine rl.run 1 rfl (rl.done ?_)
 refine RW.kp [2] [(2,.str ([IntKind.u8.wrap (shrv .u32 x0 24),IntKind.u8.wrap (shrv .u32 x0 16),IntKind.u8.wrap (shrv .u32 x0 8),IntKind.u8.wrap x0].map ofI))] [some ⟨fl (encB true) [IntKind.u8.wrap (shrv .u32 x0 24),IntKind.u8.wrap (shrv .u32 x0 16),IntKind.u8.wrap (shrv .u32 x0 8),IntKind.u8.wrap x0],1⟩] rfl rfl ?_
 refine RW.ret ?_
 cases hF
 exact RRet.mk rfl .str (by first | decide | simp)
theorem Vi {x0 : Int} {x1 : List UInt8} {r : Int} (hF : Bb x0 x1 = some r) : B3 Tryz.prog 178 [.int .u32 x0,.str x1] (.int .u32 r):=by
 refine B3.of_r A1o rfl ?_
 unfold Bb at hF
 refine RW.sreg (rl.run 1 rfl (rl.done (RW.seq (RW.sreg (rl.run 1 rfl (rl.done ?_))))))
 obtain ⟨y7,ey7,h2⟩:=A3 hF
 refine RW.cutq (σ:=Int) (fun y2=>[(0,.int .u32 y2)]) (fun y2=>[]) (fun y=>y7 = y) (fun _ _ _ _ g h=>RW.gh g h) ?_ ?_
 ·refine RW.blk ?_
  refine RW.iter (σ:=Int × Int) ey7 (fun s1=>[(0,.int .u32 s1.1),(1,.str x1),(5,.j s1.2)]) (fun s1=>[]) (Gh.ren0 [] .nil rfl (.i rfl (.s rfl (.i rfl .nil)))) (fun s1 B o hS1 hB1 hE1=>?_)
  unfold W6 at hS1
  refine RW.seq (RW.sreg (rl.run 3 rfl ?_))
  refine rl.gen rfl rfl fun b hb=>?_
  cases b
  ·have h3:=A5 hS1 hb
   refine rl.done (RW.cond_f rfl (RW.exit (D0 ?_)))
   cases h3
   exact ⟨_,(hE1 _ rfl).symm,(Gh.ren0 [] .nil rfl (.i rfl .nil))⟩
  ·have h4:=A4 hS1 hb
   refine rl.done (RW.cond_t rfl (RW.skip (RW.seq (RW.blk (RW.sreg (rl.run 3 rfl ?_))))))
   obtain ⟨v3,e3,h5⟩:=A3 h4
   refine rl.op (Xa rfl rfl e3) ?_
   refine rl.run 3 rfl (rl.done (RW.sreg (rl.run 1 rfl (rl.done ?_))))
   obtain ⟨y6,ey6,h7⟩:=A3 h5
   refine RW.cutq (σ:=Int) (fun y5=>[(0,.int .u32 y5),(1,.str x1),(5,.j s1.2)]) (fun y5=>[]) (fun y=>y6 = y) (fun _ _ _ _ g h=>RW.gh g h) ?_ ?_
   ·refine RW.blk ?_
    refine RW.iter (σ:=Int × Int) ey6 (fun s4=>[(0,.int .u32 s4.1),(1,.str x1),(5,.j s1.2),(6,.j s4.2)]) (fun s4=>[]) (Gh.ren0 [] .nil rfl (.i rfl (.s rfl (.i rfl (.i rfl .nil))))) (fun s4 B o hS6 hB6 hE6=>?_)
    unfold V8 at hS6
    refine RW.seq (RW.sreg (rl.run 1 rfl ?_))
    refine rl.gen rfl rfl fun b hb=>?_
    cases b
    ·have h8:=A5 hS6 hb
     refine rl.done (RW.cond_f rfl (RW.exit (D0 ?_)))
     cases h8
     exact ⟨_,(hE6 _ rfl).symm,(Gh.ren0 [] .nil rfl (.i rfl (.s rfl (.i rfl .nil))))⟩
    ·have h9:=A4 hS6 hb
     refine rl.done (RW.cond_t rfl (RW.skip (RW.seq (RW.blk (RW.sreg (rl.run 2 rfl ?_))))))
     refine rl.gen rfl rfl fun b hb=>?_
     cases b
     ·have h10:=A5 h9 hb
      refine rl.run 1 rfl (rl.done (RW.sreg (rl.run 3 rfl (rl.done (RW.sreg (rl.run 1 rfl (rl.done (RW.cond_f rfl (RW.skip (RW.reg (rl.run 3 rfl ?_)))))))))))
      refine rl.done ?_
      cases h10
      exact hB6 _ rfl _ _ (Gh.ren0 [] .nil rfl (.i rfl (.s rfl (.i rfl (.i rfl .nil)))))
     ·have h11:=A4 h9 hb
      refine rl.run 1 rfl (rl.done (RW.sreg (rl.run 3 rfl (rl.done (RW.sreg (rl.run 1 rfl (rl.done (RW.cond_t rfl (RW.reg (rl.run 3 rfl (rl.done ?_)))))))))))
      refine RW.reg (rl.run 3 rfl (rl.done ?_))
      cases h11
      exact hB6 _ rfl _ _ (Gh.ren0 [] .nil rfl (.i rfl (.s rfl (.i rfl (.i rfl .nil)))))
   ·intro y5 hC
    subst hC
    refine RW.reg (rl.run 3 rfl (rl.done ?_))
    cases h7
    exact hB1 _ rfl _ _ (Gh.ren0 [] .nil rfl (.i rfl (.s rfl (.i rfl .nil))))
 ·intro y2 hC
  subst hC
  refine RW.sreg (rl.run 2 rfl (rl.done (RW.ret ?_)))
  cases h2
  exact RRet.mk rfl .int (by first | decide | simp)
theorem A09 {x0 : List UInt8} {r : Int} (hF : Ds x0 = some r) : B3 Tryz.prog 154 [.str x0] (.int .u32 r):=by
 refine B3.of_r A58 rfl ?_
 unfold Ds at hF
 refine RW.sreg (rl.run 1 rfl (rl.done (RW.sreg (rl.run 1 rfl ?_))))
 obtain ⟨v1,e1,h1⟩:=A3 hF
 refine rl.call rfl rfl rfl (A7.val (r':=.int .u32 v1) Ys (Vi e1) (.cons .int (.cons .str .nil)) .refl ?_)
 refine rl.run 1 rfl (rl.done (RW.ret ?_))
 cases h1
 exact RRet.mk rfl .int (by first | decide | simp)
theorem Jt {x0 : List UInt8} {r : (List UInt8) × Bool} (hF : Z8 x0 = some r) : B3 Tryz.prog 98 [.str x0] (.tup [.str r.1,.bool r.2]):=by
 refine B3.of_r A3e rfl ?_
 unfold Z8 at hF
 refine RW.sreg (rl.run 2 rfl (rl.done (RW.seq (RW.sreg (rl.run 2 rfl ?_)))))
 refine rl.gen rfl rfl fun b hb=>?_
 cases b
 ·have h1:=A5 hF hb
  refine rl.done (RW.cond_f rfl (RW.skip (RW.sreg (rl.run 2 rfl ?_))))
  obtain ⟨v1,e1,h2⟩:=A3 h1
  refine rl.call rfl rfl rfl (A7.val (r':=.int .u32 v1) A3l (A09 e1) (.cons .str .nil) .refl ?_)
  obtain ⟨v2,e2,h3⟩:=A3 h2
  refine rl.call rfl rfl rfl (A7.val (r':=.str v2) Xw (Wc e2) (.cons .int .nil) .refl ?_)
  obtain ⟨v3,e3,h4⟩:=A3 h3
  refine rl.op (U3 rfl rfl e3) ?_
  refine rl.run 2 rfl (rl.done (RW.ret ?_))
  cases h4
  exact RRet.mk rfl (OutT.tup (.cons .str (.cons .bool .nil))) (by first | decide | simp)
 ·have h5:=A4 hF hb
  refine rl.done (RW.cond_t rfl (RW.sreg (rl.run 2 rfl (rl.done (RW.ret ?_)))))
  cases h5
  exact RRet.mk rfl (OutT.tup (.cons .str (.cons .bool .nil))) (by first | decide | simp)
theorem L7 {x0 : List UInt8} {r : List UInt8} (hF : M1 x0 = some r) : B3 Tryz.prog 99 [.str x0] (.str r):=by
 refine B3.of_r Yg rfl ?_
 unfold M1 at hF
 refine RW.sreg (rl.run 1 rfl (rl.done (RW.sreg (rl.run 2 rfl ?_))))
 obtain ⟨v1,e1,h1⟩:=A3 hF
 refine rl.call rfl rfl rfl (A7.val (r':=.str v1) D1 (C7 e1) (.cons .int .nil) .refl ?_)
 refine rl.run 1 rfl ?_
 obtain ⟨v2,e2,h2⟩:=A3 h1
 refine rl.op (U3 rfl rfl e2) ?_
 refine rl.run 1 rfl (rl.done (RW.ret ?_))
 cases h2
 exact RRet.mk rfl .str (by first | decide | simp)
set_option maxHeartbeats 2000000 in
theorem Pn {x0 : TCheck} {r : (List UInt8) × Bool} (hF : W4 x0 = some r) : B3 Tryz.prog 37 [.agg (G6 false x0)] (.tup [.str r.1,.bool r.2]):=by
 refine B3.of_r Wa rfl ?_
 unfold W4 at hF
 refine RW.sreg (rl.run 3 rfl (rl.done (RW.seq (RW.sreg (rl.run 1 rfl ?_)))))
 obtain ⟨v1,e1,h1⟩:=A3 hF
 refine rl.call rfl rfl rfl (A7.val (r':=.bool v1) Yb (Wr e1) (.cons (DFL.agg (.cons .int (.cons .int (.cons .int (.cons .int (.cons (.lst V3) .nil)))))) .nil) .refl ?_)
 cases hb : v1
 ·have h2:=A5 h1 hb
  refine rl.run 1 rfl (rl.done (RW.cond_t rfl (RW.sreg (rl.run 2 rfl (rl.done (RW.ret ?_))))))
  cases h2
  exact RRet.mk rfl (OutT.tup (.cons .str (.cons .bool .nil))) (by first | decide | simp)
 ·have h3:=A4 h1 hb
  refine rl.run 1 rfl (rl.done (RW.cond_f rfl (RW.skip (RW.sdrw (A0.op rfl rfl (A0.op rfl rfl ?_))))))
  obtain ⟨v2,e2,h4⟩:=A3 h3
  refine A0.call rfl rfl rfl (A7.val (r':=.str v2) D1 (C7 e2) (.cons .int .nil) .refl ⟨rfl,?_⟩)
  refine A0.op rfl rfl (A0.op rfl rfl ?_)
  obtain ⟨v3,e3,h5⟩:=A3 h4
  refine A0.call rfl rfl rfl (A7.val (r':=.str v3) D1 (C7 e3) (.cons .int .nil) .refl ⟨rfl,?_⟩)
  obtain ⟨v4,e4,h6⟩:=A3 h5
  refine A0.op rfl (U3 rfl rfl e4) ?_
  refine A0.op rfl rfl (A0.op rfl rfl ?_)
  obtain ⟨v5,e5,h7⟩:=A3 h6
  refine A0.call rfl rfl rfl (A7.val (r':=.str v5) D1 (C7 e5) (.cons .int .nil) .refl ⟨rfl,?_⟩)
  obtain ⟨v6,e6,h8⟩:=A3 h7
  refine A0.op rfl (U3 rfl rfl e6) ?_
  refine A0.op rfl rfl (A0.op rfl rfl ?_)
  obtain ⟨v7,e7,h9⟩:=A3 h8
  refine A0.call rfl rfl rfl (A7.val (r':=.str v7) D1 (C7 e7) (.cons .int .nil) .refl ⟨rfl,?_⟩)
  obtain ⟨v8,e8,h10⟩:=A3 h9
  refine A0.op rfl (U3 rfl rfl e8) ?_
  refine A0.op rfl rfl (A0.op rfl rfl (A0.op rfl rfl ?_))
  obtain ⟨v9,e9,h11⟩:=A3 h10
  refine A0.call rfl rfl rfl (A7.val (r':=.str v9) D1 (C7 e9) (.cons .int .nil) .refl ⟨rfl,?_⟩)
  obtain ⟨v10,e10,h12⟩:=A3 h11
  refine A0.op rfl (U3 rfl rfl e10) ?_
  refine A0.op rfl rfl (A0.done ?_)
  refine RW.kp [1,4] [(1,.ptr 0 0),(4,.str v10)] [some ⟨G6 false x0,0⟩] rfl rfl ?_
  refine RW.seq (RW.sreg (rl.run 1 rfl (rl.done ?_)))
  obtain ⟨y19,ey19,h14⟩:=A3 h12
  refine RW.cutq (σ:=(List UInt8)) (fun y12=>[(4,.str y12)]) (fun y12=>[]) (fun y=>y19 = y) (fun _ _ _ _ g h=>RW.gh g h) ?_ ?_
  ·refine RW.blk ?_
   refine RW.iter (σ:=(List UInt8) × Int) ey19 (fun s11=>[(1,.ptr 0 0),(4,.str s11.1),(5,.j s11.2)]) (fun s11=>[some ⟨G6 false x0,0⟩]) (Gh.ren0 [0] (.cells rfl rfl .z11 .nil) rfl (.p rfl rfl (.s rfl (.i rfl .nil)))) (fun s11 B o hS13 hB13 hE13=>?_)
   unfold R9 at hS13
   refine RW.seq (RW.sreg (rl.run 4 rfl ?_))
   refine rl.gen rfl rfl fun b hb=>?_
   cases b
   ·have h15:=A5 hS13 hb
    refine rl.done (RW.cond_f rfl (RW.exit (D0 ?_)))
    cases h15
    exact ⟨_,(hE13 _ rfl).symm,(Gh.ren0 [] .nil rfl (.s rfl .nil))⟩
   ·have h16:=A4 hS13 hb
    refine rl.done (RW.cond_t rfl (RW.skip (RW.seq (RW.blk (RW.drw (A0.op rfl rfl (A0.op rfl rfl (A0.op rfl rfl (A0.op rfl rfl ?_)))))))))
    obtain ⟨v13,e13,h17⟩:=A3 h16
    refine A0.op rfl (C1 (enc:=L6) (o:=false) rfl rfl rfl e13) ?_
    refine A0.op rfl rfl ?_
    refine A0.op rfl (G5 (off':=0) V3 rfl e13 rfl rfl rfl) ?_
    obtain ⟨v14,e14,h18⟩:=A3 h17
    refine A0.call rfl rfl rfl (A7.val (r':=.str v14) D1 (C7 e14) (.cons .int .nil) .refl ⟨rfl,?_⟩)
    obtain ⟨v15,e15,h19⟩:=A3 h18
    refine A0.op rfl (U3 rfl rfl e15) ?_
    refine A0.op rfl rfl (A0.op rfl rfl (A0.op rfl rfl ?_))
    obtain ⟨v16,e16,h20⟩:=A3 h19
    refine A0.op rfl (C1 (enc:=L6) (o:=false) rfl rfl rfl e16) ?_
    refine A0.op rfl rfl ?_
    refine A0.op rfl (G5 (off':=1) V3 rfl e16 rfl rfl rfl) ?_
    obtain ⟨v17,e17,h21⟩:=A3 h20
    refine A0.call rfl rfl rfl (A7.val (r':=.str v17) D1 (C7 e17) (.cons .int .nil) .refl ⟨rfl,?_⟩)
    obtain ⟨v18,e18,h22⟩:=A3 h21
    refine A0.op rfl (U3 rfl rfl e18) ?_
    refine A0.op rfl rfl (A0.done (RW.reg (rl.run 3 rfl (rl.done ?_))))
    cases h22
    exact hB13 _ rfl _ _ (Gh.ren0 [0] (.cells rfl rfl .z11 .nil) rfl (.p rfl rfl (.s rfl (.i rfl .nil))))
  ·intro y12 hC
   subst hC
   refine RW.sreg (rl.run 1 rfl ?_)
   obtain ⟨v20,e20,h23⟩:=A3 h14
   refine rl.call rfl rfl rfl (A7.val (r':=.tup [.str v20.1,.bool v20.2]) Km (Jt e20) (.cons .str .nil) (FlL.tup (.cons .refl (.cons .refl .nil))) ?_)
   refine rl.run 5 rfl (rl.done (RW.sreg (rl.run 1 rfl ?_)))
   obtain ⟨v21,e21,h24⟩:=A3 h23
   refine rl.call rfl rfl rfl (A7.val (r':=.str v21) M3 (L7 e21) (.cons .str .nil) .refl ?_)
   refine rl.run 1 rfl (rl.done (RW.seq (RW.seq ?_)))
   obtain ⟨y22,ey22,h25⟩:=A3 h24
   refine RW.cutq (σ:=Bool) (fun y22=>[(8,.str v21),(69,.bool y22)]) (fun y22=>[]) (fun y=>y22 = y) (fun _ _ _ _ g h=>RW.gh g h) ?_ ?_
   ·refine RW.reg ?_
    refine rl.run 3 rfl ?_
    cases hb : (!v20.2)
    ·have h26:=A5 ey22 hb
     refine rl.run 2 rfl ?_
     refine rl.gen rfl rfl fun b hb=>?_
     cases b
     ·have h27:=A5 h26 hb
      refine rl.run 1 rfl (rl.done ?_)
      cases h27
      exact ⟨_,rfl,(Gh.ren0 [] .nil rfl (.s rfl (.b rfl .nil)))⟩
     ·have h28:=A4 h26 hb
      refine rl.run 1 rfl (rl.done ?_)
      cases h28
      exact ⟨_,rfl,(Gh.ren0 [] .nil rfl (.s rfl (.b rfl .nil)))⟩
    ·have h29:=A4 ey22 hb
     refine rl.run 4 rfl (rl.done ?_)
     cases h29
     exact ⟨_,rfl,(Gh.ren0 [] .nil rfl (.s rfl (.b rfl .nil)))⟩
   ·intro y hC
    subst hC
    cases hb : y22
    ·have h30:=A5 h25 hb
     refine RW.cond_f rfl (RW.skip (RW.sreg (rl.run 3 rfl (rl.done (RW.ret ?_)))))
     cases h30
     exact RRet.mk rfl (OutT.tup (.cons .str (.cons .bool .nil))) (by first | decide | simp)
    ·have h31:=A4 h25 hb
     refine RW.cond_t rfl (RW.sreg (rl.run 2 rfl (rl.done (RW.ret ?_))))
     cases h31
     exact RRet.mk rfl (OutT.tup (.cons .str (.cons .bool .nil))) (by first | decide | simp)
theorem Mj {x0 : TDisk} {x1 : TCheck} {r : TDisk × Bool} (hF : P5 x0 x1 = some r) : B3 Tryz.prog 42 [.agg (A6 false x0),.agg (G6 false x1)] (.tup [.agg (A6 true r.1),.bool r.2]):=by
 refine B3.of_r Tk rfl ?_
 unfold P5 at hF
 refine RW.sreg (rl.run 4 rfl (rl.done (RW.sreg (rl.run 1 rfl ?_))))
 obtain ⟨v1,e1,h1⟩:=A3 hF
 refine rl.call rfl rfl rfl (A7.val (r':=.tup [.str v1.1,.bool v1.2]) Tg (Pn e1) (.cons (DFL.agg (.cons .int (.cons .int (.cons .int (.cons .int (.cons (.lst V3) .nil)))))) .nil) (FlL.tup (.cons .refl (.cons .refl .nil))) ?_)
 refine rl.run 5 rfl (rl.done (RW.seq (RW.seq ?_)))
 obtain ⟨y2,ey2,h2⟩:=A3 h1
 refine RW.cutq (σ:=Bool) (fun y2=>[(2,.ptr 0 0),(3,.ptr 1 0),(4,.ptr 2 0),(6,.str v1.1),(21,.bool y2)]) (fun y2=>[some ⟨A6 false x0,0⟩,some ⟨G6 false x1,0⟩,some ⟨[.nils,.nils],0⟩]) (fun y=>y2 = y) (fun _ _ _ _ g h=>RW.gh g h) ?_ ?_
 ·refine RW.reg ?_
  refine rl.run 3 rfl ?_
  cases hb : (!v1.2)
  ·have h3:=A5 ey2 hb
   refine rl.run 1 rfl ?_
   obtain ⟨v3,e3,h4⟩:=A3 h3
   refine rl.call rfl rfl rfl (A7.val (r':=.bool v3) Dk (Cq e3) (.cons (DFL.agg (.cons (.lst ekS) (.cons (.lst A1) .nil))) .nil) .refl ?_)
   cases hb : v3
   ·have h5:=A5 h4 hb
    refine rl.run 2 rfl (rl.done ?_)
    cases h5
    exact ⟨_,rfl,(Gh.ren0 [0,1,2] (.cells rfl rfl .z4 (.cells rfl rfl .z11 (.cells rfl rfl .z9 .nil))) rfl (.p rfl rfl (.p rfl rfl (.p rfl rfl (.s rfl (.b rfl .nil))))))⟩
   ·have h6:=A4 h4 hb
    refine rl.run 2 rfl (rl.done ?_)
    cases h6
    exact ⟨_,rfl,(Gh.ren0 [0,1,2] (.cells rfl rfl .z4 (.cells rfl rfl .z11 (.cells rfl rfl .z9 .nil))) rfl (.p rfl rfl (.p rfl rfl (.p rfl rfl (.s rfl (.b rfl .nil))))))⟩
  ·have h7:=A4 ey2 hb
   refine rl.run 4 rfl (rl.done ?_)
   cases h7
   exact ⟨_,rfl,(Gh.ren0 [0,1,2] (.cells rfl rfl .z4 (.cells rfl rfl .z11 (.cells rfl rfl .z9 .nil))) rfl (.p rfl rfl (.p rfl rfl (.p rfl rfl (.s rfl (.b rfl .nil))))))⟩
 ·intro y hC
  subst hC
  cases hb : y2
  ·have h8:=A5 h2 hb
   refine RW.cond_f rfl (RW.skip (RW.sreg (rl.run 6 rfl ?_)))
   obtain ⟨v4,e4,h9⟩:=A3 h8
   refine rl.call rfl rfl rfl (A7.val (r':=.tup [.agg (A6 false v4.1),.bool v4.2]) Fz (Fn e4) (.cons (DFL.agg (.cons (.lst ekS) (.cons (.lst A1) .nil))) (.cons .int (.cons .int (.cons .str .nil)))) (FlL.tup (.cons (C9.flag _).agg (.cons .refl .nil))) ?_)
   refine rl.run 6 rfl (rl.done ?_)
   refine RW.kp [2,4,8,9] [(2,.ptr 0 0),(4,.ptr 2 0),(8,.ptr 3 0),(9,.bool v4.2)] [some ⟨A6 false x0,0⟩,some ⟨G6 false x1,0⟩,some ⟨[.nils,.nils],0⟩,some ⟨A6 false v4.1,0⟩] rfl rfl ?_
   refine RW.seq (RW.sreg (rl.run 2 rfl (rl.done ?_)))
   cases hb : (!v4.2)
   ·have h10:=A5 h9 hb
    refine RW.cond_f rfl (RW.skip (RW.sreg (rl.run 1 rfl ?_)))
    obtain ⟨v5,e5,h11⟩:=A3 h10
    refine rl.call rfl rfl rfl (A7.own (r':=.agg (B8 4 5 v5)) (H':=[some ⟨A6 false x0,0⟩,some ⟨G6 false x1,0⟩,some ⟨[.nils,.nils],0⟩,some ⟨A6 false v4.1,0⟩,some ⟨fl (encS true) v5.Sectors,1⟩,some ⟨fl (A2 true) v5.Cache,2⟩]) U4 (T3 e5) (.cons (DFL.agg (.cons (.lst ekS) (.cons (.lst A1) .nil))) .nil) (C9.own _) rfl ?_)
    refine rl.run 2 rfl (rl.done (RW.ret ?_))
    cases h11
    exact RRet.mk rfl (OutT.tup (.cons (OutL.agg (.cons (OutR.ownq ekS rfl rfl) rfl (.cons (OutR.ownq A1 rfl rfl) rfl .nil))) (.cons .bool .nil))) (by first | decide | simp)
   ·have h12:=A4 h9 hb
    refine RW.cond_t rfl (RW.sreg (rl.run 1 rfl ?_))
    obtain ⟨v6,e6,h13⟩:=A3 h12
    refine rl.call rfl rfl rfl (A7.own (r':=.agg (B8 4 5 v6)) (H':=[some ⟨A6 false x0,0⟩,some ⟨G6 false x1,0⟩,some ⟨[.nils,.nils],0⟩,some ⟨A6 false v4.1,0⟩,some ⟨fl (encS true) v6.Sectors,1⟩,some ⟨fl (A2 true) v6.Cache,2⟩]) K2 (J4 e6) (.cons (DFL.agg (.cons (.lst ekS) (.cons (.lst A1) .nil))) .nil) (C9.own _) rfl ?_)
    refine rl.run 2 rfl (rl.done (RW.ret ?_))
    cases h13
    exact RRet.mk rfl (OutT.tup (.cons (OutL.agg (.cons (OutR.ownq ekS rfl rfl) rfl (.cons (OutR.ownq A1 rfl rfl) rfl .nil))) (.cons .bool .nil))) (by first | decide | simp)
  ·have h14:=A4 h2 hb
   refine RW.cond_t rfl (RW.sreg (rl.run 1 rfl ?_))
   obtain ⟨v7,e7,h15⟩:=A3 h14
   refine rl.call rfl rfl rfl (A7.own (r':=.agg (B8 3 4 v7)) (H':=[some ⟨A6 false x0,0⟩,some ⟨G6 false x1,0⟩,some ⟨[.nils,.nils],0⟩,some ⟨fl (encS true) v7.Sectors,1⟩,some ⟨fl (A2 true) v7.Cache,2⟩]) K2 (J4 e7) (.cons (DFL.agg (.cons (.lst ekS) (.cons (.lst A1) .nil))) .nil) (C9.own _) rfl ?_)
   refine rl.run 2 rfl (rl.done (RW.ret ?_))
   cases h15
   exact RRet.mk rfl (OutT.tup (.cons (OutL.agg (.cons (OutR.ownq ekS rfl rfl) rfl (.cons (OutR.ownq A1 rfl rfl) rfl .nil))) (.cons .bool .nil))) (by first | decide | simp)
theorem Hp {x0 : TFrame} {r : Bool} (hF : W9 x0 = some r) : B3 Tryz.prog 170 [.agg (B9 false x0)] (.bool r):=by
 refine B3.of_r A2d rfl ?_
 unfold W9 at hF
 refine RW.sreg (rl.run 2 rfl (rl.done (RW.seq ?_)))
 obtain ⟨y1,ey1,h1⟩:=A3 hF
 refine RW.cutq (σ:=Bool) (fun y1=>[(2,.bool y1)]) (fun y1=>[]) (fun y=>y1 = y) (fun _ _ _ _ g h=>RW.gh g h) ?_ ?_
 ·refine RW.reg ?_
  refine rl.run 2 rfl ?_
  obtain ⟨v2,e2,h2⟩:=A3 ey1
  refine rl.call rfl rfl rfl (A7.val (r':=.bool v2) C2 (C0 e2) (.cons .int (.cons .int (.cons .int .nil))) .refl ?_)
  cases hb : v2
  ·have h3:=A5 h2 hb
   refine rl.run 12 rfl (rl.done ?_)
   cases h3
   exact ⟨_,rfl,(Gh.ren0 [] .nil rfl (.b rfl .nil))⟩
  ·have h4:=A4 h2 hb
   refine rl.run 3 rfl ?_
   obtain ⟨v3,e3,h5⟩:=A3 h4
   refine rl.call rfl rfl rfl (A7.val (r':=.bool v3) C2 (C0 e3) (.cons .int (.cons .int (.cons .int .nil))) .refl ?_)
   cases hb : v3
   ·have h6:=A5 h5 hb
    refine rl.run 8 rfl (rl.done ?_)
    cases h6
    exact ⟨_,rfl,(Gh.ren0 [] .nil rfl (.b rfl .nil))⟩
   ·have h7:=A4 h5 hb
    refine rl.run 5 rfl ?_
    obtain ⟨v4,e4,h8⟩:=A3 h7
    refine rl.call rfl rfl rfl (A7.val (r':=.bool v4) C2 (C0 e4) (.cons .int (.cons .int (.cons .int .nil))) .refl ?_)
    refine rl.run 2 rfl (rl.done ?_)
    cases h8
    exact ⟨_,rfl,(Gh.ren0 [] .nil rfl (.b rfl .nil))⟩
 ·intro y hC
  subst hC
  refine RW.ret ?_
  cases h1
  exact RRet.mk rfl .bool (by first | decide | simp)
theorem Z0 {x0 : TFrame} {r : (List UInt8) × Bool} (hF : H5 x0 = some r) : B3 Tryz.prog 146 [.agg (B9 false x0)] (.tup [.str r.1,.bool r.2]):=by
 refine B3.of_r Uy rfl ?_
 unfold H5 at hF
 refine RW.sreg (rl.run 3 rfl (rl.done (RW.seq (RW.sreg (rl.run 1 rfl ?_)))))
 obtain ⟨v1,e1,h1⟩:=A3 hF
 refine rl.call rfl rfl rfl (A7.val (r':=.bool v1) Jv (Hp e1) (.cons (DFL.agg (.cons .int (.cons .int (.cons .str .nil)))) .nil) .refl ?_)
 cases hb : v1
 ·have h2:=A5 h1 hb
  refine rl.run 1 rfl (rl.done (RW.cond_t rfl (RW.sreg (rl.run 2 rfl (rl.done (RW.ret ?_))))))
  cases h2
  exact RRet.mk rfl (OutT.tup (.cons .str (.cons .bool .nil))) (by first | decide | simp)
 ·have h3:=A4 h1 hb
  refine rl.run 1 rfl (rl.done (RW.cond_f rfl (RW.skip (RW.sdrw (A0.op rfl rfl (A0.op rfl rfl ?_))))))
  obtain ⟨v2,e2,h4⟩:=A3 h3
  refine A0.call rfl rfl rfl (A7.val (r':=.str v2) D1 (C7 e2) (.cons .int .nil) .refl ⟨rfl,?_⟩)
  refine A0.op rfl rfl (A0.op rfl rfl ?_)
  obtain ⟨v3,e3,h5⟩:=A3 h4
  refine A0.call rfl rfl rfl (A7.val (r':=.str v3) D1 (C7 e3) (.cons .int .nil) .refl ⟨rfl,?_⟩)
  obtain ⟨v4,e4,h6⟩:=A3 h5
  refine A0.op rfl (U3 rfl rfl e4) ?_
  refine A0.op rfl rfl (A0.op rfl rfl (A0.op rfl rfl ?_))
  obtain ⟨v5,e5,h7⟩:=A3 h6
  refine A0.call rfl rfl rfl (A7.val (r':=.str v5) D1 (C7 e5) (.cons .int .nil) .refl ⟨rfl,?_⟩)
  obtain ⟨v6,e6,h8⟩:=A3 h7
  refine A0.op rfl (U3 rfl rfl e6) ?_
  refine A0.op rfl rfl (A0.op rfl rfl ?_)
  obtain ⟨v7,e7,h9⟩:=A3 h8
  refine A0.op rfl (U3 rfl rfl e7) ?_
  obtain ⟨v8,e8,h10⟩:=A3 h9
  refine A0.call rfl rfl rfl (A7.val (r':=.tup [.str v8.1,.bool v8.2]) Km (Jt e8) (.cons .str .nil) (FlL.tup (.cons .refl (.cons .refl .nil))) ⟨rfl,?_⟩)
  refine A0.op rfl rfl (A0.op rfl rfl (A0.op rfl rfl (A0.op rfl rfl (A0.done ?_))))
  refine RW.kp [2,3] [(2,.str v8.1),(3,.bool v8.2)] [some ⟨B9 false x0,0⟩] rfl rfl ?_
  refine RW.ret ?_
  cases h10
  exact RRet.mk rfl (OutT.tup (.cons .str (.cons .bool .nil))) (by first | decide | simp)
theorem Rl {x0 : Int} {r : Int} (hF : Q4 x0 = some r) : B3 Tryz.prog 171 [.j x0] (.j r):=by
 refine B3.of_r Zt rfl ?_
 unfold Q4 at hF
 refine RW.sreg (rl.run 1 rfl (rl.done (RW.seq (RW.sreg (rl.run 1 rfl ?_)))))
 obtain ⟨v1,e1,h1⟩:=A3 hF
 refine rl.call rfl rfl rfl (A7.val (r':=.bool v1) C2 (C0 e1) (.cons .int (.cons .int (.cons .int .nil))) .refl ?_)
 cases hb : v1
 ·have h2:=A5 h1 hb
  refine rl.run 1 rfl (rl.done (RW.cond_t rfl (RW.sreg (rl.run 1 rfl (rl.done (RW.ret ?_))))))
  cases h2
  exact RRet.mk rfl .int (by first | decide | simp)
 ·have h3:=A4 h1 hb
  refine rl.run 1 rfl (rl.done (RW.cond_f rfl (RW.skip (RW.sreg (rl.run 4 rfl (rl.done (RW.ret ?_)))))))
  cases h3
  exact RRet.mk rfl .int (by first | decide | simp)
theorem K8 {x0 : TDisk} {x1 : Int} {x2 : Int} {x3 : List UInt8} {r : TDisk × Bool} (hF : F0 x0 x1 x2 x3 = some r) : B3 Tryz.prog 147 [.agg (A6 false x0),.j x1,.j x2,.str x3] (.tup [.agg (A6 true r.1),.bool r.2]):=by
 refine B3.of_r Ye rfl ?_
 unfold F0 at hF
 refine RW.sreg (rl.run 3 rfl (rl.done (RW.seq (RW.seq ?_))))
 obtain ⟨y1,ey1,h1⟩:=A3 hF
 refine RW.cutq (σ:=Bool) (fun y1=>[(1,.j x1),(2,.j x2),(3,.str x3),(4,.ptr 0 0),(8,.ptr 1 0),(24,.bool y1)]) (fun y1=>[some ⟨A6 false x0,0⟩,some ⟨[.nils,.nils],0⟩]) (fun y=>y1 = y) (fun _ _ _ _ g h=>RW.gh g h) ?_ ?_
 ·refine RW.reg ?_
  refine rl.run 1 rfl ?_
  obtain ⟨v2,e2,h2⟩:=A3 ey1
  refine rl.call rfl rfl rfl (A7.val (r':=.bool v2) C2 (C0 e2) (.cons .int (.cons .int (.cons .int .nil))) .refl ?_)
  cases hb : v2
  ·have h3:=A5 h2 hb
   refine rl.run 13 rfl (rl.done ?_)
   cases h3
   exact ⟨_,rfl,(Gh.ren0 [0,1] (.cells rfl rfl .z4 (.cells rfl rfl .z9 .nil)) rfl (.i rfl (.i rfl (.s rfl (.p rfl rfl (.p rfl rfl (.b rfl .nil)))))))⟩
  ·have h4:=A4 h2 hb
   refine rl.run 3 rfl ?_
   obtain ⟨v3,e3,h5⟩:=A3 h4
   refine rl.call rfl rfl rfl (A7.val (r':=.bool v3) C2 (C0 e3) (.cons .int (.cons .int (.cons .int .nil))) .refl ?_)
   cases hb : v3
   ·have h6:=A5 h5 hb
    refine rl.run 9 rfl (rl.done ?_)
    cases h6
    exact ⟨_,rfl,(Gh.ren0 [0,1] (.cells rfl rfl .z4 (.cells rfl rfl .z9 .nil)) rfl (.i rfl (.i rfl (.s rfl (.p rfl rfl (.p rfl rfl (.b rfl .nil)))))))⟩
   ·have h7:=A4 h5 hb
    refine rl.run 7 rfl ?_
    refine rl.gen rfl rfl fun b hb=>?_
    cases b
    ·have h8:=A5 h7 hb
     refine rl.run 1 rfl (rl.done ?_)
     cases h8
     exact ⟨_,rfl,(Gh.ren0 [0,1] (.cells rfl rfl .z4 (.cells rfl rfl .z9 .nil)) rfl (.i rfl (.i rfl (.s rfl (.p rfl rfl (.p rfl rfl (.b rfl .nil)))))))⟩
    ·have h9:=A4 h7 hb
     refine rl.run 1 rfl (rl.done ?_)
     cases h9
     exact ⟨_,rfl,(Gh.ren0 [0,1] (.cells rfl rfl .z4 (.cells rfl rfl .z9 .nil)) rfl (.i rfl (.i rfl (.s rfl (.p rfl rfl (.p rfl rfl (.b rfl .nil)))))))⟩
 ·intro y hC
  subst hC
  cases hb : y1
  ·have h10:=A5 h1 hb
   refine RW.cond_f rfl (RW.skip (RW.sdrw (A0.op rfl rfl (A0.op rfl rfl ?_))))
   obtain ⟨v4,e4,h11⟩:=A3 h10
   refine A0.call rfl rfl rfl (A7.val (r':=.j v4) Vf (Rl e4) (.cons .int .nil) .refl ⟨rfl,?_⟩)
   refine A0.op rfl rfl (A0.op rfl rfl ?_)
   obtain ⟨v5,e5,h12⟩:=A3 h11
   refine A0.ccall rfl rfl rfl (A7.own (r':=.tup [.agg (B8 2 3 v5.1),.bool v5.2]) (H':=[some ⟨A6 false x0,0⟩,some ⟨[.nils,.nils],0⟩,some ⟨fl (encS true) v5.1.Sectors,1⟩,some ⟨fl (A2 true) v5.1.Cache,2⟩]) Fz (Fn e5) (.cons (DFL.agg (.cons (.lst ekS) (.cons (.lst A1) .nil))) (.cons .int (.cons .int (.cons .str .nil)))) (fac (C9.own _) (fac .bool fan)) rfl ?_)
   refine A0.op rfl rfl (A0.op rfl rfl ?_)
   refine A0.chn rfl rfl ?_
   refine A0.op rfl rfl (A0.done ?_)
   refine RW.kp [8,9] [(8,.ptr 1 0),(9,.bool v5.2)] [some ⟨A6 false x0,0⟩,some ⟨B8 2 3 v5.1,0⟩,some ⟨fl (encS true) v5.1.Sectors,1⟩,some ⟨fl (A2 true) v5.1.Cache,2⟩] rfl rfl ?_
   refine RW.ret ?_
   cases h12
   exact RRet.mk rfl (OutT.tup (.cons (OutL.agg (.cons (OutR.ownq ekS rfl rfl) rfl (.cons (OutR.ownq A1 rfl rfl) rfl .nil))) (.cons .bool .nil))) (by first | decide | simp)
  ·have h13:=A4 h1 hb
   refine RW.cond_t rfl (RW.sreg (rl.run 1 rfl ?_))
   obtain ⟨v6,e6,h14⟩:=A3 h13
   refine rl.call rfl rfl rfl (A7.own (r':=.agg (B8 2 3 v6)) (H':=[some ⟨A6 false x0,0⟩,some ⟨[.nils,.nils],0⟩,some ⟨fl (encS true) v6.Sectors,1⟩,some ⟨fl (A2 true) v6.Cache,2⟩]) K2 (J4 e6) (.cons (DFL.agg (.cons (.lst ekS) (.cons (.lst A1) .nil))) .nil) (C9.own _) rfl ?_)
   refine rl.run 2 rfl (rl.done (RW.ret ?_))
   cases h14
   exact RRet.mk rfl (OutT.tup (.cons (OutL.agg (.cons (OutR.ownq ekS rfl rfl) rfl (.cons (OutR.ownq A1 rfl rfl) rfl .nil))) (.cons .bool .nil))) (by first | decide | simp)
set_option maxHeartbeats 2000000 in
theorem Hb {x0 : TLog} {r : List Int} (hF : M2 x0 = some r) : B3 Tryz.prog 34 [.agg (B5 false x0)] (.lst true 1 (fl (encI true) r) r.length):=by
 refine B3.of_r Zf rfl ?_
 unfold M2 at hF
 refine RW.sreg (rl.run 2 rfl (rl.done (RW.sreg (rl.run 2 rfl (rl.done (RW.seq (RW.sreg (rl.run 1 rfl (rl.done ?_)))))))))
 refine RW.gh (Gh.nil_t 3 1 rfl) ?_
 obtain ⟨y9,ey9,h2⟩:=A3 hF
 refine RW.cutq (σ:=(List Int)) (fun y2=>[(3,.sl 0 0 y2.length)]) (fun y2=>[some ⟨fl (encI true) y2,1⟩]) (fun y=>y9 = y) (fun _ _ _ _ g h=>RW.gh g h) ?_ ?_
 ·refine RW.blk ?_
  refine RW.iter (σ:=Int × (List Int)) ey9 (fun s1=>[(1,.ptr 0 0),(3,.sl 1 0 s1.2.length),(4,.j s1.1)]) (fun s1=>[some ⟨B5 false x0,0⟩,some ⟨fl (encI true) s1.2,1⟩]) (Gh.ren0 [0,1] (.cells rfl rfl .z2 (.same rfl (ekI.fref _ _) .nil)) rfl (.p rfl rfl (.cons rfl (.slq rfl rfl) (.i rfl .nil)))) (fun s1 B o hS1 hB1 hE1=>?_)
  unfold Af at hS1
  refine RW.seq (RW.seq ?_)
  obtain ⟨y3,ey3,h3⟩:=A3 hS1
  refine RW.cutq (σ:=Bool) (fun y3=>[(1,.ptr 0 0),(3,.sl 1 0 s1.2.length),(4,.j s1.1),(15,.bool y3)]) (fun y3=>[some ⟨B5 false x0,0⟩,some ⟨fl (encI true) s1.2,1⟩]) (fun y=>y3 = y) (fun _ _ _ _ g h=>RW.gh g h) ?_ ?_
  ·refine RW.reg ?_
   refine rl.run 3 rfl ?_
   refine rl.gen rfl rfl fun b hb=>?_
   cases b
   ·have h4:=A5 ey3 hb
    refine rl.run 4 rfl (rl.done ?_)
    cases h4
    exact ⟨_,rfl,(Gh.ren0 [0,1] (.cells rfl rfl .z2 (.same rfl (ekI.fref _ _) .nil)) rfl (.p rfl rfl (.cons rfl (.slq rfl rfl) (.i rfl (.b rfl .nil)))))⟩
   ·have h5:=A4 ey3 hb
    refine rl.run 2 rfl ?_
    refine rl.gen rfl rfl fun b hb=>?_
    cases b
    ·have h6:=A5 h5 hb
     refine rl.run 1 rfl (rl.done ?_)
     cases h6
     exact ⟨_,rfl,(Gh.ren0 [0,1] (.cells rfl rfl .z2 (.same rfl (ekI.fref _ _) .nil)) rfl (.p rfl rfl (.cons rfl (.slq rfl rfl) (.i rfl (.b rfl .nil)))))⟩
    ·have h7:=A4 h5 hb
     refine rl.run 1 rfl (rl.done ?_)
     cases h7
     exact ⟨_,rfl,(Gh.ren0 [0,1] (.cells rfl rfl .z2 (.same rfl (ekI.fref _ _) .nil)) rfl (.p rfl rfl (.cons rfl (.slq rfl rfl) (.i rfl (.b rfl .nil)))))⟩
  ·intro y hC
   subst hC
   cases hb : y3
   ·have h8:=A5 h3 hb
    refine RW.cond_f rfl (RW.exit (D0 ?_))
    cases h8
    exact ⟨_,(hE1 _ rfl).symm,(Gh.ren0 [1] (.same rfl (ekI.fref _ _) .nil) rfl (.cons rfl (.slq rfl rfl) .nil))⟩
   ·have h9:=A4 h3 hb
    refine RW.cond_t rfl (RW.skip (RW.seq (RW.blk (RW.sreg (rl.run 1 rfl (rl.done (RW.seq (RW.sreg (rl.run 1 rfl (rl.done ?_))))))))))
    obtain ⟨y7,ey7,h11⟩:=A3 h9
    refine RW.cutq (σ:=Bool) (fun y5=>[(1,.ptr 0 0),(3,.sl 1 0 s1.2.length),(4,.j s1.1),(5,.bool y5)]) (fun y5=>[some ⟨B5 false x0,0⟩,some ⟨fl (encI true) s1.2,1⟩]) (fun y=>y7 = y) (fun _ _ _ _ g h=>RW.gh g h) ?_ ?_
    ·refine RW.blk ?_
     refine RW.iter (σ:=Bool × Int) ey7 (fun s4=>[(1,.ptr 0 0),(3,.sl 1 0 s1.2.length),(4,.j s1.1),(5,.bool s4.1),(6,.j s4.2)]) (fun s4=>[some ⟨B5 false x0,0⟩,some ⟨fl (encI true) s1.2,1⟩]) (Gh.ren0 [0,1] (.cells rfl rfl .z2 (.same rfl (ekI.fref _ _) .nil)) rfl (.p rfl rfl (.cons rfl (.slq rfl rfl) (.i rfl (.b rfl (.i rfl .nil)))))) (fun s4 B o hS10 hB10 hE10=>?_)
     unfold P6 at hS10
     refine RW.seq (RW.sreg (rl.run 4 rfl ?_))
     refine rl.gen rfl rfl fun b hb=>?_
     cases b
     ·have h12:=A5 hS10 hb
      refine rl.done (RW.cond_f rfl (RW.exit (D0 ?_)))
      cases h12
      exact ⟨_,(hE10 _ rfl).symm,(Gh.ren0 [0,1] (.cells rfl rfl .z2 (.same rfl (ekI.fref _ _) .nil)) rfl (.p rfl rfl (.cons rfl (.slq rfl rfl) (.i rfl (.b rfl .nil)))))⟩
     ·have h13:=A4 hS10 hb
      refine rl.done (RW.cond_t rfl (RW.skip (RW.seq (RW.blk (RW.reg (rl.run 2 rfl ?_))))))
      cases hb : s4.1
      ·have h14:=A5 h13 hb
       refine rl.run 3 rfl ?_
       obtain ⟨v6,e6,h15⟩:=A3 h14
       refine rl.gop rfl (C1 (enc:=A8) (o:=false) rfl rfl rfl e6) ?_
       refine rl.run 1 rfl ?_
       refine rl.gop rfl (G5 (off':=0) A9 rfl e6 rfl rfl rfl) ?_
       refine rl.run 1 rfl ?_
       refine rl.gen rfl rfl fun b hb=>?_
       cases b
       ·have h16:=A5 h15 hb
        refine rl.run 2 rfl (rl.done (RW.reg (rl.run 3 rfl (rl.done ?_))))
        cases h16
        exact hB10 _ rfl _ _ (Gh.ren0 [0,1] (.cells rfl rfl .z2 (.same rfl (ekI.fref _ _) .nil)) rfl (.p rfl rfl (.cons rfl (.slq rfl rfl) (.i rfl (.b rfl (.i rfl .nil))))))
       ·have h17:=A4 h15 hb
        refine rl.run 2 rfl (rl.done (RW.reg (rl.run 3 rfl (rl.done ?_))))
        cases h17
        exact hB10 _ rfl _ _ (Gh.ren0 [0,1] (.cells rfl rfl .z2 (.same rfl (ekI.fref _ _) .nil)) rfl (.p rfl rfl (.cons rfl (.slq rfl rfl) (.i rfl (.b rfl (.i rfl .nil))))))
      ·have h18:=A4 h13 hb
       refine rl.run 10 rfl (rl.done (RW.reg (rl.run 3 rfl (rl.done ?_))))
       cases h18
       exact hB10 _ rfl _ _ (Gh.ren0 [0,1] (.cells rfl rfl .z2 (.same rfl (ekI.fref _ _) .nil)) rfl (.p rfl rfl (.cons rfl (.slq rfl rfl) (.i rfl (.b rfl (.i rfl .nil))))))
    ·intro y5 hC
     subst hC
     refine RW.sreg (rl.run 2 rfl (rl.done ?_))
     cases hb : (!y7)
     ·have h19:=A5 h11 hb
      refine RW.cond_f rfl (RW.skip (RW.reg (rl.run 3 rfl (rl.done ?_))))
      cases h19
      exact hB1 _ rfl _ _ (Gh.ren0 [0,1] (.cells rfl rfl .z2 (.same rfl (ekI.fref _ _) .nil)) rfl (.p rfl rfl (.cons rfl (.slq rfl rfl) (.i rfl .nil))))
     ·have h20:=A4 h11 hb
      refine RW.cond_t rfl (RW.reg (rl.run 3 rfl ?_))
      obtain ⟨v8,e8,h21⟩:=A3 h20
      refine rl.op (Z4 rfl rfl (V5 (l:=s1.2) (m:=[s1.1]) (o:=true) ekI rfl rfl (P8 (m:=[s1.1]) (o:=true) fkI rfl rfl) rfl (fkI.fst _ _) e8)) ?_
      refine rl.run 1 rfl (rl.done (RW.reg (rl.run 3 rfl (rl.done ?_))))
      cases h21
      exact hB1 _ rfl _ _ (Gh.ren0 [0,3] (.cells rfl rfl .z2 (.same rfl (ekI.fref _ _) .nil)) rfl (.p rfl rfl (.cons rfl (.slq rfl rfl) (.i rfl .nil))))
 ·intro y2 hC
  subst hC
  refine RW.sreg (rl.run 2 rfl (rl.done (RW.ret ?_)))
  cases h2
  exact RRet.mk rfl (OutR.ownq ekI rfl rfl) (by first | decide | simp)
end Go.Proofs.YtldndhdohlfpgaaGreat.V
