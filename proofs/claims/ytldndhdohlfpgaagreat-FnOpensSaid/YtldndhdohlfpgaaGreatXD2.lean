/- What a call comes to. -/
import Derived.Test.YtldndhdohlfpgaaGreatXD1
namespace Go.Proofs.YtldndhdohlfpgaaGreat.V
open Go Go.Proofs Go.RowKit
set_option maxRecDepth 100000
set_option maxHeartbeats 2000000 in
theorem Mm {x0 : TLog} {x1 : Int} {r : Bool × TLog} (hF : P4 x0 x1 = some r) : C4 Tryz.prog 0 88 [.ptr 0 0,.j x1] [some ⟨[.lst true 1 (fl (encS true) x0.Disk.Sectors) x0.Disk.Sectors.length,.lst true 2 (fl (A2 true) x0.Disk.Cache) x0.Disk.Cache.length,.j x0.Segs,.nils,.j x0.NextGen,.j x0.NextSeq,.j x0.Stamp,.j x0.NextValid],0⟩] (.bool r.1) [some ⟨B5 true r.2,0⟩]:=by
 refine C4.of_s Ks rfl ?_
 unfold P4 at hF
 refine RW.gh (Gh.expose (b:=0) (j:=0) rfl rfl (by decide) (ekS.fown _)) ?_
 refine RW.gh (Gh.expose (b:=0) (j:=1) rfl rfl (by decide) (A1.fown _)) ?_
 refine RW.sreg (rl.run 1 rfl (rl.done (RW.sreg (rl.run 3 rfl ?_))))
 obtain ⟨v1,e1,h1⟩:=A3 hF
 refine rl.call rfl rfl rfl (A7.val (r':=L_I v1) Hs (Hb e1) (.cons (DFL.agg (.cons (.slq ekS rfl rfl) (.cons (.slq A1 rfl rfl) (.cons .int (.cons (.nils (enc:=A8)) (.cons .int (.cons .int (.cons .int (.cons .int .nil))))))))) .nil) (ekI.fflag _).lst ?_)
 refine rl.run 1 rfl (rl.done (RW.seq (RW.seq ?_)))
 obtain ⟨y2,ey2,h2⟩:=A3 h1
 refine RW.cutq (σ:=Bool) (fun y2=>[(0,.ptr 0 0),(5,L_I v1),(21,.bool y2)]) (fun y2=>[some ⟨[.sl 1 0 x0.Disk.Sectors.length,.sl 2 0 x0.Disk.Cache.length,.j x0.Segs,.nils,.j x0.NextGen,.j x0.NextSeq,.j x0.Stamp,.j x0.NextValid],0⟩,some ⟨fl (encS true) x0.Disk.Sectors,1⟩,some ⟨fl (A2 true) x0.Disk.Cache,2⟩]) (fun y=>y2 = y) (fun _ _ _ _ g h=>RW.gh g h) ?_ ?_
 ·refine RW.reg ?_
  refine rl.run 1 rfl ?_
  refine rl.gen rfl rfl fun b hb=>?_
  cases b
  ·have h3:=A5 ey2 hb
   refine rl.run 4 rfl ?_
   refine rl.gen rfl rfl fun b hb=>?_
   cases b
   ·have h4:=A5 h3 hb
    refine rl.run 1 rfl (rl.done ?_)
    cases h4
    exact ⟨_,rfl,(Gh.renN [0,1,2] (.cells rfl rfl (.slq rfl rfl (.slq rfl rfl (.keep .int (.keep .nils (.keep .int (.keep .int (.keep .int (.keep .int .nil)))))))) (.same rfl (ekS.fref _ _) (.same rfl (A1.fref _ _) .nil))) rfl rfl rfl (.p rfl rfl (.cons rfl (.dat (ekI.rlst)) (.b rfl .nil))))⟩
   ·have h5:=A4 h3 hb
    refine rl.run 1 rfl (rl.done ?_)
    cases h5
    exact ⟨_,rfl,(Gh.renN [0,1,2] (.cells rfl rfl (.slq rfl rfl (.slq rfl rfl (.keep .int (.keep .nils (.keep .int (.keep .int (.keep .int (.keep .int .nil)))))))) (.same rfl (ekS.fref _ _) (.same rfl (A1.fref _ _) .nil))) rfl rfl rfl (.p rfl rfl (.cons rfl (.dat (ekI.rlst)) (.b rfl .nil))))⟩
  ·have h6:=A4 ey2 hb
   refine rl.run 6 rfl (rl.done ?_)
   cases h6
   exact ⟨_,rfl,(Gh.renN [0,1,2] (.cells rfl rfl (.slq rfl rfl (.slq rfl rfl (.keep .int (.keep .nils (.keep .int (.keep .int (.keep .int (.keep .int .nil)))))))) (.same rfl (ekS.fref _ _) (.same rfl (A1.fref _ _) .nil))) rfl rfl rfl (.p rfl rfl (.cons rfl (.dat (ekI.rlst)) (.b rfl .nil))))⟩
 ·intro y hC
  subst hC
  cases hb : y2
  ·have h7:=A5 h2 hb
   refine RW.cond_f rfl (RW.skip (RW.sreg (rl.run 5 rfl ?_)))
   obtain ⟨v3,e3,h8⟩:=A3 h7
   refine rl.call rfl rfl rfl (A7.val (r':=.tup [.str v3.1,.bool v3.2]) Ag (Z0 e3) (.cons (DFL.agg (.cons .int (.cons .int (.cons .str .nil)))) .nil) (FlL.tup (.cons .refl (.cons .refl .nil))) ?_)
   refine rl.run 5 rfl (rl.done (RW.sdrw (A0.op rfl rfl (A0.op rfl rfl (A0.op rfl rfl (A0.op rfl rfl (A0.op rfl rfl ?_)))))))
   obtain ⟨v4,e4,h9⟩:=A3 h8
   refine A0.op rfl (C1 (enc:=encI) (o:=false) rfl rfl rfl e4) ?_
   refine A0.op rfl (G5 (off':=0) ekI rfl e4 rfl rfl rfl) ?_
   refine A0.op rfl rfl ?_
   obtain ⟨v5,e5,h10⟩:=A3 h9
   refine A0.call rfl rfl rfl (A7.val (r':=.tup [.agg (A6 false v5.1),.bool v5.2]) L3 (K8 e5) (.cons (DFL.agg (.cons (.slq ekS rfl rfl) (.cons (.slq A1 rfl rfl) .nil))) (.cons .int (.cons .int (.cons .str .nil)))) (FlL.tup (.cons (C9.flag _).agg (.cons .refl .nil))) ⟨rfl,?_⟩)
   refine A0.op rfl rfl (A0.op rfl rfl (A0.op rfl rfl ?_))
   refine A0.chnB rfl rfl (.here (.rx rfl) (.here (.rx rfl) (.here (.rx rfl) (.here (.cl rfl rfl (A7.val (r':=.tup [.agg (A6 false v5.1),.bool v5.2]) L3 (K8 e5) (.cons (DFL.agg (.cons (.slq ekS rfl rfl) (.cons (.slq A1 rfl rfl) .nil))) (.cons .int (.cons .int (.cons .str .nil)))) (FlL.tup (.cons (C9.flag _).agg (.cons .refl .nil))) ⟨rfl,rfl⟩)) (.here (.rx rfl) (.here (.rx (G5 (off':=0) ekI rfl e4 rfl rfl rfl)) (.here (.rx (C1 (enc:=encI) (o:=false) rfl rfl rfl e4)) (.here (.rx rfl) (.here (.rx rfl) (.here (.rx rfl) (.here (.rx rfl) (.here (.rx rfl) .nil)))))))))))) ?_
   refine A0.chnB rfl rfl (.here (.rx rfl) (.skip rfl (.skip rfl (.skip rfl (.skip rfl (.skip rfl (.skip rfl (.skip rfl (.skip rfl (.skip rfl (.skip rfl (.skip rfl .nil)))))))))))) ?_
   refine A0.op rfl rfl (A0.done ?_)
   refine RW.kp [0,5,6,7,8,9] [(0,.ptr 0 0),(5,L_I v1),(6,.str v3.1),(7,.bool v3.2),(8,.ptr 3 0),(9,.bool v5.2)] [some ⟨[.sl 1 0 x0.Disk.Sectors.length,.sl 2 0 x0.Disk.Cache.length,.j x0.Segs,.nils,.j x0.NextGen,.j x0.NextSeq,.j x0.Stamp,.j x0.NextValid],0⟩,some ⟨fl (encS true) x0.Disk.Sectors,1⟩,some ⟨fl (A2 true) x0.Disk.Cache,2⟩,some ⟨A6 false v5.1,0⟩] rfl rfl ?_
   refine RW.seq (RW.seq ?_)
   obtain ⟨y6,ey6,h11⟩:=A3 h10
   refine RW.cutq (σ:=Bool) (fun y6=>[(0,.ptr 0 0),(5,L_I v1),(6,.str v3.1),(8,.ptr 1 0),(55,.bool y6)]) (fun y6=>[some ⟨[.sl 2 0 x0.Disk.Sectors.length,.sl 3 0 x0.Disk.Cache.length,.j x0.Segs,.nils,.j x0.NextGen,.j x0.NextSeq,.j x0.Stamp,.j x0.NextValid],0⟩,some ⟨A6 false v5.1,0⟩,some ⟨fl (encS true) x0.Disk.Sectors,1⟩,some ⟨fl (A2 true) x0.Disk.Cache,2⟩]) (fun y=>y6 = y) (fun _ _ _ _ g h=>RW.gh g h) ?_ ?_
   ·refine RW.reg ?_
    refine rl.run 3 rfl ?_
    cases hb : (!v3.2)
    ·have h12:=A5 ey6 hb
     refine rl.run 4 rfl ?_
     cases hb : (!v5.2)
     ·have h13:=A5 h12 hb
      refine rl.run 4 rfl ?_
      refine rl.gen rfl rfl fun b hb=>?_
      cases b
      ·have h14:=A5 h13 hb
       refine rl.run 1 rfl (rl.done ?_)
       cases h14
       exact ⟨_,rfl,(Gh.renN [0,3,1,2] (.cells rfl rfl (.slq rfl rfl (.slq rfl rfl (.keep .int (.keep .nils (.keep .int (.keep .int (.keep .int (.keep .int .nil)))))))) (.cells rfl rfl .z4 (.same rfl (ekS.fref _ _) (.same rfl (A1.fref _ _) .nil)))) rfl rfl rfl (.p rfl rfl (.cons rfl (.dat (ekI.rlst)) (.s rfl (.p rfl rfl (.b rfl .nil))))))⟩
      ·have h15:=A4 h13 hb
       refine rl.run 1 rfl (rl.done ?_)
       cases h15
       exact ⟨_,rfl,(Gh.renN [0,3,1,2] (.cells rfl rfl (.slq rfl rfl (.slq rfl rfl (.keep .int (.keep .nils (.keep .int (.keep .int (.keep .int (.keep .int .nil)))))))) (.cells rfl rfl .z4 (.same rfl (ekS.fref _ _) (.same rfl (A1.fref _ _) .nil)))) rfl rfl rfl (.p rfl rfl (.cons rfl (.dat (ekI.rlst)) (.s rfl (.p rfl rfl (.b rfl .nil))))))⟩
     ·have h16:=A4 h12 hb
      refine rl.run 6 rfl (rl.done ?_)
      cases h16
      exact ⟨_,rfl,(Gh.renN [0,3,1,2] (.cells rfl rfl (.slq rfl rfl (.slq rfl rfl (.keep .int (.keep .nils (.keep .int (.keep .int (.keep .int (.keep .int .nil)))))))) (.cells rfl rfl .z4 (.same rfl (ekS.fref _ _) (.same rfl (A1.fref _ _) .nil)))) rfl rfl rfl (.p rfl rfl (.cons rfl (.dat (ekI.rlst)) (.s rfl (.p rfl rfl (.b rfl .nil))))))⟩
    ·have h17:=A4 ey6 hb
     refine rl.run 10 rfl (rl.done ?_)
     cases h17
     exact ⟨_,rfl,(Gh.renN [0,3,1,2] (.cells rfl rfl (.slq rfl rfl (.slq rfl rfl (.keep .int (.keep .nils (.keep .int (.keep .int (.keep .int (.keep .int .nil)))))))) (.cells rfl rfl .z4 (.same rfl (ekS.fref _ _) (.same rfl (A1.fref _ _) .nil)))) rfl rfl rfl (.p rfl rfl (.cons rfl (.dat (ekI.rlst)) (.s rfl (.p rfl rfl (.b rfl .nil))))))⟩
   ·intro y hC
    subst hC
    cases hb : y6
    ·have h18:=A5 h11 hb
     refine RW.cond_f rfl (RW.skip (RW.sreg (rl.run 2 rfl ?_)))
     obtain ⟨v7,e7,h19⟩:=A3 h18
     refine rl.call rfl rfl rfl (A7.own (r':=.agg (B8 4 5 v7)) (H':=[some ⟨[.sl 2 0 x0.Disk.Sectors.length,.sl 3 0 x0.Disk.Cache.length,.j x0.Segs,.nils,.j x0.NextGen,.j x0.NextSeq,.j x0.Stamp,.j x0.NextValid],0⟩,some ⟨A6 false v5.1,0⟩,some ⟨fl (encS true) x0.Disk.Sectors,1⟩,some ⟨fl (A2 true) x0.Disk.Cache,2⟩,some ⟨fl (encS true) v7.Sectors,1⟩,some ⟨fl (A2 true) v7.Cache,2⟩]) U4 (T3 e7) (.cons (DFL.agg (.cons (.lst ekS) (.cons (.lst A1) .nil))) .nil) (C9.own _) rfl ?_)
     refine rl.run 3 rfl (rl.done (RW.sdrw (A0.op rfl rfl (A0.op rfl rfl (A0.op rfl rfl (A0.op rfl rfl (A0.op rfl rfl (A0.op rfl rfl ?_))))))))
     refine A0.chnB rfl rfl (.skip rfl (.skip rfl (.skip rfl (.skip rfl (.skip rfl (.here (.rx rfl) .nil)))))) ?_
     refine A0.opA rfl rfl (.here (.rx rfl) .nil) ?_
     obtain ⟨v8,e8,h20⟩:=A3 h19
     refine A0.opA rfl (C1 (enc:=encI) (o:=false) rfl rfl rfl e8) (.here (.rx (C1 (enc:=encI) (o:=false) rfl rfl rfl e8)) .nil) ?_
     refine A0.opA rfl (G5 (off':=0) ekI rfl e8 rfl rfl rfl) (.here (.rx (G5 (off':=0) ekI rfl e8 rfl rfl rfl)) .nil) ?_
     refine A0.opA rfl rfl (.here (.rx rfl) .nil) ?_
     refine A0.opA rfl rfl (.here (.rx rfl) .nil) ?_
     refine A0.opA rfl rfl (.here (.rx rfl) .nil) ?_
     refine A0.opA rfl rfl (.here (.rx rfl) .nil) ?_
     refine A0.opA rfl rfl (.here (.rx rfl) .nil) ?_
     refine A0.opA rfl rfl (.here (.rx rfl) .nil) ?_
     refine A0.opA rfl rfl (.here (.rx rfl) .nil) ?_
     refine A0.litA (u:=.lst false 4 [.j v8,.j x0.NextGen,.j (v3.1.length : Int),.nils] 1) rfl rfl (Lit.mk rfl rfl) (.here (.lit rfl (Lit.mk rfl rfl)) .nil) ?_
     obtain ⟨v9,e9,h21⟩:=A3 h20
     refine A0.chnB rfl (Z4 rfl rfl (Tn A9 rfl rfl rfl e9)) (.skip rfl (.skip rfl (.skip rfl (.skip rfl (.skip rfl (.skip rfl (.skip rfl (.skip rfl (.skip rfl (.skip rfl (.skip rfl (.skip rfl (.skip rfl (.skip rfl (.skip rfl (.skip rfl (.here (.rx rfl) .nil))))))))))))))))) ?_
     refine A0.op rfl rfl (A0.op rfl rfl ?_)
     refine A0.chn rfl rfl ?_
     refine A0.done ?_
     refine RW.gh (Gh.own0 (b:=7) rfl (NL.append NL.refl (NL.append (.same (.same (.same (.nils (es:=9) .nil)))) NL.refl))) ?_
     refine RW.gh (Gh.blk (b:=7) rfl (A03 (enc:=A8) e9 rfl)) ?_
     refine RW.kp [0] [(0,.ptr 0 0)] [some ⟨[.sl 4 0 v7.Sectors.length,.sl 5 0 v7.Cache.length,.j x0.Segs,.sl 7 0 v9.length,.j x0.NextGen,.j x0.NextSeq,.j x0.Stamp,.j x0.NextValid],0⟩,some ⟨A6 false v5.1,0⟩,some ⟨fl (encS true) x0.Disk.Sectors,1⟩,some ⟨fl (A2 true) x0.Disk.Cache,2⟩,some ⟨fl (encS true) v7.Sectors,1⟩,some ⟨fl (A2 true) v7.Cache,2⟩,none,some ⟨fl (A8 true) v9,4⟩] rfl rfl ?_
     refine RW.sreg (rl.run 8 rfl (rl.done (RW.sreg (rl.run 1 rfl (rl.done (RW.ret ?_))))))
     cases h21
     exact RRetS.mk rfl .bool (Gh.trans (Gh.absorbq (b:=0) (j:=0) (m:=4) rfl rfl rfl (by decide) (by decide) rfl (ekS.flen true _) (ekS.fown _)) (Gh.trans (Gh.absorbq (b:=0) (j:=1) (m:=5) rfl rfl rfl (by decide) (by decide) rfl (A1.flen true _) (A1.fown _)) (Gh.trans (Gh.absorbq (b:=0) (j:=3) (m:=7) rfl rfl rfl (by decide) (by decide) rfl (A9.flen true _) (A9.fown _)) (Gh.renN [0] (.cells rfl rfl .z2 .nil) rfl rfl rfl .nil))))
    ·have h22:=A4 h11 hb
     refine RW.cond_t rfl (RW.sreg (rl.run 1 rfl (rl.done (RW.ret ?_))))
     cases h22
     exact RRetS.mk rfl .bool (Gh.trans (Gh.own0 (b:=0) rfl (.same (.same (.same (.nils (.same (.same (.same (.same .nil))))))))) (Gh.trans (Gh.absorbq (b:=0) (j:=0) (m:=2) rfl rfl rfl (by decide) (by decide) rfl (ekS.flen true _) (ekS.fown _)) (Gh.trans (Gh.absorbq (b:=0) (j:=1) (m:=3) rfl rfl rfl (by decide) (by decide) rfl (A1.flen true _) (A1.fown _)) (Gh.renN [0] (.cells rfl rfl (.keep (ekS.rlst) (.keep (A1.rlst) (.keep .int (.keep (A9.rlst (o:=true) (l:=[])) (.keep .int (.keep .int (.keep .int (.keep .int .nil)))))))) .nil) rfl rfl rfl .nil))))
  ·have h23:=A4 h2 hb
   refine RW.cond_t rfl (RW.sreg (rl.run 1 rfl (rl.done (RW.ret ?_))))
   cases h23
   exact RRetS.mk rfl .bool (Gh.trans (Gh.own0 (b:=0) rfl (.same (.same (.same (.nils (.same (.same (.same (.same .nil))))))))) (Gh.trans (Gh.absorbq (b:=0) (j:=0) (m:=1) rfl rfl rfl (by decide) (by decide) rfl (ekS.flen true _) (ekS.fown _)) (Gh.trans (Gh.absorbq (b:=0) (j:=1) (m:=2) rfl rfl rfl (by decide) (by decide) rfl (A1.flen true _) (A1.fown _)) (Gh.renN [0] (.cells rfl rfl (.keep (ekS.rlst) (.keep (A1.rlst) (.keep .int (.keep (A9.rlst (o:=true) (l:=[])) (.keep .int (.keep .int (.keep .int (.keep .int .nil)))))))) .nil) rfl rfl rfl .nil))))
set_option maxHeartbeats 2000000 in
theorem Mf {x0 : Int} {r : TLog × Bool} (hF : U9 x0 = some r) : B3 Tryz.prog 116 [.j x0] (.tup [.agg (B5 true r.1),.bool r.2]):=by
 refine B3.of_r Rp rfl ?_
 unfold U9 at hF
 refine RW.sreg (rl.run 2 rfl (rl.done (RW.seq (RW.sreg (rl.run 1 rfl ?_)))))
 obtain ⟨v1,e1,h1⟩:=A3 hF
 refine rl.call rfl rfl rfl (A7.val (r':=.bool v1) C2 (C0 e1) (.cons .int (.cons .int (.cons .int .nil))) .refl ?_)
 cases hb : v1
 ·have h2:=A5 h1 hb
  refine rl.run 1 rfl (rl.done (RW.cond_t rfl (RW.sreg (rl.run 3 rfl (rl.done (RW.ret ?_))))))
  cases h2
  exact RRet.mk rfl (OutT.tup (.cons (OutL.agg (.cons (OutR.nil (enc:=encS)) rfl (.cons (OutR.nil (enc:=A2)) rfl (.i (.cons (OutR.nil (enc:=A8)) rfl (.i (.i (.i (.i .nil))))))))) (.cons .bool .nil))) (by first | decide | simp)
 ·have h3:=A4 h1 hb
  refine rl.run 1 rfl (rl.done (RW.cond_f rfl (RW.skip (RW.sreg (rl.run 3 rfl ?_)))))
  obtain ⟨v2,e2,h4⟩:=A3 h3
  refine rl.call rfl rfl rfl (A7.own (r':=.tup [.agg (B8 1 2 v2.1),.bool v2.2]) (H':=[some ⟨[.nils,.nils,.j 0,.nils,.j 0,.j 0,.j 0,.j 0],0⟩,some ⟨fl (encS true) v2.1.Sectors,1⟩,some ⟨fl (A2 true) v2.1.Cache,2⟩]) Yp (Ve e2) (.cons .int .nil) (fac (C9.own _) (fac .bool fan)) rfl ?_)
  refine rl.run 6 rfl (rl.done ?_)
  refine RW.kp [0,2,4] [(0,.j x0),(2,.ptr 0 0),(4,.ptr 3 0)] [some ⟨[.nils,.nils,.j 0,.nils,.j 0,.j 0,.j 0,.j 0],0⟩,some ⟨fl (encS true) v2.1.Sectors,1⟩,some ⟨fl (A2 true) v2.1.Cache,2⟩,some ⟨B8 1 2 v2.1,0⟩] rfl rfl ?_
  refine RW.sreg (rl.run 5 rfl (rl.done (RW.seq ?_)))
  refine RW.gh (Gh.absorbq (b:=4) (j:=0) (m:=1) rfl rfl rfl (by decide) (by decide) rfl (ekS.flen true _) (ekS.fown _)) ?_
  refine RW.gh (Gh.absorbq (b:=4) (j:=1) (m:=2) rfl rfl rfl (by decide) (by decide) rfl (A1.flen true _) (A1.fown _)) ?_
  refine RW.sreg ?_
  obtain ⟨v3,e3,h5⟩:=A3 h4
  refine rl.call rfl rfl rfl (A7.embW (r0:=.bool v3.1) (H':=[some ⟨[.nils,.nils,.j 0,.nils,.j 0,.j 0,.j 0,.j 0],0⟩,none,none,some ⟨B8 1 2 v2.1,0⟩,some ⟨B5 true v3.2,0⟩]) [⟨[.lst true 1 (fl (encS true) v2.1.Sectors) v2.1.Sectors.length,.lst true 2 (fl (A2 true) v2.1.Cache) v2.1.Cache.length,.j x0,.nils,.j 1,.j 1,.j 0,.j 1],0⟩] [⟨B5 true v3.2,0⟩] [4] Kc (Mm e3) (.cons rfl (fac (ekS.rlst) (fac (A1.rlst) (fac .int (fac .nils (fac .int (fac .int (fac .int (fac .int fan)))))))) (fac (.lst (ekS.fown _)) (fac (.lst (A1.fown _)) (fac .int (fac (.lst (A9.fown _)) (fac .int (fac .int (fac .int (fac .int fan)))))))) .nil) rfl (.cons (.ptr rfl) (.cons (.dat .int) .nil)) .bool rfl rfl ?_)
  cases hb : v3.1
  ·have h6:=A5 h5 hb
   refine rl.run 1 rfl (rl.done ?_)
   refine RW.gh (Gh.expose (b:=4) (j:=0) rfl rfl (by decide) (ekS.fown _)) ?_
   refine RW.gh (Gh.expose (b:=4) (j:=1) rfl rfl (by decide) (A1.fown _)) ?_
   refine RW.gh (Gh.expose (b:=4) (j:=3) rfl rfl (by decide) (A9.fown _)) ?_
   refine RW.kp [2,6,24] [(2,.ptr 0 0),(6,.ptr 4 0),(24,.bool true)] [some ⟨[.nils,.nils,.j 0,.nils,.j 0,.j 0,.j 0,.j 0],0⟩,none,none,some ⟨B8 1 2 v2.1,0⟩,some ⟨G7 5 6 7 v3.2,0⟩,some ⟨fl (encS true) v3.2.Disk.Sectors,1⟩,some ⟨fl (A2 true) v3.2.Disk.Cache,2⟩,some ⟨fl (A8 true) v3.2.Used,4⟩] rfl rfl ?_
   refine RW.cond_t rfl (RW.sreg (rl.run 3 rfl (rl.done (RW.ret ?_))))
   cases h6
   exact RRet.mk rfl (OutT.tup (.cons (OutL.agg (.cons (OutR.nil (enc:=encS)) rfl (.cons (OutR.nil (enc:=A2)) rfl (.i (.cons (OutR.nil (enc:=A8)) rfl (.i (.i (.i (.i .nil))))))))) (.cons .bool .nil))) (by first | decide | simp)
  ·have h7:=A4 h5 hb
   refine rl.run 1 rfl (rl.done ?_)
   refine RW.gh (Gh.expose (b:=4) (j:=0) rfl rfl (by decide) (ekS.fown _)) ?_
   refine RW.gh (Gh.expose (b:=4) (j:=1) rfl rfl (by decide) (A1.fown _)) ?_
   refine RW.gh (Gh.expose (b:=4) (j:=3) rfl rfl (by decide) (A9.fown _)) ?_
   refine RW.kp [2,6,24] [(2,.ptr 0 0),(6,.ptr 4 0),(24,.bool false)] [some ⟨[.nils,.nils,.j 0,.nils,.j 0,.j 0,.j 0,.j 0],0⟩,none,none,some ⟨B8 1 2 v2.1,0⟩,some ⟨G7 5 6 7 v3.2,0⟩,some ⟨fl (encS true) v3.2.Disk.Sectors,1⟩,some ⟨fl (A2 true) v3.2.Disk.Cache,2⟩,some ⟨fl (A8 true) v3.2.Used,4⟩] rfl rfl ?_
   refine RW.cond_f rfl (RW.skip ?_)
   refine RW.sdrwF [⟨[.nils,.nils],0⟩] ?_
   refine A0.op rfl rfl (A0.op rfl rfl (A0.op rfl rfl ?_))
   obtain ⟨v4,e4,h8⟩:=A3 h7
   refine A0.call rfl rfl rfl (A7.val (r':=.agg (G6 false v4)) Xo (Ut e4) (.cons (DFL.agg (.cons (.slq ekS rfl rfl) (.cons (.slq A1 rfl rfl) (.cons .int (.cons (.slq A9 rfl rfl) (.cons .int (.cons .int (.cons .int (.cons .int .nil))))))))) .nil) (A3y.flag _).agg ⟨rfl,?_⟩)
   obtain ⟨v5,e5,h9⟩:=A3 h8
   refine A0.ccall rfl rfl rfl (A7.own (r':=.tup [.agg (B8 9 10 v5.1),.bool v5.2]) (H':=[some ⟨[.nils,.nils,.j 0,.nils,.j 0,.j 0,.j 0,.j 0],0⟩,none,none,some ⟨B8 1 2 v2.1,0⟩,some ⟨G7 5 6 7 v3.2,0⟩,some ⟨fl (encS true) v3.2.Disk.Sectors,1⟩,some ⟨fl (A2 true) v3.2.Disk.Cache,2⟩,some ⟨fl (A8 true) v3.2.Used,4⟩,some ⟨[.nils,.nils],0⟩,some ⟨fl (encS true) v5.1.Sectors,1⟩,some ⟨fl (A2 true) v5.1.Cache,2⟩]) Ph (Mj e5) (.cons (DFL.agg (.cons (.slq ekS rfl rfl) (.cons (.slq A1 rfl rfl) .nil))) (.cons (.dat (.agg (A3y.dat false _))) .nil)) (fac (C9.own _) (fac .bool fan)) rfl ?_)
   refine A0.op rfl rfl (A0.op rfl rfl (A0.op rfl rfl ?_))
   refine A0.flt rfl (.cons rfl .nil) ?_
   refine A0.chnB rfl rfl (.here (.rx rfl) (.skip rfl (.skip rfl (.skip rfl (.skip rfl (.skip rfl (.skip rfl .nil))))))) ?_
   refine A0.op rfl rfl (A0.done (RW.seq (RW.sreg (rl.run 2 rfl (rl.done ?_)))))
   refine RW.kp [2,6,7,35] [(2,.ptr 0 0),(6,.ptr 4 0),(7,.ptr 8 0),(35,.bool (!v5.2))] [some ⟨[.nils,.nils,.j 0,.nils,.j 0,.j 0,.j 0,.j 0],0⟩,none,none,some ⟨B8 1 2 v2.1,0⟩,some ⟨G7 5 6 7 v3.2,0⟩,some ⟨fl (encS true) v3.2.Disk.Sectors,1⟩,some ⟨fl (A2 true) v3.2.Disk.Cache,2⟩,some ⟨fl (A8 true) v3.2.Used,4⟩,some ⟨B8 9 10 v5.1,0⟩,some ⟨fl (encS true) v5.1.Sectors,1⟩,some ⟨fl (A2 true) v5.1.Cache,2⟩] rfl rfl ?_
   cases hb : (!v5.2)
   ·have h10:=A5 h9 hb
    refine RW.cond_f rfl (RW.skip (RW.sreg (rl.run 3 rfl (rl.done (RW.sreg (rl.run 2 rfl (rl.done (RW.sreg (rl.run 3 rfl (rl.done (RW.ret ?_)))))))))))
    cases h10
    exact RRet.mk rfl (OutT.tup (.cons (OutL.agg (.cons (OutR.ownq ekS rfl rfl) rfl (.cons (OutR.ownq A1 rfl rfl) rfl (.i (.cons (OutR.ownq A9 rfl rfl) rfl (.i (.i (.i (.i .nil))))))))) (.cons .bool .nil))) (by first | decide | simp)
   ·have h11:=A4 h9 hb
    refine RW.cond_t rfl (RW.sreg (rl.run 3 rfl (rl.done (RW.ret ?_))))
    cases h11
    exact RRet.mk rfl (OutT.tup (.cons (OutL.agg (.cons (OutR.nil (enc:=encS)) rfl (.cons (OutR.nil (enc:=A2)) rfl (.i (.cons (OutR.nil (enc:=A8)) rfl (.i (.i (.i (.i .nil))))))))) (.cons .bool .nil))) (by first | decide | simp)
theorem Cx {x0 : TL01Cur} {x1 : List (List UInt8)} {B0_ o0_ : Nat} {r : (List UInt8) × TL01Cur} (hF : M4 x0 x1 = some r) : C4 Tryz.prog 0 138 [.ptr 0 0,.sl 1 0 x1.length] [some ⟨[pvB B0_ o0_ x0.mB,.j x0.mI,.j x0.mH],0⟩,some ⟨fl (encS true) x1,1⟩] (.str r.1) [some ⟨[pvB B0_ o0_ x0.mB,.j r.2.mI,.j r.2.mH],0⟩,some ⟨fl (encS true) x1,1⟩]:=by
 refine C4.of_s A2f rfl ?_
 unfold M4 at hF
 refine RW.sreg (rl.run 1 rfl (rl.done (RW.sreg (rl.run 4 rfl ?_))))
 obtain ⟨v1,e1,h1⟩:=A3 hF
 refine rl.call rfl rfl rfl (A7.embN (r0:=.j v1.1) (H':=[some ⟨[pvB B0_ o0_ x0.mB,.j v1.2.mI,.j v1.2.mH],0⟩,some ⟨fl (encS true) x1,1⟩]) [⟨[pvB B0_ o0_ x0.mB,.j x0.mI,.j x0.mH],0⟩] [⟨[pvB B0_ o0_ x0.mB,.j v1.2.mI,.j v1.2.mH],0⟩] [] [0] [pvB B0_ o0_ x0.mB] G3 (E1 e1) (.cons rfl (fac (.pv ekB.rlst) (fac .int (fac .int fan))) (fac (.inr (.head _)) (fac (.inl .int) (fac (.inl .int) fan))) .nil) .nil (.blk 0 0 0 0 0 rfl rfl rfl rfl scalB .nil) rfl (.cons (.ptr rfl) (.cons (.dat .int) .nil)) .int rfl ?_)
 obtain ⟨v2,e2,h2⟩:=A3 h1
 refine rl.op (Eo rfl rfl rfl rfl e2) ?_
 refine rl.op (A7v (o:=true) (off':=0) ekS rfl rfl e2 rfl rfl rfl) ?_
 refine rl.run 1 rfl (rl.done (RW.ret ?_))
 cases h2
 exact RRetS.mk rfl .str (Gh.renN [0,1] (.cells rfl rfl .z0 (.same rfl (ekS.fref _ _) .nil)) rfl rfl rfl .nil)
theorem Qi {x0 : TL01Cur} {B0_ o0_ : Nat} {r : (List UInt8) × TL01Cur} (hF : X6 x0 = some r) : C4 Tryz.prog 0 139 [.ptr 0 0] [some ⟨[pvB B0_ o0_ x0.mB,.j x0.mI,.j x0.mH],0⟩] (.str r.1) [some ⟨[pvB B0_ o0_ x0.mB,.j r.2.mI,.j r.2.mH],0⟩]:=by
 refine C4.of_s A19 rfl ?_
 unfold X6 at hF
 refine RW.sreg (rl.run 1 rfl (rl.done (RW.sreg (rl.run 2 rfl ?_))))
 obtain ⟨v1,e1,h1⟩:=A3 hF
 refine rl.call rfl rfl rfl (A7.embN (r0:=.str v1.1) (H':=[some ⟨[pvB B0_ o0_ x0.mB,.j v1.2.mI,.j v1.2.mH],0⟩,some ⟨fl (encS true) [[104,101,108,108,111],[102,114,111,109,58,32,97,110,110,10,10,104,105],[115,117,98,106,101,99,116,58,32,120,10,10,98,111,100,121,32,111,102,32,105,116,10,46,100,111,116,10],[],[120,10,46,46,10]],1⟩]) [⟨[pvB B0_ o0_ x0.mB,.j x0.mI,.j x0.mH],0⟩,⟨fl (encS true) [[104,101,108,108,111],[102,114,111,109,58,32,97,110,110,10,10,104,105],[115,117,98,106,101,99,116,58,32,120,10,10,98,111,100,121,32,111,102,32,105,116,10,46,100,111,116,10],[],[120,10,46,46,10]],1⟩] [⟨[pvB B0_ o0_ x0.mB,.j v1.2.mI,.j v1.2.mH],0⟩,⟨fl (encS true) [[104,101,108,108,111],[102,114,111,109,58,32,97,110,110,10,10,104,105],[115,117,98,106,101,99,116,58,32,120,10,10,98,111,100,121,32,111,102,32,105,116,10,46,100,111,116,10],[],[120,10,46,46,10]],1⟩] [] [0,1] [pvB B0_ o0_ x0.mB] Fi (Cx e1) (.cons rfl (fac (.pv ekB.rlst) (fac .int (fac .int fan))) (fac (.inr (.head _)) (fac (.inl .int) (fac (.inl .int) fan))) (.own rfl (ekS.fref _ _) (ekS.fown _) .nil)) .nil (.blk 0 0 0 0 0 rfl rfl rfl rfl scalB .nil) rfl (.cons (.ptr rfl) (.cons (.slq rfl rfl) .nil)) .str rfl ?_)
 refine rl.run 1 rfl (rl.done (RW.ret ?_))
 cases h1
 exact RRetS.mk rfl .str (Gh.renN [0] (.cells rfl rfl .z0 .nil) rfl rfl rfl .nil)
theorem Kj {x0 : TL01Cur} {x1 : List Int} {B0_ o0_ : Nat} {r : Int × TL01Cur} (hF : Q8 x0 x1 = some r) : C4 Tryz.prog 0 77 [.ptr 0 0,.sl 1 0 x1.length] [some ⟨[pvB B0_ o0_ x0.mB,.j x0.mI,.j x0.mH],0⟩,some ⟨fl (encI true) x1,1⟩] (.j r.1) [some ⟨[pvB B0_ o0_ x0.mB,.j r.2.mI,.j r.2.mH],0⟩,some ⟨fl (encI true) x1,1⟩]:=by
 refine C4.of_s Ra rfl ?_
 unfold Q8 at hF
 refine RW.sreg (rl.run 1 rfl (rl.done (RW.sreg (rl.run 4 rfl ?_))))
 obtain ⟨v1,e1,h1⟩:=A3 hF
 refine rl.call rfl rfl rfl (A7.embN (r0:=.j v1.1) (H':=[some ⟨[pvB B0_ o0_ x0.mB,.j v1.2.mI,.j v1.2.mH],0⟩,some ⟨fl (encI true) x1,1⟩]) [⟨[pvB B0_ o0_ x0.mB,.j x0.mI,.j x0.mH],0⟩] [⟨[pvB B0_ o0_ x0.mB,.j v1.2.mI,.j v1.2.mH],0⟩] [] [0] [pvB B0_ o0_ x0.mB] G3 (E1 e1) (.cons rfl (fac (.pv ekB.rlst) (fac .int (fac .int fan))) (fac (.inr (.head _)) (fac (.inl .int) (fac (.inl .int) fan))) .nil) .nil (.blk 0 0 0 0 0 rfl rfl rfl rfl scalB .nil) rfl (.cons (.ptr rfl) (.cons (.dat .int) .nil)) .int rfl ?_)
 obtain ⟨v2,e2,h2⟩:=A3 h1
 refine rl.op (Eo rfl rfl rfl rfl e2) ?_
 refine rl.op (A7v (o:=true) (off':=0) ekI rfl rfl e2 rfl rfl rfl) ?_
 refine rl.run 1 rfl (rl.done (RW.ret ?_))
 cases h2
 exact RRetS.mk rfl .int (Gh.renN [0,1] (.cells rfl rfl .z0 (.same rfl (ekI.fref _ _) .nil)) rfl rfl rfl .nil)
set_option maxHeartbeats 2000000 in
theorem Ti {x0 : TL01Cur} {B0_ o0_ : Nat} {r : TRec × TL01Cur} (hF : Z6 x0 = some r) : C4 Tryz.prog 0 75 [.ptr 0 0] [some ⟨[pvB B0_ o0_ x0.mB,.j x0.mI,.j x0.mH],0⟩] (.agg (F7 true r.1)) [some ⟨[pvB B0_ o0_ x0.mB,.j r.2.mI,.j r.2.mH],0⟩]:=by
 refine C4.of_s A2v rfl ?_
 unfold Z6 at hF
 refine RW.sreg (rl.run 1 rfl (rl.done (RW.sreg (rl.run 2 rfl ?_))))
 obtain ⟨v1,e1,h1⟩:=A3 hF
 refine rl.call rfl rfl rfl (A7.embN (r0:=.j v1.1) (H':=[some ⟨[pvB B0_ o0_ x0.mB,.j v1.2.mI,.j v1.2.mH],0⟩,some ⟨[.j 0,.j 0,.j 0,.j 0,.j 0,.str [],.str [],.str []],0⟩,some ⟨fl (encI true) ([1,1,2,3,3,3,3,4,4,5,5] : List Int),1⟩]) [⟨[pvB B0_ o0_ x0.mB,.j x0.mI,.j x0.mH],0⟩,⟨fl (encI true) ([1,1,2,3,3,3,3,4,4,5,5] : List Int),1⟩] [⟨[pvB B0_ o0_ x0.mB,.j v1.2.mI,.j v1.2.mH],0⟩,⟨fl (encI true) ([1,1,2,3,3,3,3,4,4,5,5] : List Int),1⟩] [] [0,2] [pvB B0_ o0_ x0.mB] Pc (Kj e1) (.cons rfl (fac (.pv ekB.rlst) (fac .int (fac .int fan))) (fac (.inr (.head _)) (fac (.inl .int) (fac (.inl .int) fan))) (.own rfl (ekI.fref _ _) (ekI.fown _) .nil)) .nil (.blk 0 0 0 0 0 rfl rfl rfl rfl scalB .nil) rfl (.cons (.ptr rfl) (.cons (.slq rfl rfl) .nil)) .int rfl ?_)
 refine rl.run 1 rfl ?_
 obtain ⟨v2,e2,h2⟩:=A3 h1
 refine rl.call rfl rfl rfl (A7.embN (r0:=.j v2.1) (H':=[some ⟨[pvB B0_ o0_ x0.mB,.j v2.2.mI,.j v2.2.mH],0⟩,some ⟨[.j 0,.j 0,.j 0,.j 0,.j 0,.str [],.str [],.str []],0⟩,some ⟨fl (encI true) ([1,1,2,3,3,3,3,4,4,5,5] : List Int),1⟩]) [⟨[pvB B0_ o0_ x0.mB,.j v1.2.mI,.j v1.2.mH],0⟩] [⟨[pvB B0_ o0_ x0.mB,.j v2.2.mI,.j v2.2.mH],0⟩] [] [0] [pvB B0_ o0_ x0.mB] G3 (E1 e2) (.cons rfl (fac (.pv ekB.rlst) (fac .int (fac .int fan))) (fac (.inr (.head _)) (fac (.inl .int) (fac (.inl .int) fan))) .nil) .nil (.blk 0 0 0 0 0 rfl rfl rfl rfl scalB .nil) rfl (.cons (.ptr rfl) (.cons (.dat .int) .nil)) .int rfl ?_)
 refine rl.run 4 rfl (rl.done (RW.seq (RW.sreg (rl.run 2 rfl (rl.done (RW.blk (RW.sreg ?_)))))))
 refine rl.gen rfl rfl fun b hb=>?_
 cases b
 ·have h3:=A5 h2 hb
  refine rl.run 1 rfl (rl.done (RW.cond_f rfl (RW.sreg ?_)))
  refine rl.gen rfl rfl fun b hb=>?_
  cases b
  ·have h4:=A5 h3 hb
   refine rl.run 1 rfl (rl.done ?_)
   refine RW.kp [0,2,3,12,27] [(0,.ptr 0 0),(2,.ptr 1 0),(3,.ptr 3 0),(12,.j v1.1),(27,.bool false)] [some ⟨[pvB B0_ o0_ x0.mB,.j v2.2.mI,.j v2.2.mH],0⟩,some ⟨[.j 0,.j 0,.j 0,.j 0,.j 0,.str [],.str [],.str []],0⟩,some ⟨fl (encI true) ([1,1,2,3,3,3,3,4,4,5,5] : List Int),1⟩,some ⟨[.j v1.1,.j (w64 (1 + v2.1)),.j 0,.j 0,.j 0,.str [],.str [],.str []],0⟩] rfl rfl ?_
   refine RW.cond_f rfl (RW.sreg ?_)
   refine rl.gen rfl rfl fun b hb=>?_
   cases b
   ·have h5:=A5 h4 hb
    refine rl.run 1 rfl (rl.done (RW.cond_f rfl (RW.sreg ?_)))
    refine rl.gen rfl rfl fun b hb=>?_
    cases b
    ·have h6:=A5 h5 hb
     refine rl.run 1 rfl (rl.done (RW.cond_f rfl (RW.skip (RW.sreg (rl.run 2 rfl (rl.done (RW.ret ?_)))))))
     cases h6
     exact RRetS.mk rfl (.agg (Tx _ _)) (Gh.renN [0] (.cells rfl rfl .z0 .nil) rfl rfl rfl .nil)
    ·have h7:=A4 h5 hb
     refine rl.run 1 rfl (rl.done (RW.cond_t rfl (RW.reg (rl.run 1 rfl ?_))))
     obtain ⟨v3,e3,h8⟩:=A3 h7
     refine rl.call rfl rfl rfl (A7.embN (r0:=.j v3.1) (H':=[some ⟨[pvB B0_ o0_ x0.mB,.j v3.2.mI,.j v3.2.mH],0⟩,some ⟨[.j 0,.j 0,.j 0,.j 0,.j 0,.str [],.str [],.str []],0⟩,some ⟨fl (encI true) ([1,1,2,3,3,3,3,4,4,5,5] : List Int),1⟩,some ⟨[.j v1.1,.j (w64 (1 + v2.1)),.j 0,.j 0,.j 0,.str [],.str [],.str []],0⟩]) [⟨[pvB B0_ o0_ x0.mB,.j v2.2.mI,.j v2.2.mH],0⟩] [⟨[pvB B0_ o0_ x0.mB,.j v3.2.mI,.j v3.2.mH],0⟩] [] [0] [pvB B0_ o0_ x0.mB] G3 (E1 e3) (.cons rfl (fac (.pv ekB.rlst) (fac .int (fac .int fan))) (fac (.inr (.head _)) (fac (.inl .int) (fac (.inl .int) fan))) .nil) .nil (.blk 0 0 0 0 0 rfl rfl rfl rfl scalB .nil) rfl (.cons (.ptr rfl) (.cons (.dat .int) .nil)) .int rfl ?_)
     refine rl.run 3 rfl (rl.done (RW.sreg (rl.run 2 rfl (rl.done ?_))))
     refine RW.kp [2] [(2,.ptr 1 0)] [some ⟨[pvB B0_ o0_ x0.mB,.j v3.2.mI,.j v3.2.mH],0⟩,some ⟨[.j v1.1,.j (w64 (1 + v2.1)),.j (w64 (1 + v3.1)),.j 0,.j 0,.str [],.str [],.str []],0⟩,some ⟨fl (encI true) ([1,1,2,3,3,3,3,4,4,5,5] : List Int),1⟩,some ⟨[.j v1.1,.j (w64 (1 + v2.1)),.j (w64 (1 + v3.1)),.j 0,.j 0,.str [],.str [],.str []],0⟩] rfl rfl ?_
     refine RW.ret ?_
     cases h8
     exact RRetS.mk rfl (.agg (Tx _ _)) (Gh.renN [0] (.cells rfl rfl .z0 .nil) rfl rfl rfl .nil)
   ·have h9:=A4 h4 hb
    refine rl.run 1 rfl (rl.done (RW.cond_t rfl (RW.sreg (rl.run 1 rfl ?_))))
    obtain ⟨v4,e4,h10⟩:=A3 h9
    refine rl.call rfl rfl rfl (A7.embN (r0:=.j v4.1) (H':=[some ⟨[pvB B0_ o0_ x0.mB,.j v4.2.mI,.j v4.2.mH],0⟩,some ⟨[.j 0,.j 0,.j 0,.j 0,.j 0,.str [],.str [],.str []],0⟩,some ⟨fl (encI true) ([1,1,2,3,3,3,3,4,4,5,5] : List Int),1⟩,some ⟨[.j v1.1,.j (w64 (1 + v2.1)),.j 0,.j 0,.j 0,.str [],.str [],.str []],0⟩]) [⟨[pvB B0_ o0_ x0.mB,.j v2.2.mI,.j v2.2.mH],0⟩] [⟨[pvB B0_ o0_ x0.mB,.j v4.2.mI,.j v4.2.mH],0⟩] [] [0] [pvB B0_ o0_ x0.mB] G3 (E1 e4) (.cons rfl (fac (.pv ekB.rlst) (fac .int (fac .int fan))) (fac (.inr (.head _)) (fac (.inl .int) (fac (.inl .int) fan))) .nil) .nil (.blk 0 0 0 0 0 rfl rfl rfl rfl scalB .nil) rfl (.cons (.ptr rfl) (.cons (.dat .int) .nil)) .int rfl ?_)
    refine rl.run 3 rfl (rl.done (RW.reg (rl.run 1 rfl ?_)))
    obtain ⟨v5,e5,h11⟩:=A3 h10
    refine rl.call rfl rfl rfl (A7.embN (r0:=.j v5.1) (H':=[some ⟨[pvB B0_ o0_ x0.mB,.j v5.2.mI,.j v5.2.mH],0⟩,some ⟨[.j 0,.j 0,.j 0,.j 0,.j 0,.str [],.str [],.str []],0⟩,some ⟨fl (encI true) ([1,1,2,3,3,3,3,4,4,5,5] : List Int),1⟩,some ⟨[.j v1.1,.j (w64 (1 + v2.1)),.j (w64 (1 + v4.1)),.j 0,.j 0,.str [],.str [],.str []],0⟩]) [⟨[pvB B0_ o0_ x0.mB,.j v4.2.mI,.j v4.2.mH],0⟩] [⟨[pvB B0_ o0_ x0.mB,.j v5.2.mI,.j v5.2.mH],0⟩] [] [0] [pvB B0_ o0_ x0.mB] G3 (E1 e5) (.cons rfl (fac (.pv ekB.rlst) (fac .int (fac .int fan))) (fac (.inr (.head _)) (fac (.inl .int) (fac (.inl .int) fan))) .nil) .nil (.blk 0 0 0 0 0 rfl rfl rfl rfl scalB .nil) rfl (.cons (.ptr rfl) (.cons (.dat .int) .nil)) .int rfl ?_)
    refine rl.run 2 rfl (rl.done (RW.sreg (rl.run 2 rfl (rl.done ?_))))
    refine RW.kp [2] [(2,.ptr 1 0)] [some ⟨[pvB B0_ o0_ x0.mB,.j v5.2.mI,.j v5.2.mH],0⟩,some ⟨[.j v1.1,.j (w64 (1 + v2.1)),.j (w64 (1 + v4.1)),.j 0,.j v5.1,.str [],.str [],.str []],0⟩,some ⟨fl (encI true) ([1,1,2,3,3,3,3,4,4,5,5] : List Int),1⟩,some ⟨[.j v1.1,.j (w64 (1 + v2.1)),.j (w64 (1 + v4.1)),.j 0,.j v5.1,.str [],.str [],.str []],0⟩] rfl rfl ?_
    refine RW.ret ?_
    cases h11
    exact RRetS.mk rfl (.agg (Tx _ _)) (Gh.renN [0] (.cells rfl rfl .z0 .nil) rfl rfl rfl .nil)
  ·have h12:=A4 h3 hb
   refine rl.run 1 rfl (rl.done ?_)
   refine RW.kp [0,2,3,12,27] [(0,.ptr 0 0),(2,.ptr 1 0),(3,.ptr 3 0),(12,.j v1.1),(27,.bool true)] [some ⟨[pvB B0_ o0_ x0.mB,.j v2.2.mI,.j v2.2.mH],0⟩,some ⟨[.j 0,.j 0,.j 0,.j 0,.j 0,.str [],.str [],.str []],0⟩,some ⟨fl (encI true) ([1,1,2,3,3,3,3,4,4,5,5] : List Int),1⟩,some ⟨[.j v1.1,.j (w64 (1 + v2.1)),.j 0,.j 0,.j 0,.str [],.str [],.str []],0⟩] rfl rfl ?_
   refine RW.cond_t rfl (RW.sreg (rl.run 1 rfl ?_))
   obtain ⟨v6,e6,h13⟩:=A3 h12
   refine rl.call rfl rfl rfl (A7.embN (r0:=.j v6.1) (H':=[some ⟨[pvB B0_ o0_ x0.mB,.j v6.2.mI,.j v6.2.mH],0⟩,some ⟨[.j 0,.j 0,.j 0,.j 0,.j 0,.str [],.str [],.str []],0⟩,some ⟨fl (encI true) ([1,1,2,3,3,3,3,4,4,5,5] : List Int),1⟩,some ⟨[.j v1.1,.j (w64 (1 + v2.1)),.j 0,.j 0,.j 0,.str [],.str [],.str []],0⟩]) [⟨[pvB B0_ o0_ x0.mB,.j v2.2.mI,.j v2.2.mH],0⟩] [⟨[pvB B0_ o0_ x0.mB,.j v6.2.mI,.j v6.2.mH],0⟩] [] [0] [pvB B0_ o0_ x0.mB] G3 (E1 e6) (.cons rfl (fac (.pv ekB.rlst) (fac .int (fac .int fan))) (fac (.inr (.head _)) (fac (.inl .int) (fac (.inl .int) fan))) .nil) .nil (.blk 0 0 0 0 0 rfl rfl rfl rfl scalB .nil) rfl (.cons (.ptr rfl) (.cons (.dat .int) .nil)) .int rfl ?_)
   refine rl.run 3 rfl (rl.done (RW.sreg (rl.run 1 rfl ?_)))
   obtain ⟨v7,e7,h14⟩:=A3 h13
   refine rl.call rfl rfl rfl (A7.embN (r0:=.j v7.1) (H':=[some ⟨[pvB B0_ o0_ x0.mB,.j v7.2.mI,.j v7.2.mH],0⟩,some ⟨[.j 0,.j 0,.j 0,.j 0,.j 0,.str [],.str [],.str []],0⟩,some ⟨fl (encI true) ([1,1,2,3,3,3,3,4,4,5,5] : List Int),1⟩,some ⟨[.j v1.1,.j (w64 (1 + v2.1)),.j (w64 (1 + v6.1)),.j 0,.j 0,.str [],.str [],.str []],0⟩]) [⟨[pvB B0_ o0_ x0.mB,.j v6.2.mI,.j v6.2.mH],0⟩] [⟨[pvB B0_ o0_ x0.mB,.j v7.2.mI,.j v7.2.mH],0⟩] [] [0] [pvB B0_ o0_ x0.mB] G3 (E1 e7) (.cons rfl (fac (.pv ekB.rlst) (fac .int (fac .int fan))) (fac (.inr (.head _)) (fac (.inl .int) (fac (.inl .int) fan))) .nil) .nil (.blk 0 0 0 0 0 rfl rfl rfl rfl scalB .nil) rfl (.cons (.ptr rfl) (.cons (.dat .int) .nil)) .int rfl ?_)
   refine rl.run 2 rfl (rl.done (RW.reg (rl.run 1 rfl ?_)))
   obtain ⟨v8,e8,h15⟩:=A3 h14
   refine rl.call rfl rfl rfl (A7.embN (r0:=.str v8.1) (H':=[some ⟨[pvB B0_ o0_ x0.mB,.j v8.2.mI,.j v8.2.mH],0⟩,some ⟨[.j 0,.j 0,.j 0,.j 0,.j 0,.str [],.str [],.str []],0⟩,some ⟨fl (encI true) ([1,1,2,3,3,3,3,4,4,5,5] : List Int),1⟩,some ⟨[.j v1.1,.j (w64 (1 + v2.1)),.j (w64 (1 + v6.1)),.j 0,.j v7.1,.str [],.str [],.str []],0⟩]) [⟨[pvB B0_ o0_ x0.mB,.j v7.2.mI,.j v7.2.mH],0⟩] [⟨[pvB B0_ o0_ x0.mB,.j v8.2.mI,.j v8.2.mH],0⟩] [] [0] [pvB B0_ o0_ x0.mB] Xt (Qi e8) (.cons rfl (fac (.pv ekB.rlst) (fac .int (fac .int fan))) (fac (.inr (.head _)) (fac (.inl .int) (fac (.inl .int) fan))) .nil) .nil (.blk 0 0 0 0 0 rfl rfl rfl rfl scalB .nil) rfl (.cons (.ptr rfl) .nil) .str rfl ?_)
   refine rl.run 2 rfl (rl.done (RW.sreg (rl.run 2 rfl (rl.done ?_))))
   refine RW.kp [2] [(2,.ptr 1 0)] [some ⟨[pvB B0_ o0_ x0.mB,.j v8.2.mI,.j v8.2.mH],0⟩,some ⟨[.j v1.1,.j (w64 (1 + v2.1)),.j (w64 (1 + v6.1)),.j 0,.j v7.1,.str [],.str [],.str v8.1],0⟩,some ⟨fl (encI true) ([1,1,2,3,3,3,3,4,4,5,5] : List Int),1⟩,some ⟨[.j v1.1,.j (w64 (1 + v2.1)),.j (w64 (1 + v6.1)),.j 0,.j v7.1,.str [],.str [],.str v8.1],0⟩] rfl rfl ?_
   refine RW.ret ?_
   cases h15
   exact RRetS.mk rfl (.agg (Tx _ _)) (Gh.renN [0] (.cells rfl rfl .z0 .nil) rfl rfl rfl .nil)
 ·have h16:=A4 h2 hb
  refine rl.run 1 rfl (rl.done (RW.cond_t rfl (RW.sreg (rl.run 2 rfl ?_))))
  obtain ⟨v9,e9,h17⟩:=A3 h16
  refine rl.call rfl rfl rfl (A7.embN (r0:=.str v9.1) (H':=[some ⟨[pvB B0_ o0_ x0.mB,.j v9.2.mI,.j v9.2.mH],0⟩,some ⟨[.j 0,.j 0,.j 0,.j 0,.j 0,.str [],.str [],.str []],0⟩,some ⟨fl (encI true) ([1,1,2,3,3,3,3,4,4,5,5] : List Int),1⟩,some ⟨[.j v1.1,.j (w64 (1 + v2.1)),.j 0,.j 0,.j 0,.str [],.str [],.str []],0⟩,some ⟨fl (encS true) [[97,110,110],[98,111,98]],1⟩]) [⟨[pvB B0_ o0_ x0.mB,.j v2.2.mI,.j v2.2.mH],0⟩,⟨fl (encS true) [[97,110,110],[98,111,98]],1⟩] [⟨[pvB B0_ o0_ x0.mB,.j v9.2.mI,.j v9.2.mH],0⟩,⟨fl (encS true) [[97,110,110],[98,111,98]],1⟩] [] [0,4] [pvB B0_ o0_ x0.mB] Fi (Cx e9) (.cons rfl (fac (.pv ekB.rlst) (fac .int (fac .int fan))) (fac (.inr (.head _)) (fac (.inl .int) (fac (.inl .int) fan))) (.own rfl (ekS.fref _ _) (ekS.fown _) .nil)) .nil (.blk 0 0 0 0 0 rfl rfl rfl rfl scalB .nil) rfl (.cons (.ptr rfl) (.cons (.slq rfl rfl) .nil)) .str rfl ?_)
  refine rl.run 2 rfl (rl.done ?_)
  refine RW.kp [0,2,3] [(0,.ptr 0 0),(2,.ptr 1 0),(3,.ptr 3 0)] [some ⟨[pvB B0_ o0_ x0.mB,.j v9.2.mI,.j v9.2.mH],0⟩,some ⟨[.j 0,.j 0,.j 0,.j 0,.j 0,.str [],.str [],.str []],0⟩,some ⟨fl (encI true) ([1,1,2,3,3,3,3,4,4,5,5] : List Int),1⟩,some ⟨[.j v1.1,.j (w64 (1 + v2.1)),.j 0,.j 0,.j 0,.str v9.1,.str [],.str []],0⟩,some ⟨fl (encS true) [[97,110,110],[98,111,98]],1⟩] rfl rfl ?_
  refine RW.sreg (rl.run 2 rfl ?_)
  obtain ⟨v10,e10,h18⟩:=A3 h17
  refine rl.call rfl rfl rfl (A7.embN (r0:=.str v10.1) (H':=[some ⟨[pvB B0_ o0_ x0.mB,.j v10.2.mI,.j v10.2.mH],0⟩,some ⟨[.j 0,.j 0,.j 0,.j 0,.j 0,.str [],.str [],.str []],0⟩,some ⟨fl (encI true) ([1,1,2,3,3,3,3,4,4,5,5] : List Int),1⟩,some ⟨[.j v1.1,.j (w64 (1 + v2.1)),.j 0,.j 0,.j 0,.str v9.1,.str [],.str []],0⟩,some ⟨fl (encS true) [[97,110,110],[98,111,98]],1⟩,some ⟨fl (encS true) [[105,110,98,111,120],[119,111,114,107]],1⟩]) [⟨[pvB B0_ o0_ x0.mB,.j v9.2.mI,.j v9.2.mH],0⟩,⟨fl (encS true) [[105,110,98,111,120],[119,111,114,107]],1⟩] [⟨[pvB B0_ o0_ x0.mB,.j v10.2.mI,.j v10.2.mH],0⟩,⟨fl (encS true) [[105,110,98,111,120],[119,111,114,107]],1⟩] [] [0,5] [pvB B0_ o0_ x0.mB] Fi (Cx e10) (.cons rfl (fac (.pv ekB.rlst) (fac .int (fac .int fan))) (fac (.inr (.head _)) (fac (.inl .int) (fac (.inl .int) fan))) (.own rfl (ekS.fref _ _) (ekS.fown _) .nil)) .nil (.blk 0 0 0 0 0 rfl rfl rfl rfl scalB .nil) rfl (.cons (.ptr rfl) (.cons (.slq rfl rfl) .nil)) .str rfl ?_)
  refine rl.run 2 rfl (rl.done (RW.reg (rl.run 1 rfl ?_)))
  obtain ⟨v11,e11,h19⟩:=A3 h18
  refine rl.call rfl rfl rfl (A7.embN (r0:=.j v11.1) (H':=[some ⟨[pvB B0_ o0_ x0.mB,.j v11.2.mI,.j v11.2.mH],0⟩,some ⟨[.j 0,.j 0,.j 0,.j 0,.j 0,.str [],.str [],.str []],0⟩,some ⟨fl (encI true) ([1,1,2,3,3,3,3,4,4,5,5] : List Int),1⟩,some ⟨[.j v1.1,.j (w64 (1 + v2.1)),.j 0,.j 0,.j 0,.str v9.1,.str v10.1,.str []],0⟩,some ⟨fl (encS true) [[97,110,110],[98,111,98]],1⟩,some ⟨fl (encS true) [[105,110,98,111,120],[119,111,114,107]],1⟩]) [⟨[pvB B0_ o0_ x0.mB,.j v10.2.mI,.j v10.2.mH],0⟩] [⟨[pvB B0_ o0_ x0.mB,.j v11.2.mI,.j v11.2.mH],0⟩] [] [0] [pvB B0_ o0_ x0.mB] G3 (E1 e11) (.cons rfl (fac (.pv ekB.rlst) (fac .int (fac .int fan))) (fac (.inr (.head _)) (fac (.inl .int) (fac (.inl .int) fan))) .nil) .nil (.blk 0 0 0 0 0 rfl rfl rfl rfl scalB .nil) rfl (.cons (.ptr rfl) (.cons (.dat .int) .nil)) .int rfl ?_)
  refine rl.run 3 rfl (rl.done (RW.sreg (rl.run 2 rfl (rl.done ?_))))
  refine RW.kp [2] [(2,.ptr 1 0)] [some ⟨[pvB B0_ o0_ x0.mB,.j v11.2.mI,.j v11.2.mH],0⟩,some ⟨[.j v1.1,.j (w64 (1 + v2.1)),.j 0,.j (w64 (1 + v11.1)),.j 0,.str v9.1,.str v10.1,.str []],0⟩,some ⟨fl (encI true) ([1,1,2,3,3,3,3,4,4,5,5] : List Int),1⟩,some ⟨[.j v1.1,.j (w64 (1 + v2.1)),.j 0,.j (w64 (1 + v11.1)),.j 0,.str v9.1,.str v10.1,.str []],0⟩,some ⟨fl (encS true) [[97,110,110],[98,111,98]],1⟩,some ⟨fl (encS true) [[105,110,98,111,120],[119,111,114,107]],1⟩] rfl rfl ?_
  refine RW.ret ?_
  cases h19
  exact RRetS.mk rfl (.agg (Tx _ _)) (Gh.renN [0] (.cells rfl rfl .z0 .nil) rfl rfl rfl .nil)
theorem Uv {x0 : TLog} {x1 : TItem} {r : Bool} (hF : W8 x0 x1 = some r) : B3 Tryz.prog 86 [.agg (B5 false x0),.agg (B2 false x1)] (.bool r):=by
 refine B3.of_r A0b rfl ?_
 unfold W8 at hF
 refine RW.sreg (rl.run 3 rfl (rl.done (RW.sreg (rl.run 1 rfl ?_))))
 obtain ⟨v1,e1,h1⟩:=A3 hF
 refine rl.call rfl rfl rfl (A7.val (r':=J9 v1) Ka (Jb e1) (.cons (DFL.agg (.cons (.lst ekS) (.cons (.lst A1) (.cons .int (.cons (.lst A9) (.cons .int (.cons .int (.cons .int (.cons .int .nil))))))))) .nil) (B4.fflag _).lst ?_)
 refine rl.run 1 rfl (rl.done (RW.seq (RW.sreg (rl.run 1 rfl (rl.done ?_)))))
 obtain ⟨y7,ey7,h3⟩:=A3 h1
 refine RW.cutq (σ:=Unit) (fun y3=>[(5,J9 v1)]) (fun y3=>[]) (fun y=>y7 = .inr y) (fun _ _ _ _ g h=>RW.gh g h) ?_ ?_
 ·refine RW.blk ?_
  refine RW.iter (σ:=Int) ey7 (fun s2=>[(3,.ptr 0 0),(5,J9 v1),(6,.j s2)]) (fun s2=>[some ⟨B2 false x1,0⟩]) (Gh.ren0 [1] (.cells rfl rfl .z7 .nil) rfl (.p rfl rfl (.cons rfl (.dat (B4.rlst)) (.i rfl .nil)))) (fun s2 B o hS2 hB2 hE2=>?_)
  unfold W2 at hS2
  refine RW.seq (RW.sreg (rl.run 3 rfl ?_))
  refine rl.gen rfl rfl fun b hb=>?_
  cases b
  ·have h4:=A5 hS2 hb
   refine rl.done (RW.cond_f rfl (RW.exit (D0 ?_)))
   cases h4
   exact ⟨_,(hE2 _ rfl).symm,(Gh.ren0 [] .nil rfl (.cons rfl (.dat (B4.rlst)) .nil))⟩
  ·have h5:=A4 hS2 hb
   refine rl.done (RW.cond_t rfl (RW.skip (RW.seq (RW.blk (RW.seq ?_)))))
   obtain ⟨y4,ey4,h6⟩:=A3 h5
   refine RW.cutq (σ:=Bool) (fun y4=>[(3,.ptr 0 0),(5,J9 v1),(6,.j s2),(30,.bool y4)]) (fun y4=>[some ⟨B2 false x1,0⟩]) (fun y=>y4 = y) (fun _ _ _ _ g h=>RW.gh g h) ?_ ?_
   ·refine RW.drw ?_
    refine A0.op rfl rfl (A0.op rfl rfl ?_)
    obtain ⟨v5,e5,h7⟩:=A3 ey4
    refine A0.op rfl (C1 (enc:=B2) (o:=false) rfl rfl rfl e5) ?_
    refine A0.op rfl rfl ?_
    refine A0.op rfl (G5 (off':=0) B4 rfl e5 rfl rfl rfl) ?_
    refine A0.op rfl rfl (A0.op rfl rfl ?_)
    refine A0.gen rfl rfl fun b hb=>?_
    cases b
    ·have h8:=A5 h7 hb
     refine A0.op rfl rfl (A0.off rfl (A0.off rfl (A0.off rfl (A0.off rfl (A0.off rfl (A0.off rfl (A0.op rfl rfl (A0.done ?_))))))))
     cases h8
     exact ⟨_,rfl,(Gh.ren0 [0] (.cells rfl rfl .z7 .nil) rfl (.p rfl rfl (.cons rfl (.dat (B4.rlst)) (.i rfl (.b rfl .nil)))))⟩
    ·have h9:=A4 h7 hb
     refine A0.op rfl rfl (A0.op rfl rfl (A0.op rfl rfl ?_))
     obtain ⟨v6,e6,h10⟩:=A3 h9
     refine A0.op rfl (C1 (enc:=B2) (o:=false) rfl rfl rfl e6) ?_
     refine A0.op rfl (K5 (off':=0) (vs:=(B2 false v6)) B4 rfl e6 rfl rfl rfl) ?_
     refine A0.op rfl rfl ?_
     refine A0.gen rfl rfl fun b hb=>?_
     cases b
     ·have h11:=A5 h10 hb
      refine A0.op rfl rfl (A0.done ?_)
      cases h11
      exact ⟨_,rfl,(Gh.ren0 [0] (.cells rfl rfl .z7 .nil) rfl (.p rfl rfl (.cons rfl (.dat (B4.rlst)) (.i rfl (.b rfl .nil)))))⟩
     ·have h12:=A4 h10 hb
      refine A0.op rfl rfl (A0.done ?_)
      cases h12
      exact ⟨_,rfl,(Gh.ren0 [0] (.cells rfl rfl .z7 .nil) rfl (.p rfl rfl (.cons rfl (.dat (B4.rlst)) (.i rfl (.b rfl .nil)))))⟩
   ·intro y hC
    subst hC
    cases hb : y4
    ·have h13:=A5 h6 hb
     refine RW.cond_f rfl (RW.skip (RW.reg (rl.run 3 rfl (rl.done ?_))))
     cases h13
     exact hB2 _ rfl _ _ (Gh.ren0 [0] (.cells rfl rfl .z7 .nil) rfl (.p rfl rfl (.cons rfl (.dat (B4.rlst)) (.i rfl .nil))))
    ·have h14:=A4 h6 hb
     refine RW.cond_t rfl (RW.sreg (rl.run 1 rfl (rl.done (RW.ret ?_))))
     cases h14
     have h15:=elimL h3 (hE2 _ rfl)
     cases h15
     exact RRet.mk rfl .bool (by first | decide | simp)
 ·intro y3 hC
  have h3:=elimR h3 hC
  refine RW.sreg (rl.run 4 rfl (rl.done (RW.ret ?_)))
  cases h3
  exact RRet.mk rfl .bool (by first | decide | simp)
theorem Jx {x0 : List UInt8} {r : Bool} (hF : Ac x0 = some r) : B3 Tryz.prog 176 [.str x0] (.bool r):=by
 refine B3.of_r A2u rfl ?_
 unfold Ac at hF
 refine RW.sreg (rl.run 1 rfl (rl.done (RW.seq (RW.sreg (rl.run 1 rfl (rl.done ?_))))))
 obtain ⟨y6,ey6,h2⟩:=A3 hF
 refine RW.cutq (σ:=Unit) (fun y2=>[(0,.str x0)]) (fun y2=>[]) (fun y=>y6 = .inr y) (fun _ _ _ _ g h=>RW.gh g h) ?_ ?_
 ·refine RW.blk ?_
  refine RW.iter (σ:=Int) ey6 (fun s1=>[(0,.str x0),(3,.j s1)]) (fun s1=>[]) (Gh.ren0 [] .nil rfl (.s rfl (.i rfl .nil))) (fun s1 B o hS1 hB1 hE1=>?_)
  unfold T6 at hS1
  refine RW.seq (RW.sreg (rl.run 3 rfl ?_))
  refine rl.gen rfl rfl fun b hb=>?_
  cases b
  ·have h3:=A5 hS1 hb
   refine rl.done (RW.cond_f rfl (RW.exit (D0 ?_)))
   cases h3
   exact ⟨_,(hE1 _ rfl).symm,(Gh.ren0 [] .nil rfl (.s rfl .nil))⟩
  ·have h4:=A4 hS1 hb
   refine rl.done (RW.cond_t rfl (RW.skip (RW.seq (RW.blk (RW.seq ?_)))))
   obtain ⟨y3,ey3,h5⟩:=A3 h4
   refine RW.cutq (σ:=Bool) (fun y3=>[(0,.str x0),(3,.j s1),(19,.bool y3)]) (fun y3=>[]) (fun y=>y3 = y) (fun _ _ _ _ g h=>RW.gh g h) ?_ ?_
   ·refine RW.reg ?_
    refine rl.run 2 rfl ?_
    obtain ⟨v4,e4,h6⟩:=A3 ey3
    refine rl.op (Xa rfl rfl e4) ?_
    refine rl.gen rfl rfl fun b hb=>?_
    cases b
    ·have h7:=A5 h6 hb
     refine rl.run 3 rfl ?_
     obtain ⟨v5,e5,h8⟩:=A3 h7
     refine rl.gop rfl (Xa rfl rfl e5) ?_
     refine rl.gen rfl rfl fun b hb=>?_
     cases b
     ·have h9:=A5 h8 hb
      refine rl.run 1 rfl (rl.done ?_)
      cases h9
      exact ⟨_,rfl,(Gh.ren0 [] .nil rfl (.s rfl (.i rfl (.b rfl .nil))))⟩
     ·have h10:=A4 h8 hb
      refine rl.run 1 rfl (rl.done ?_)
      cases h10
      exact ⟨_,rfl,(Gh.ren0 [] .nil rfl (.s rfl (.i rfl (.b rfl .nil))))⟩
    ·have h11:=A4 h6 hb
     refine rl.run 6 rfl (rl.done ?_)
     cases h11
     exact ⟨_,rfl,(Gh.ren0 [] .nil rfl (.s rfl (.i rfl (.b rfl .nil))))⟩
   ·intro y hC
    subst hC
    cases hb : y3
    ·have h12:=A5 h5 hb
     refine RW.cond_f rfl (RW.skip (RW.reg (rl.run 3 rfl (rl.done ?_))))
     cases h12
     exact hB1 _ rfl _ _ (Gh.ren0 [] .nil rfl (.s rfl (.i rfl .nil)))
    ·have h13:=A4 h5 hb
     refine RW.cond_t rfl (RW.sreg (rl.run 1 rfl (rl.done (RW.ret ?_))))
     cases h13
     have h14:=elimL h2 (hE1 _ rfl)
     cases h14
     exact RRet.mk rfl .bool (by first | decide | simp)
 ·intro y2 hC
  have h2:=elimR h2 hC
  refine RW.sreg (rl.run 2 rfl ?_)
  obtain ⟨v7,e7,h15⟩:=A3 h2
  refine rl.call rfl rfl rfl (A7.val (r':=.bool v7) C2 (C0 e7) (.cons .int (.cons .int (.cons .int .nil))) .refl ?_)
  refine rl.run 1 rfl (rl.done (RW.ret ?_))
  cases h15
  exact RRet.mk rfl .bool (by first | decide | simp)
set_option maxHeartbeats 2000000 in
theorem A2s {x0 : TRec} {r : Bool} (hF : Bo x0 = some r) : B3 Tryz.prog 151 [.agg (F7 false x0)] (.bool r):=by
 refine B3.of_r A4h rfl ?_
 unfold Bo at hF
 refine RW.sreg (rl.run 2 rfl (rl.done (RW.seq (RW.seq ?_))))
 obtain ⟨y1,ey1,h1⟩:=A3 hF
 refine RW.cutq (σ:=Bool) (fun y1=>[(1,.ptr 0 0),(15,.bool y1)]) (fun y1=>[some ⟨F7 false x0,0⟩]) (fun y=>y1 = y) (fun _ _ _ _ g h=>RW.gh g h) ?_ ?_
 ·refine RW.reg ?_
  refine rl.run 2 rfl ?_
  obtain ⟨v2,e2,h2⟩:=A3 ey1
  refine rl.call rfl rfl rfl (A7.val (r':=.bool v2) C2 (C0 e2) (.cons .int (.cons .int (.cons .int .nil))) .refl ?_)
  cases hb : v2
  ·have h3:=A5 h2 hb
   refine rl.run 7 rfl (rl.done ?_)
   cases h3
   exact ⟨_,rfl,(Gh.ren0 [0] (.cells rfl rfl .z6 .nil) rfl (.p rfl rfl (.b rfl .nil)))⟩
  ·have h4:=A4 h2 hb
   refine rl.run 4 rfl ?_
   obtain ⟨v3,e3,h5⟩:=A3 h4
   refine rl.call rfl rfl rfl (A7.val (r':=.bool v3) C2 (C0 e3) (.cons .int (.cons .int (.cons .int .nil))) .refl ?_)
   cases hb : v3
   ·have h6:=A5 h5 hb
    refine rl.run 2 rfl (rl.done ?_)
    cases h6
    exact ⟨_,rfl,(Gh.ren0 [0] (.cells rfl rfl .z6 .nil) rfl (.p rfl rfl (.b rfl .nil)))⟩
   ·have h7:=A4 h5 hb
    refine rl.run 2 rfl (rl.done ?_)
    cases h7
    exact ⟨_,rfl,(Gh.ren0 [0] (.cells rfl rfl .z6 .nil) rfl (.p rfl rfl (.b rfl .nil)))⟩
 ·intro y hC
  subst hC
  cases hb : y1
  ·have h8:=A5 h1 hb
   refine RW.cond_f rfl (RW.skip (RW.sreg (rl.run 2 rfl ?_)))
   refine rl.gen rfl rfl fun b hb=>?_
   cases b
   ·have h9:=A5 h8 hb
    refine rl.run 1 rfl (rl.done (RW.seq ?_))
    obtain ⟨y4,ey4,h10⟩:=A3 h9
    refine RW.cutq (σ:=Bool) (fun y4=>[(1,.ptr 0 0),(3,.bool false),(4,.bool y4)]) (fun y4=>[some ⟨F7 false x0,0⟩]) (fun y=>y4 = y) (fun _ _ _ _ g h=>RW.gh g h) ?_ ?_
    ·refine RW.reg ?_
     refine rl.run 2 rfl ?_
     refine rl.gen rfl rfl fun b hb=>?_
     cases b
     ·have h11:=A5 ey4 hb
      refine rl.run 3 rfl ?_
      refine rl.gen rfl rfl fun b hb=>?_
      cases b
      ·have h12:=A5 h11 hb
       refine rl.run 4 rfl ?_
       refine rl.gen rfl rfl fun b hb=>?_
       cases b
       ·have h13:=A5 h12 hb
        refine rl.run 2 rfl (rl.done ?_)
        cases h13
        exact ⟨_,rfl,(Gh.ren0 [0] (.cells rfl rfl .z6 .nil) rfl (.p rfl rfl (.b rfl (.b rfl .nil))))⟩
       ·have h14:=A4 h12 hb
        refine rl.run 2 rfl (rl.done ?_)
        cases h14
        exact ⟨_,rfl,(Gh.ren0 [0] (.cells rfl rfl .z6 .nil) rfl (.p rfl rfl (.b rfl (.b rfl .nil))))⟩
      ·have h15:=A4 h11 hb
       refine rl.run 7 rfl (rl.done ?_)
       cases h15
       exact ⟨_,rfl,(Gh.ren0 [0] (.cells rfl rfl .z6 .nil) rfl (.p rfl rfl (.b rfl (.b rfl .nil))))⟩
     ·have h16:=A4 ey4 hb
      refine rl.run 11 rfl (rl.done ?_)
      cases h16
      exact ⟨_,rfl,(Gh.ren0 [0] (.cells rfl rfl .z6 .nil) rfl (.p rfl rfl (.b rfl (.b rfl .nil))))⟩
    ·intro y hC
     subst hC
     refine RW.seq ?_
     obtain ⟨y5,ey5,h17⟩:=A3 h10
     refine RW.cutq (σ:=Bool) (fun y5=>[(1,.ptr 0 0),(3,.bool false),(4,.bool y4),(5,.bool y5)]) (fun y5=>[some ⟨F7 false x0,0⟩]) (fun y=>y5 = y) (fun _ _ _ _ g h=>RW.gh g h) ?_ ?_
     ·refine RW.reg ?_
      refine rl.run 2 rfl ?_
      refine rl.gen rfl rfl fun b hb=>?_
      cases b
      ·have h18:=A5 ey5 hb
       refine rl.run 3 rfl ?_
       refine rl.gen rfl rfl fun b hb=>?_
       cases b
       ·have h19:=A5 h18 hb
        refine rl.run 2 rfl (rl.done ?_)
        cases h19
        exact ⟨_,rfl,(Gh.ren0 [0] (.cells rfl rfl .z6 .nil) rfl (.p rfl rfl (.b rfl (.b rfl (.b rfl .nil)))))⟩
       ·have h20:=A4 h18 hb
        refine rl.run 2 rfl (rl.done ?_)
        cases h20
        exact ⟨_,rfl,(Gh.ren0 [0] (.cells rfl rfl .z6 .nil) rfl (.p rfl rfl (.b rfl (.b rfl (.b rfl .nil)))))⟩
      ·have h21:=A4 ey5 hb
       refine rl.run 6 rfl (rl.done ?_)
       cases h21
       exact ⟨_,rfl,(Gh.ren0 [0] (.cells rfl rfl .z6 .nil) rfl (.p rfl rfl (.b rfl (.b rfl (.b rfl .nil)))))⟩
     ·intro y hC
      subst hC
      refine RW.seq (RW.seq ?_)
      obtain ⟨y6,ey6,h22⟩:=A3 h17
      refine RW.cutq (σ:=Bool) (fun y6=>[(1,.ptr 0 0),(4,.bool y4),(5,.bool y5),(77,.bool y6)]) (fun y6=>[some ⟨F7 false x0,0⟩]) (fun y=>y6 = y) (fun _ _ _ _ g h=>RW.gh g h) ?_ ?_
      ·refine RW.reg ?_
       refine rl.run 25 rfl ?_
       refine rl.gen rfl rfl fun b hb=>?_
       cases b
       ·have h23:=A5 ey6 hb
        refine rl.run 3 rfl ?_
        refine rl.gen rfl rfl fun b hb=>?_
        cases b
        ·have h24:=A5 h23 hb
         refine rl.run 4 rfl ?_
         refine rl.gen rfl rfl fun b hb=>?_
         cases b
         ·have h25:=A5 h24 hb
          refine rl.run 3 rfl (rl.done ?_)
          cases h25
          exact ⟨_,rfl,(Gh.ren0 [0] (.cells rfl rfl .z6 .nil) rfl (.p rfl rfl (.b rfl (.b rfl (.b rfl .nil)))))⟩
         ·have h26:=A4 h24 hb
          refine rl.run 3 rfl (rl.done ?_)
          cases h26
          exact ⟨_,rfl,(Gh.ren0 [0] (.cells rfl rfl .z6 .nil) rfl (.p rfl rfl (.b rfl (.b rfl (.b rfl .nil)))))⟩
        ·have h27:=A4 h23 hb
         refine rl.run 8 rfl (rl.done ?_)
         cases h27
         exact ⟨_,rfl,(Gh.ren0 [0] (.cells rfl rfl .z6 .nil) rfl (.p rfl rfl (.b rfl (.b rfl (.b rfl .nil)))))⟩
       ·have h28:=A4 ey6 hb
        refine rl.run 12 rfl (rl.done ?_)
        cases h28
        exact ⟨_,rfl,(Gh.ren0 [0] (.cells rfl rfl .z6 .nil) rfl (.p rfl rfl (.b rfl (.b rfl (.b rfl .nil)))))⟩
      ·intro y hC
       subst hC
       cases hb : y6
       ·have h29:=A5 h22 hb
        refine RW.cond_f rfl (RW.skip (RW.seq (RW.seq ?_)))
        obtain ⟨y7,ey7,h30⟩:=A3 h29
        refine RW.cutq (σ:=Bool) (fun y7=>[(1,.ptr 0 0),(5,.bool y5),(93,.bool y7)]) (fun y7=>[some ⟨F7 false x0,0⟩]) (fun y=>y7 = y) (fun _ _ _ _ g h=>RW.gh g h) ?_ ?_
        ·refine RW.reg ?_
         refine rl.run 2 rfl ?_
         cases hb : y4
         ·have h31:=A5 ey7 hb
          refine rl.run 11 rfl ?_
          refine rl.gen rfl rfl fun b hb=>?_
          cases b
          ·have h32:=A5 h31 hb
           refine rl.run 2 rfl (rl.done ?_)
           cases h32
           exact ⟨_,rfl,(Gh.ren0 [0] (.cells rfl rfl .z6 .nil) rfl (.p rfl rfl (.b rfl (.b rfl .nil))))⟩
          ·have h33:=A4 h31 hb
           refine rl.run 2 rfl (rl.done ?_)
           cases h33
           exact ⟨_,rfl,(Gh.ren0 [0] (.cells rfl rfl .z6 .nil) rfl (.p rfl rfl (.b rfl (.b rfl .nil))))⟩
         ·have h34:=A4 ey7 hb
          refine rl.run 2 rfl ?_
          obtain ⟨v8,e8,h35⟩:=A3 h34
          refine rl.call rfl rfl rfl (A7.val (r':=.bool v8) C2 (C0 e8) (.cons .int (.cons .int (.cons .int .nil))) .refl ?_)
          cases hb : v8
          ·have h36:=A5 h35 hb
           refine rl.run 11 rfl (rl.done ?_)
           cases h36
           exact ⟨_,rfl,(Gh.ren0 [0] (.cells rfl rfl .z6 .nil) rfl (.p rfl rfl (.b rfl (.b rfl .nil))))⟩
          ·have h37:=A4 h35 hb
           refine rl.run 11 rfl (rl.done ?_)
           cases h37
           exact ⟨_,rfl,(Gh.ren0 [0] (.cells rfl rfl .z6 .nil) rfl (.p rfl rfl (.b rfl (.b rfl .nil))))⟩
        ·intro y hC
         subst hC
         cases hb : y7
         ·have h38:=A5 h30 hb
          refine RW.cond_f rfl (RW.skip (RW.seq (RW.seq ?_)))
          obtain ⟨y9,ey9,h39⟩:=A3 h38
          refine RW.cutq (σ:=Bool) (fun y9=>[(1,.ptr 0 0),(109,.bool y9)]) (fun y9=>[some ⟨F7 false x0,0⟩]) (fun y=>y9 = y) (fun _ _ _ _ g h=>RW.gh g h) ?_ ?_
          ·refine RW.reg ?_
           refine rl.run 2 rfl ?_
           cases hb : y5
           ·have h40:=A5 ey9 hb
            refine rl.run 11 rfl ?_
            refine rl.gen rfl rfl fun b hb=>?_
            cases b
            ·have h41:=A5 h40 hb
             refine rl.run 2 rfl (rl.done ?_)
             cases h41
             exact ⟨_,rfl,(Gh.ren0 [0] (.cells rfl rfl .z6 .nil) rfl (.p rfl rfl (.b rfl .nil)))⟩
            ·have h42:=A4 h40 hb
             refine rl.run 2 rfl (rl.done ?_)
             cases h42
             exact ⟨_,rfl,(Gh.ren0 [0] (.cells rfl rfl .z6 .nil) rfl (.p rfl rfl (.b rfl .nil)))⟩
           ·have h43:=A4 ey9 hb
            refine rl.run 2 rfl ?_
            obtain ⟨v10,e10,h44⟩:=A3 h43
            refine rl.call rfl rfl rfl (A7.val (r':=.bool v10) C2 (C0 e10) (.cons .int (.cons .int (.cons .int .nil))) .refl ?_)
            cases hb : v10
            ·have h45:=A5 h44 hb
             refine rl.run 11 rfl (rl.done ?_)
             cases h45
             exact ⟨_,rfl,(Gh.ren0 [0] (.cells rfl rfl .z6 .nil) rfl (.p rfl rfl (.b rfl .nil)))⟩
            ·have h46:=A4 h44 hb
             refine rl.run 11 rfl (rl.done ?_)
             cases h46
             exact ⟨_,rfl,(Gh.ren0 [0] (.cells rfl rfl .z6 .nil) rfl (.p rfl rfl (.b rfl .nil)))⟩
          ·intro y hC
           subst hC
           cases hb : y9
           ·have h47:=A5 h39 hb
            refine RW.cond_f rfl (RW.skip (RW.seq (RW.sreg (rl.run 2 rfl ?_))))
            refine rl.gen rfl rfl fun b hb=>?_
            cases b
            ·have h48:=A5 h47 hb
             refine rl.done (RW.cond_f rfl (RW.skip (RW.sreg (rl.run 4 rfl (rl.done (RW.ret ?_))))))
             cases h48
             exact RRet.mk rfl .bool (by first | decide | simp)
            ·have h49:=A4 h47 hb
             refine rl.done (RW.cond_t rfl (RW.sreg (rl.run 5 rfl (rl.done (RW.ret ?_)))))
             cases h49
             exact RRet.mk rfl .bool (by first | decide | simp)
           ·have h50:=A4 h39 hb
            refine RW.cond_t rfl (RW.sreg (rl.run 1 rfl (rl.done (RW.ret ?_))))
            cases h50
            exact RRet.mk rfl .bool (by first | decide | simp)
         ·have h51:=A4 h30 hb
          refine RW.cond_t rfl (RW.sreg (rl.run 1 rfl (rl.done (RW.ret ?_))))
          cases h51
          exact RRet.mk rfl .bool (by first | decide | simp)
       ·have h52:=A4 h22 hb
        refine RW.cond_t rfl (RW.sreg (rl.run 1 rfl (rl.done (RW.ret ?_))))
        cases h52
        exact RRet.mk rfl .bool (by first | decide | simp)
   ·have h53:=A4 h8 hb
    refine rl.run 1 rfl (rl.done (RW.seq ?_))
    obtain ⟨y11,ey11,h54⟩:=A3 h53
    refine RW.cutq (σ:=Bool) (fun y11=>[(1,.ptr 0 0),(3,.bool true),(4,.bool y11)]) (fun y11=>[some ⟨F7 false x0,0⟩]) (fun y=>y11 = y) (fun _ _ _ _ g h=>RW.gh g h) ?_ ?_
    ·refine RW.reg ?_
     refine rl.run 2 rfl ?_
     refine rl.gen rfl rfl fun b hb=>?_
     cases b
     ·have h55:=A5 ey11 hb
      refine rl.run 3 rfl ?_
      refine rl.gen rfl rfl fun b hb=>?_
      cases b
      ·have h56:=A5 h55 hb
       refine rl.run 4 rfl ?_
       refine rl.gen rfl rfl fun b hb=>?_
       cases b
       ·have h57:=A5 h56 hb
        refine rl.run 2 rfl (rl.done ?_)
        cases h57
        exact ⟨_,rfl,(Gh.ren0 [0] (.cells rfl rfl .z6 .nil) rfl (.p rfl rfl (.b rfl (.b rfl .nil))))⟩
       ·have h58:=A4 h56 hb
        refine rl.run 2 rfl (rl.done ?_)
        cases h58
        exact ⟨_,rfl,(Gh.ren0 [0] (.cells rfl rfl .z6 .nil) rfl (.p rfl rfl (.b rfl (.b rfl .nil))))⟩
      ·have h59:=A4 h55 hb
       refine rl.run 7 rfl (rl.done ?_)
       cases h59
       exact ⟨_,rfl,(Gh.ren0 [0] (.cells rfl rfl .z6 .nil) rfl (.p rfl rfl (.b rfl (.b rfl .nil))))⟩
     ·have h60:=A4 ey11 hb
      refine rl.run 11 rfl (rl.done ?_)
      cases h60
      exact ⟨_,rfl,(Gh.ren0 [0] (.cells rfl rfl .z6 .nil) rfl (.p rfl rfl (.b rfl (.b rfl .nil))))⟩
    ·intro y hC
     subst hC
     refine RW.seq ?_
     obtain ⟨y12,ey12,h61⟩:=A3 h54
     refine RW.cutq (σ:=Bool) (fun y12=>[(1,.ptr 0 0),(3,.bool true),(4,.bool y11),(5,.bool y12)]) (fun y12=>[some ⟨F7 false x0,0⟩]) (fun y=>y12 = y) (fun _ _ _ _ g h=>RW.gh g h) ?_ ?_
     ·refine RW.reg ?_
      refine rl.run 2 rfl ?_
      refine rl.gen rfl rfl fun b hb=>?_
      cases b
      ·have h62:=A5 ey12 hb
       refine rl.run 3 rfl ?_
       refine rl.gen rfl rfl fun b hb=>?_
       cases b
       ·have h63:=A5 h62 hb
        refine rl.run 2 rfl (rl.done ?_)
        cases h63
        exact ⟨_,rfl,(Gh.ren0 [0] (.cells rfl rfl .z6 .nil) rfl (.p rfl rfl (.b rfl (.b rfl (.b rfl .nil)))))⟩
       ·have h64:=A4 h62 hb
        refine rl.run 2 rfl (rl.done ?_)
        cases h64
        exact ⟨_,rfl,(Gh.ren0 [0] (.cells rfl rfl .z6 .nil) rfl (.p rfl rfl (.b rfl (.b rfl (.b rfl .nil)))))⟩
      ·have h65:=A4 ey12 hb
       refine rl.run 6 rfl (rl.done ?_)
       cases h65
       exact ⟨_,rfl,(Gh.ren0 [0] (.cells rfl rfl .z6 .nil) rfl (.p rfl rfl (.b rfl (.b rfl (.b rfl .nil)))))⟩
     ·intro y hC
      subst hC
      refine RW.seq (RW.seq ?_)
      obtain ⟨y13,ey13,h66⟩:=A3 h61
      refine RW.cutq (σ:=Bool) (fun y13=>[(1,.ptr 0 0),(4,.bool y11),(5,.bool y12),(77,.bool y13)]) (fun y13=>[some ⟨F7 false x0,0⟩]) (fun y=>y13 = y) (fun _ _ _ _ g h=>RW.gh g h) ?_ ?_
      ·refine RW.reg ?_
       refine rl.run 4 rfl ?_
       obtain ⟨v14,e14,h67⟩:=A3 ey13
       refine rl.call rfl rfl rfl (A7.val (r':=.bool v14) Lb (Jx e14) (.cons .str .nil) .refl ?_)
       cases hb : v14
       ·have h68:=A5 h67 hb
        refine rl.run 33 rfl (rl.done ?_)
        cases h68
        exact ⟨_,rfl,(Gh.ren0 [0] (.cells rfl rfl .z6 .nil) rfl (.p rfl rfl (.b rfl (.b rfl (.b rfl .nil)))))⟩
       ·have h69:=A4 h67 hb
        refine rl.run 4 rfl ?_
        obtain ⟨v15,e15,h70⟩:=A3 h69
        refine rl.call rfl rfl rfl (A7.val (r':=.bool v15) Lb (Jx e15) (.cons .str .nil) .refl ?_)
        cases hb : v15
        ·have h71:=A5 h70 hb
         refine rl.run 28 rfl (rl.done ?_)
         cases h71
         exact ⟨_,rfl,(Gh.ren0 [0] (.cells rfl rfl .z6 .nil) rfl (.p rfl rfl (.b rfl (.b rfl (.b rfl .nil)))))⟩
        ·have h72:=A4 h70 hb
         refine rl.run 5 rfl ?_
         obtain ⟨v16,e16,h73⟩:=A3 h72
         refine rl.call rfl rfl rfl (A7.val (r':=.bool v16) C2 (C0 e16) (.cons .int (.cons .int (.cons .int .nil))) .refl ?_)
         cases hb : v16
         ·have h74:=A5 h73 hb
          refine rl.run 22 rfl (rl.done ?_)
          cases h74
          exact ⟨_,rfl,(Gh.ren0 [0] (.cells rfl rfl .z6 .nil) rfl (.p rfl rfl (.b rfl (.b rfl (.b rfl .nil)))))⟩
         ·have h75:=A4 h73 hb
          refine rl.run 22 rfl (rl.done ?_)
          cases h75
          exact ⟨_,rfl,(Gh.ren0 [0] (.cells rfl rfl .z6 .nil) rfl (.p rfl rfl (.b rfl (.b rfl (.b rfl .nil)))))⟩
      ·intro y hC
       subst hC
       cases hb : y13
       ·have h76:=A5 h66 hb
        refine RW.cond_f rfl (RW.skip (RW.seq (RW.seq ?_)))
        obtain ⟨y17,ey17,h77⟩:=A3 h76
        refine RW.cutq (σ:=Bool) (fun y17=>[(1,.ptr 0 0),(5,.bool y12),(93,.bool y17)]) (fun y17=>[some ⟨F7 false x0,0⟩]) (fun y=>y17 = y) (fun _ _ _ _ g h=>RW.gh g h) ?_ ?_
        ·refine RW.reg ?_
         refine rl.run 2 rfl ?_
         cases hb : y11
         ·have h78:=A5 ey17 hb
          refine rl.run 11 rfl ?_
          refine rl.gen rfl rfl fun b hb=>?_
          cases b
          ·have h79:=A5 h78 hb
           refine rl.run 2 rfl (rl.done ?_)
           cases h79
           exact ⟨_,rfl,(Gh.ren0 [0] (.cells rfl rfl .z6 .nil) rfl (.p rfl rfl (.b rfl (.b rfl .nil))))⟩
          ·have h80:=A4 h78 hb
           refine rl.run 2 rfl (rl.done ?_)
           cases h80
           exact ⟨_,rfl,(Gh.ren0 [0] (.cells rfl rfl .z6 .nil) rfl (.p rfl rfl (.b rfl (.b rfl .nil))))⟩
         ·have h81:=A4 ey17 hb
          refine rl.run 2 rfl ?_
          obtain ⟨v18,e18,h82⟩:=A3 h81
          refine rl.call rfl rfl rfl (A7.val (r':=.bool v18) C2 (C0 e18) (.cons .int (.cons .int (.cons .int .nil))) .refl ?_)
          cases hb : v18
          ·have h83:=A5 h82 hb
           refine rl.run 11 rfl (rl.done ?_)
           cases h83
           exact ⟨_,rfl,(Gh.ren0 [0] (.cells rfl rfl .z6 .nil) rfl (.p rfl rfl (.b rfl (.b rfl .nil))))⟩
          ·have h84:=A4 h82 hb
           refine rl.run 11 rfl (rl.done ?_)
           cases h84
           exact ⟨_,rfl,(Gh.ren0 [0] (.cells rfl rfl .z6 .nil) rfl (.p rfl rfl (.b rfl (.b rfl .nil))))⟩
        ·intro y hC
         subst hC
         cases hb : y17
         ·have h85:=A5 h77 hb
          refine RW.cond_f rfl (RW.skip (RW.seq (RW.seq ?_)))
          obtain ⟨y19,ey19,h86⟩:=A3 h85
          refine RW.cutq (σ:=Bool) (fun y19=>[(1,.ptr 0 0),(109,.bool y19)]) (fun y19=>[some ⟨F7 false x0,0⟩]) (fun y=>y19 = y) (fun _ _ _ _ g h=>RW.gh g h) ?_ ?_
          ·refine RW.reg ?_
           refine rl.run 2 rfl ?_
           cases hb : y12
           ·have h87:=A5 ey19 hb
            refine rl.run 11 rfl ?_
            refine rl.gen rfl rfl fun b hb=>?_
            cases b
            ·have h88:=A5 h87 hb
             refine rl.run 2 rfl (rl.done ?_)
             cases h88
             exact ⟨_,rfl,(Gh.ren0 [0] (.cells rfl rfl .z6 .nil) rfl (.p rfl rfl (.b rfl .nil)))⟩
            ·have h89:=A4 h87 hb
             refine rl.run 2 rfl (rl.done ?_)
             cases h89
             exact ⟨_,rfl,(Gh.ren0 [0] (.cells rfl rfl .z6 .nil) rfl (.p rfl rfl (.b rfl .nil)))⟩
           ·have h90:=A4 ey19 hb
            refine rl.run 2 rfl ?_
            obtain ⟨v20,e20,h91⟩:=A3 h90
            refine rl.call rfl rfl rfl (A7.val (r':=.bool v20) C2 (C0 e20) (.cons .int (.cons .int (.cons .int .nil))) .refl ?_)
            cases hb : v20
            ·have h92:=A5 h91 hb
             refine rl.run 11 rfl (rl.done ?_)
             cases h92
             exact ⟨_,rfl,(Gh.ren0 [0] (.cells rfl rfl .z6 .nil) rfl (.p rfl rfl (.b rfl .nil)))⟩
            ·have h93:=A4 h91 hb
             refine rl.run 11 rfl (rl.done ?_)
             cases h93
             exact ⟨_,rfl,(Gh.ren0 [0] (.cells rfl rfl .z6 .nil) rfl (.p rfl rfl (.b rfl .nil)))⟩
          ·intro y hC
           subst hC
           cases hb : y19
           ·have h94:=A5 h86 hb
            refine RW.cond_f rfl (RW.skip (RW.seq (RW.sreg (rl.run 2 rfl ?_))))
            refine rl.gen rfl rfl fun b hb=>?_
            cases b
            ·have h95:=A5 h94 hb
             refine rl.done (RW.cond_f rfl (RW.skip (RW.sreg (rl.run 4 rfl (rl.done (RW.ret ?_))))))
             cases h95
             exact RRet.mk rfl .bool (by first | decide | simp)
            ·have h96:=A4 h94 hb
             refine rl.done (RW.cond_t rfl (RW.sreg (rl.run 5 rfl (rl.done (RW.ret ?_)))))
             cases h96
             exact RRet.mk rfl .bool (by first | decide | simp)
           ·have h97:=A4 h86 hb
            refine RW.cond_t rfl (RW.sreg (rl.run 1 rfl (rl.done (RW.ret ?_))))
            cases h97
            exact RRet.mk rfl .bool (by first | decide | simp)
         ·have h98:=A4 h77 hb
          refine RW.cond_t rfl (RW.sreg (rl.run 1 rfl (rl.done (RW.ret ?_))))
          cases h98
          exact RRet.mk rfl .bool (by first | decide | simp)
       ·have h99:=A4 h66 hb
        refine RW.cond_t rfl (RW.sreg (rl.run 1 rfl (rl.done (RW.ret ?_))))
        cases h99
        exact RRet.mk rfl .bool (by first | decide | simp)
  ·have h100:=A4 h1 hb
   refine RW.cond_t rfl (RW.sreg (rl.run 1 rfl (rl.done (RW.ret ?_))))
   cases h100
   exact RRet.mk rfl .bool (by first | decide | simp)
theorem Vj {x0 : TRec} {r : (List UInt8) × Bool} (hF : X9 x0 = some r) : B3 Tryz.prog 169 [.agg (F7 false x0)] (.tup [.str r.1,.bool r.2]):=by
 refine B3.of_r A1h rfl ?_
 unfold X9 at hF
 refine RW.sreg (rl.run 3 rfl (rl.done (RW.seq (RW.sreg (rl.run 1 rfl ?_)))))
 obtain ⟨v1,e1,h1⟩:=A3 hF
 refine rl.call rfl rfl rfl (A7.val (r':=.bool v1) A3f (A2s e1) (.cons (DFL.agg (.cons .int (.cons .int (.cons .int (.cons .int (.cons .int (.cons .str (.cons .str (.cons .str .nil))))))))) .nil) .refl ?_)
 cases hb : v1
 ·have h2:=A5 h1 hb
  refine rl.run 1 rfl (rl.done (RW.cond_t rfl (RW.sreg (rl.run 2 rfl (rl.done (RW.ret ?_))))))
  cases h2
  exact RRet.mk rfl (OutT.tup (.cons .str (.cons .bool .nil))) (by first | decide | simp)
 ·have h3:=A4 h1 hb
  refine rl.run 1 rfl (rl.done (RW.cond_f rfl (RW.skip (RW.sdrw (A0.op rfl rfl (A0.op rfl rfl (A0.op rfl rfl ?_)))))))
  refine A0.chn rfl rfl ?_
  refine A0.op rfl (Ja (o:=true) (l:=[IntKind.u8.wrap x0.Kind]) rfl rfl) ?_
  refine A0.opA rfl rfl (.here (.rx rfl) .nil) ?_
  refine A0.opA rfl rfl (.here (.rx rfl) .nil) ?_
  obtain ⟨v2,e2,h4⟩:=A3 h3
  refine A0.callA rfl rfl rfl (A7.val (r':=.str v2) D1 (C7 e2) (.cons .int .nil) .refl ⟨rfl,(.here (.cl rfl rfl (A7.val (r':=.str v2) D1 (C7 e2) (.cons .int .nil) .refl ⟨rfl,rfl⟩)) .nil),?_⟩)
  obtain ⟨v3,e3,h5⟩:=A3 h4
  refine A0.op rfl (U3 rfl rfl e3) ?_
  refine A0.opA rfl rfl (.here (.rx rfl) .nil) ?_
  refine A0.opA rfl rfl (.here (.rx rfl) .nil) ?_
  obtain ⟨v4,e4,h6⟩:=A3 h5
  refine A0.callA rfl rfl rfl (A7.val (r':=.str v4) D1 (C7 e4) (.cons .int .nil) .refl ⟨rfl,(.here (.cl rfl rfl (A7.val (r':=.str v4) D1 (C7 e4) (.cons .int .nil) .refl ⟨rfl,rfl⟩)) .nil),?_⟩)
  obtain ⟨v5,e5,h7⟩:=A3 h6
  refine A0.op rfl (U3 rfl rfl e5) ?_
  refine A0.opA rfl rfl (.here (.rx rfl) .nil) ?_
  refine A0.opA rfl rfl (.here (.rx rfl) .nil) ?_
  obtain ⟨v6,e6,h8⟩:=A3 h7
  refine A0.callA rfl rfl rfl (A7.val (r':=.str v6) D1 (C7 e6) (.cons .int .nil) .refl ⟨rfl,(.here (.cl rfl rfl (A7.val (r':=.str v6) D1 (C7 e6) (.cons .int .nil) .refl ⟨rfl,rfl⟩)) .nil),?_⟩)
  obtain ⟨v7,e7,h9⟩:=A3 h8
  refine A0.op rfl (U3 rfl rfl e7) ?_
  refine A0.opA rfl rfl (.here (.rx rfl) .nil) ?_
  refine A0.opA rfl rfl (.here (.rx rfl) .nil) ?_
  obtain ⟨v8,e8,h10⟩:=A3 h9
  refine A0.callA rfl rfl rfl (A7.val (r':=.str v8) D1 (C7 e8) (.cons .int .nil) .refl ⟨rfl,(.here (.cl rfl rfl (A7.val (r':=.str v8) D1 (C7 e8) (.cons .int .nil) .refl ⟨rfl,rfl⟩)) .nil),?_⟩)
  obtain ⟨v9,e9,h11⟩:=A3 h10
  refine A0.op rfl (U3 rfl rfl e9) ?_
  refine A0.opA rfl rfl (.here (.rx rfl) .nil) ?_
  refine A0.opA rfl rfl (.here (.rx rfl) .nil) ?_
  obtain ⟨v10,e10,h12⟩:=A3 h11
  refine A0.callA rfl rfl rfl (A7.val (r':=.str v10) M3 (L7 e10) (.cons .str .nil) .refl ⟨rfl,(.here (.cl rfl rfl (A7.val (r':=.str v10) M3 (L7 e10) (.cons .str .nil) .refl ⟨rfl,rfl⟩)) .nil),?_⟩)
  obtain ⟨v11,e11,h13⟩:=A3 h12
  refine A0.op rfl (U3 rfl rfl e11) ?_
  refine A0.opA rfl rfl (.here (.rx rfl) .nil) ?_
  refine A0.opA rfl rfl (.here (.rx rfl) .nil) ?_
  obtain ⟨v12,e12,h14⟩:=A3 h13
  refine A0.callA rfl rfl rfl (A7.val (r':=.str v12) M3 (L7 e12) (.cons .str .nil) .refl ⟨rfl,(.here (.cl rfl rfl (A7.val (r':=.str v12) M3 (L7 e12) (.cons .str .nil) .refl ⟨rfl,rfl⟩)) .nil),?_⟩)
  obtain ⟨v13,e13,h15⟩:=A3 h14
  refine A0.op rfl (U3 rfl rfl e13) ?_
  refine A0.opA rfl rfl (.here (.rx rfl) .nil) ?_
  refine A0.opA rfl rfl (.here (.rx rfl) .nil) ?_
  obtain ⟨v14,e14,h16⟩:=A3 h15
  refine A0.callA rfl rfl rfl (A7.val (r':=.str v14) M3 (L7 e14) (.cons .str .nil) .refl ⟨rfl,(.here (.cl rfl rfl (A7.val (r':=.str v14) M3 (L7 e14) (.cons .str .nil) .refl ⟨rfl,rfl⟩)) .nil),?_⟩)
  obtain ⟨v15,e15,h17⟩:=A3 h16
  refine A0.op rfl (U3 rfl rfl e15) ?_
  refine A0.op rfl rfl (A0.op rfl rfl (A0.done ?_))
  refine RW.kp [2,3] [(2,.str v15),(3,.bool true)] [some ⟨F7 false x0,0⟩,some ⟨fl (encB true) [IntKind.u8.wrap x0.Kind],1⟩] rfl rfl ?_
  refine RW.ret ?_
  cases h17
  exact RRet.mk rfl (OutT.tup (.cons .str (.cons .bool .nil))) (by first | decide | simp)
theorem Qd {x0 : TItem} {x1 : Int} {r : TFrame × Bool} (hF : X1 x0 x1 = some r) : B3 Tryz.prog 145 [.agg (B2 false x0),.j x1] (.tup [.agg (B9 true r.1),.bool r.2]):=by
 refine B3.of_r Wt rfl ?_
 unfold X1 at hF
 refine RW.sreg (rl.run 3 rfl (rl.done (RW.sreg (rl.run 2 rfl ?_))))
 obtain ⟨v1,e1,h1⟩:=A3 hF
 refine rl.call rfl rfl rfl (A7.val (r':=.tup [.str v1.1,.bool v1.2]) Yq (Vj e1) (.cons (DFL.agg (.cons .int (.cons .int (.cons .int (.cons .int (.cons .int (.cons .str (.cons .str (.cons .str .nil))))))))) .nil) (FlL.tup (.cons .refl (.cons .refl .nil))) ?_)
 refine rl.run 5 rfl (rl.done (RW.sreg (rl.run 7 rfl (rl.done ?_))))
 refine RW.kp [4,7,8] [(4,.ptr 1 0),(7,.bool v1.2),(8,.ptr 2 0)] [some ⟨B2 false x0,0⟩,some ⟨[.j 0,.j 0,.str []],0⟩,some ⟨[.j x1,.j x0.Seq,.str v1.1],0⟩] rfl rfl ?_
 refine RW.seq (RW.seq ?_)
 obtain ⟨y2,ey2,h2⟩:=A3 h1
 refine RW.cutq (σ:=Bool) (fun y2=>[(4,.ptr 0 0),(8,.ptr 1 0),(26,.bool y2)]) (fun y2=>[some ⟨[.j 0,.j 0,.str []],0⟩,some ⟨[.j x1,.j x0.Seq,.str v1.1],0⟩]) (fun y=>y2 = y) (fun _ _ _ _ g h=>RW.gh g h) ?_ ?_
 ·refine RW.reg ?_
  refine rl.run 3 rfl ?_
  cases hb : (!v1.2)
  ·have h3:=A5 ey2 hb
   refine rl.run 1 rfl ?_
   obtain ⟨v3,e3,h4⟩:=A3 h3
   refine rl.call rfl rfl rfl (A7.val (r':=.bool v3) Jv (Hp e3) (.cons (DFL.agg (.cons .int (.cons .int (.cons .str .nil)))) .nil) .refl ?_)
   cases hb : v3
   ·have h5:=A5 h4 hb
    refine rl.run 2 rfl (rl.done ?_)
    cases h5
    exact ⟨_,rfl,(Gh.ren0 [1,2] (.cells rfl rfl .z5 (.cells rfl rfl .z5 .nil)) rfl (.p rfl rfl (.p rfl rfl (.b rfl .nil))))⟩
   ·have h6:=A4 h4 hb
    refine rl.run 2 rfl (rl.done ?_)
    cases h6
    exact ⟨_,rfl,(Gh.ren0 [1,2] (.cells rfl rfl .z5 (.cells rfl rfl .z5 .nil)) rfl (.p rfl rfl (.p rfl rfl (.b rfl .nil))))⟩
  ·have h7:=A4 ey2 hb
   refine rl.run 4 rfl (rl.done ?_)
   cases h7
   exact ⟨_,rfl,(Gh.ren0 [1,2] (.cells rfl rfl .z5 (.cells rfl rfl .z5 .nil)) rfl (.p rfl rfl (.p rfl rfl (.b rfl .nil))))⟩
 ·intro y hC
  subst hC
  cases hb : y2
  ·have h8:=A5 h2 hb
   refine RW.cond_f rfl (RW.skip (RW.sreg (rl.run 3 rfl (rl.done (RW.ret ?_)))))
   cases h8
   exact RRet.mk rfl (OutT.tup (.cons (OutL.agg (.i (.i (.cons .str rfl .nil)))) (.cons .bool .nil))) (by first | decide | simp)
  ·have h9:=A4 h2 hb
   refine RW.cond_t rfl (RW.sreg (rl.run 3 rfl (rl.done (RW.ret ?_))))
   cases h9
   exact RRet.mk rfl (OutT.tup (.cons (OutL.agg (.i (.i (.cons .str rfl .nil)))) (.cons .bool .nil))) (by first | decide | simp)
set_option maxHeartbeats 2000000 in
theorem Mp {x0 : TLog} {x1 : Int} {r : Bool × TLog} (hF : P7 x0 x1 = some r) : C4 Tryz.prog 0 88 [.ptr 0 0,.j x1] [some ⟨B5 true x0,0⟩] (.bool r.1) [some ⟨B5 true r.2,0⟩]:=by
 refine C4.of_s Ks rfl ?_
 unfold P7 at hF
 refine RW.gh (Gh.expose (b:=0) (j:=0) rfl rfl (by decide) (ekS.fown _)) ?_
 refine RW.gh (Gh.expose (b:=0) (j:=1) rfl rfl (by decide) (A1.fown _)) ?_
 refine RW.gh (Gh.expose (b:=0) (j:=3) rfl rfl (by decide) (A9.fown _)) ?_
 refine RW.sreg (rl.run 1 rfl (rl.done (RW.sreg (rl.run 3 rfl ?_))))
 obtain ⟨v1,e1,h1⟩:=A3 hF
 refine rl.call rfl rfl rfl (A7.val (r':=L_I v1) Hs (Hb e1) (.cons (DFL.agg (.cons (.slq ekS rfl rfl) (.cons (.slq A1 rfl rfl) (.cons .int (.cons (.slq A9 rfl rfl) (.cons .int (.cons .int (.cons .int (.cons .int .nil))))))))) .nil) (ekI.fflag _).lst ?_)
 refine rl.run 1 rfl (rl.done (RW.seq (RW.seq ?_)))
 obtain ⟨y2,ey2,h2⟩:=A3 h1
 refine RW.cutq (σ:=Bool) (fun y2=>[(0,.ptr 0 0),(5,L_I v1),(21,.bool y2)]) (fun y2=>[some ⟨G7 1 2 3 x0,0⟩,some ⟨fl (encS true) x0.Disk.Sectors,1⟩,some ⟨fl (A2 true) x0.Disk.Cache,2⟩,some ⟨fl (A8 true) x0.Used,4⟩]) (fun y=>y2 = y) (fun _ _ _ _ g h=>RW.gh g h) ?_ ?_
 ·refine RW.reg ?_
  refine rl.run 1 rfl ?_
  refine rl.gen rfl rfl fun b hb=>?_
  cases b
  ·have h3:=A5 ey2 hb
   refine rl.run 4 rfl ?_
   refine rl.gen rfl rfl fun b hb=>?_
   cases b
   ·have h4:=A5 h3 hb
    refine rl.run 1 rfl (rl.done ?_)
    cases h4
    exact ⟨_,rfl,(Gh.renN [0,1,2,3] (.cells rfl rfl (.slq rfl rfl (.slq rfl rfl (.keep .int (.slq rfl rfl (.keep .int (.keep .int (.keep .int (.keep .int .nil)))))))) (.same rfl (ekS.fref _ _) (.same rfl (A1.fref _ _) (.same rfl (A9.fref _ _) .nil)))) rfl rfl rfl (.p rfl rfl (.cons rfl (.dat (ekI.rlst)) (.b rfl .nil))))⟩
   ·have h5:=A4 h3 hb
    refine rl.run 1 rfl (rl.done ?_)
    cases h5
    exact ⟨_,rfl,(Gh.renN [0,1,2,3] (.cells rfl rfl (.slq rfl rfl (.slq rfl rfl (.keep .int (.slq rfl rfl (.keep .int (.keep .int (.keep .int (.keep .int .nil)))))))) (.same rfl (ekS.fref _ _) (.same rfl (A1.fref _ _) (.same rfl (A9.fref _ _) .nil)))) rfl rfl rfl (.p rfl rfl (.cons rfl (.dat (ekI.rlst)) (.b rfl .nil))))⟩
  ·have h6:=A4 ey2 hb
   refine rl.run 6 rfl (rl.done ?_)
   cases h6
   exact ⟨_,rfl,(Gh.renN [0,1,2,3] (.cells rfl rfl (.slq rfl rfl (.slq rfl rfl (.keep .int (.slq rfl rfl (.keep .int (.keep .int (.keep .int (.keep .int .nil)))))))) (.same rfl (ekS.fref _ _) (.same rfl (A1.fref _ _) (.same rfl (A9.fref _ _) .nil)))) rfl rfl rfl (.p rfl rfl (.cons rfl (.dat (ekI.rlst)) (.b rfl .nil))))⟩
 ·intro y hC
  subst hC
  cases hb : y2
  ·have h7:=A5 h2 hb
   refine RW.cond_f rfl (RW.skip (RW.sreg (rl.run 5 rfl ?_)))
   obtain ⟨v3,e3,h8⟩:=A3 h7
   refine rl.call rfl rfl rfl (A7.val (r':=.tup [.str v3.1,.bool v3.2]) Ag (Z0 e3) (.cons (DFL.agg (.cons .int (.cons .int (.cons .str .nil)))) .nil) (FlL.tup (.cons .refl (.cons .refl .nil))) ?_)
   refine rl.run 5 rfl (rl.done (RW.sdrw (A0.op rfl rfl (A0.op rfl rfl (A0.op rfl rfl (A0.op rfl rfl (A0.op rfl rfl ?_)))))))
   obtain ⟨v4,e4,h9⟩:=A3 h8
   refine A0.op rfl (C1 (enc:=encI) (o:=false) rfl rfl rfl e4) ?_
   refine A0.op rfl (G5 (off':=0) ekI rfl e4 rfl rfl rfl) ?_
   refine A0.op rfl rfl ?_
   obtain ⟨v5,e5,h10⟩:=A3 h9
   refine A0.call rfl rfl rfl (A7.val (r':=.tup [.agg (A6 false v5.1),.bool v5.2]) L3 (K8 e5) (.cons (DFL.agg (.cons (.slq ekS rfl rfl) (.cons (.slq A1 rfl rfl) .nil))) (.cons .int (.cons .int (.cons .str .nil)))) (FlL.tup (.cons (C9.flag _).agg (.cons .refl .nil))) ⟨rfl,?_⟩)
   refine A0.op rfl rfl (A0.op rfl rfl (A0.op rfl rfl ?_))
   refine A0.chnB rfl rfl (.here (.rx rfl) (.here (.rx rfl) (.here (.rx rfl) (.here (.cl rfl rfl (A7.val (r':=.tup [.agg (A6 false v5.1),.bool v5.2]) L3 (K8 e5) (.cons (DFL.agg (.cons (.slq ekS rfl rfl) (.cons (.slq A1 rfl rfl) .nil))) (.cons .int (.cons .int (.cons .str .nil)))) (FlL.tup (.cons (C9.flag _).agg (.cons .refl .nil))) ⟨rfl,rfl⟩)) (.here (.rx rfl) (.here (.rx (G5 (off':=0) ekI rfl e4 rfl rfl rfl)) (.here (.rx (C1 (enc:=encI) (o:=false) rfl rfl rfl e4)) (.here (.rx rfl) (.here (.rx rfl) (.here (.rx rfl) (.here (.rx rfl) (.here (.rx rfl) .nil)))))))))))) ?_
   refine A0.chnB rfl rfl (.here (.rx rfl) (.skip rfl (.skip rfl (.skip rfl (.skip rfl (.skip rfl (.skip rfl (.skip rfl (.skip rfl (.skip rfl (.skip rfl (.skip rfl .nil)))))))))))) ?_
   refine A0.op rfl rfl (A0.done ?_)
   refine RW.kp [0,5,6,7,8,9] [(0,.ptr 0 0),(5,L_I v1),(6,.str v3.1),(7,.bool v3.2),(8,.ptr 4 0),(9,.bool v5.2)] [some ⟨G7 1 2 3 x0,0⟩,some ⟨fl (encS true) x0.Disk.Sectors,1⟩,some ⟨fl (A2 true) x0.Disk.Cache,2⟩,some ⟨fl (A8 true) x0.Used,4⟩,some ⟨A6 false v5.1,0⟩] rfl rfl ?_
   refine RW.seq (RW.seq ?_)
   obtain ⟨y6,ey6,h11⟩:=A3 h10
   refine RW.cutq (σ:=Bool) (fun y6=>[(0,.ptr 0 0),(5,L_I v1),(6,.str v3.1),(8,.ptr 1 0),(55,.bool y6)]) (fun y6=>[some ⟨G7 2 3 4 x0,0⟩,some ⟨A6 false v5.1,0⟩,some ⟨fl (encS true) x0.Disk.Sectors,1⟩,some ⟨fl (A2 true) x0.Disk.Cache,2⟩,some ⟨fl (A8 true) x0.Used,4⟩]) (fun y=>y6 = y) (fun _ _ _ _ g h=>RW.gh g h) ?_ ?_
   ·refine RW.reg ?_
    refine rl.run 3 rfl ?_
    cases hb : (!v3.2)
    ·have h12:=A5 ey6 hb
     refine rl.run 4 rfl ?_
     cases hb : (!v5.2)
     ·have h13:=A5 h12 hb
      refine rl.run 4 rfl ?_
      refine rl.gen rfl rfl fun b hb=>?_
      cases b
      ·have h14:=A5 h13 hb
       refine rl.run 1 rfl (rl.done ?_)
       cases h14
       exact ⟨_,rfl,(Gh.renN [0,4,1,2,3] (.cells rfl rfl (.slq rfl rfl (.slq rfl rfl (.keep .int (.slq rfl rfl (.keep .int (.keep .int (.keep .int (.keep .int .nil)))))))) (.cells rfl rfl .z4 (.same rfl (ekS.fref _ _) (.same rfl (A1.fref _ _) (.same rfl (A9.fref _ _) .nil))))) rfl rfl rfl (.p rfl rfl (.cons rfl (.dat (ekI.rlst)) (.s rfl (.p rfl rfl (.b rfl .nil))))))⟩
      ·have h15:=A4 h13 hb
       refine rl.run 1 rfl (rl.done ?_)
       cases h15
       exact ⟨_,rfl,(Gh.renN [0,4,1,2,3] (.cells rfl rfl (.slq rfl rfl (.slq rfl rfl (.keep .int (.slq rfl rfl (.keep .int (.keep .int (.keep .int (.keep .int .nil)))))))) (.cells rfl rfl .z4 (.same rfl (ekS.fref _ _) (.same rfl (A1.fref _ _) (.same rfl (A9.fref _ _) .nil))))) rfl rfl rfl (.p rfl rfl (.cons rfl (.dat (ekI.rlst)) (.s rfl (.p rfl rfl (.b rfl .nil))))))⟩
     ·have h16:=A4 h12 hb
      refine rl.run 6 rfl (rl.done ?_)
      cases h16
      exact ⟨_,rfl,(Gh.renN [0,4,1,2,3] (.cells rfl rfl (.slq rfl rfl (.slq rfl rfl (.keep .int (.slq rfl rfl (.keep .int (.keep .int (.keep .int (.keep .int .nil)))))))) (.cells rfl rfl .z4 (.same rfl (ekS.fref _ _) (.same rfl (A1.fref _ _) (.same rfl (A9.fref _ _) .nil))))) rfl rfl rfl (.p rfl rfl (.cons rfl (.dat (ekI.rlst)) (.s rfl (.p rfl rfl (.b rfl .nil))))))⟩
    ·have h17:=A4 ey6 hb
     refine rl.run 10 rfl (rl.done ?_)
     cases h17
     exact ⟨_,rfl,(Gh.renN [0,4,1,2,3] (.cells rfl rfl (.slq rfl rfl (.slq rfl rfl (.keep .int (.slq rfl rfl (.keep .int (.keep .int (.keep .int (.keep .int .nil)))))))) (.cells rfl rfl .z4 (.same rfl (ekS.fref _ _) (.same rfl (A1.fref _ _) (.same rfl (A9.fref _ _) .nil))))) rfl rfl rfl (.p rfl rfl (.cons rfl (.dat (ekI.rlst)) (.s rfl (.p rfl rfl (.b rfl .nil))))))⟩
   ·intro y hC
    subst hC
    cases hb : y6
    ·have h18:=A5 h11 hb
     refine RW.cond_f rfl (RW.skip (RW.sreg (rl.run 2 rfl ?_)))
     obtain ⟨v7,e7,h19⟩:=A3 h18
     refine rl.call rfl rfl rfl (A7.own (r':=.agg (B8 5 6 v7)) (H':=[some ⟨G7 2 3 4 x0,0⟩,some ⟨A6 false v5.1,0⟩,some ⟨fl (encS true) x0.Disk.Sectors,1⟩,some ⟨fl (A2 true) x0.Disk.Cache,2⟩,some ⟨fl (A8 true) x0.Used,4⟩,some ⟨fl (encS true) v7.Sectors,1⟩,some ⟨fl (A2 true) v7.Cache,2⟩]) U4 (T3 e7) (.cons (DFL.agg (.cons (.lst ekS) (.cons (.lst A1) .nil))) .nil) (C9.own _) rfl ?_)
     refine rl.run 3 rfl (rl.done (RW.sdrw (A0.op rfl rfl (A0.op rfl rfl (A0.op rfl rfl (A0.op rfl rfl (A0.op rfl rfl (A0.op rfl rfl ?_))))))))
     obtain ⟨v8,e8,h20⟩:=A3 h19
     refine A0.chnmB rfl (x_mv (o:=true) A9 rfl rfl rfl rfl rfl e8) (.skip rfl (.skip rfl (.skip rfl (.skip rfl (.skip rfl (.here (.rx rfl) .nil)))))) ?_
     refine A0.opA rfl rfl (.here (.rx rfl) .nil) ?_
     obtain ⟨v9,e9,h21⟩:=A3 h20
     refine A0.opA rfl (C1 (enc:=encI) (o:=false) rfl rfl rfl e9) (.here (.rx (C1 (enc:=encI) (o:=false) rfl rfl rfl e9)) .nil) ?_
     refine A0.opA rfl (G5 (off':=0) ekI rfl e9 rfl rfl rfl) (.here (.rx (G5 (off':=0) ekI rfl e9 rfl rfl rfl)) .nil) ?_
     refine A0.opA rfl rfl (.here (.rx rfl) .nil) ?_
     refine A0.opA rfl rfl (.here (.rx rfl) .nil) ?_
     refine A0.opA rfl rfl (.here (.rx rfl) .nil) ?_
     refine A0.opA rfl rfl (.here (.rx rfl) .nil) ?_
     refine A0.opA rfl rfl (.here (.rx rfl) .nil) ?_
     refine A0.opA rfl rfl (.here (.rx rfl) .nil) ?_
     refine A0.opA rfl rfl (.here (.rx rfl) .nil) ?_
     refine A0.litA (u:=.lst false 4 [.j v9,.j x0.NextGen,.j (v3.1.length : Int),.nils] 1) rfl rfl (Lit.mk rfl rfl) (.here (.lit rfl (Lit.mk rfl rfl)) .nil) ?_
     obtain ⟨v10,e10,h22⟩:=A3 h21
     refine A0.chnB rfl (Z4 rfl rfl (Tn A9 rfl rfl rfl e10)) (.skip rfl (.skip rfl (.skip rfl (.skip rfl (.skip rfl (.skip rfl (.skip rfl (.skip rfl (.skip rfl (.skip rfl (.skip rfl (.skip rfl (.skip rfl (.skip rfl (.skip rfl (.skip rfl (.here (.rx rfl) .nil))))))))))))))))) ?_
     refine A0.op rfl rfl (A0.op rfl rfl ?_)
     refine A0.chn rfl rfl ?_
     refine A0.done ?_
     refine RW.gh (Gh.own0 (b:=8) rfl (NL.append NL.refl (NL.append (.same (.same (.same (.nils (es:=9) .nil)))) NL.refl))) ?_
     refine RW.gh (Gh.blk (b:=8) rfl (A03 (enc:=A8) e10 rfl)) ?_
     refine RW.kp [0] [(0,.ptr 0 0)] [some ⟨[.sl 5 0 v7.Sectors.length,.sl 6 0 v7.Cache.length,.j x0.Segs,.sl 8 0 v10.length,.j x0.NextGen,.j x0.NextSeq,.j x0.Stamp,.j x0.NextValid],0⟩,some ⟨A6 false v5.1,0⟩,some ⟨fl (encS true) x0.Disk.Sectors,1⟩,some ⟨fl (A2 true) x0.Disk.Cache,2⟩,none,some ⟨fl (encS true) v7.Sectors,1⟩,some ⟨fl (A2 true) v7.Cache,2⟩,none,some ⟨fl (A8 true) v10,4⟩] rfl rfl ?_
     refine RW.sreg (rl.run 8 rfl (rl.done (RW.sreg (rl.run 1 rfl (rl.done (RW.ret ?_))))))
     cases h22
     exact RRetS.mk rfl .bool (Gh.trans (Gh.absorbq (b:=0) (j:=0) (m:=5) rfl rfl rfl (by decide) (by decide) rfl (ekS.flen true _) (ekS.fown _)) (Gh.trans (Gh.absorbq (b:=0) (j:=1) (m:=6) rfl rfl rfl (by decide) (by decide) rfl (A1.flen true _) (A1.fown _)) (Gh.trans (Gh.absorbq (b:=0) (j:=3) (m:=8) rfl rfl rfl (by decide) (by decide) rfl (A9.flen true _) (A9.fown _)) (Gh.renN [0] (.cells rfl rfl .z2 .nil) rfl rfl rfl .nil))))
    ·have h23:=A4 h11 hb
     refine RW.cond_t rfl (RW.sreg (rl.run 1 rfl (rl.done (RW.ret ?_))))
     cases h23
     exact RRetS.mk rfl .bool (Gh.trans (Gh.absorbq (b:=0) (j:=0) (m:=2) rfl rfl rfl (by decide) (by decide) rfl (ekS.flen true _) (ekS.fown _)) (Gh.trans (Gh.absorbq (b:=0) (j:=1) (m:=3) rfl rfl rfl (by decide) (by decide) rfl (A1.flen true _) (A1.fown _)) (Gh.trans (Gh.absorbq (b:=0) (j:=3) (m:=4) rfl rfl rfl (by decide) (by decide) rfl (A9.flen true _) (A9.fown _)) (Gh.renN [0] (.cells rfl rfl .z2 .nil) rfl rfl rfl .nil))))
  ·have h24:=A4 h2 hb
   refine RW.cond_t rfl (RW.sreg (rl.run 1 rfl (rl.done (RW.ret ?_))))
   cases h24
   exact RRetS.mk rfl .bool (Gh.trans (Gh.absorbq (b:=0) (j:=0) (m:=1) rfl rfl rfl (by decide) (by decide) rfl (ekS.flen true _) (ekS.fown _)) (Gh.trans (Gh.absorbq (b:=0) (j:=1) (m:=2) rfl rfl rfl (by decide) (by decide) rfl (A1.flen true _) (A1.fown _)) (Gh.trans (Gh.absorbq (b:=0) (j:=3) (m:=3) rfl rfl rfl (by decide) (by decide) rfl (A9.flen true _) (A9.fown _)) (Gh.renN [0] (.cells rfl rfl .z2 .nil) rfl rfl rfl .nil))))
set_option maxHeartbeats 2000000 in
theorem Kf {x0 : TLog} {x1 : TItem} {x2 : Int} {r : Bool × TLog} (hF : M0 x0 x1 x2 = some r) : C4 Tryz.prog 0 87 [.ptr 0 0,.agg (B2 false x1),.j x2] [some ⟨B5 true x0,0⟩] (.bool r.1) [some ⟨B5 true r.2,0⟩]:=by
 refine C4.of_s Ww rfl ?_
 unfold M0 at hF
 refine RW.gh (Gh.expose (b:=0) (j:=0) rfl rfl (by decide) (ekS.fown _)) ?_
 refine RW.gh (Gh.expose (b:=0) (j:=1) rfl rfl (by decide) (A1.fown _)) ?_
 refine RW.gh (Gh.expose (b:=0) (j:=3) rfl rfl (by decide) (A9.fown _)) ?_
 refine RW.sreg (rl.run 2 rfl (rl.done ?_))
 obtain ⟨v1,e1,h1⟩:=A3 hF
 refine RW.gh (Gh.blk (b:=3) rfl (Ee A9 e1)) ?_
 refine RW.gh (Gh.expose_raw (b:=3) (j:=3) rfl rfl (by decide) (B4.fown _)) ?_
 refine RW.sdrw (A0.op rfl rfl (A0.op rfl rfl (A0.op rfl rfl (A0.op rfl rfl (A0.op rfl rfl (A0.op rfl rfl (A0.op rfl rfl (A0.op rfl rfl (A0.op rfl rfl (A0.op rfl rfl ?_))))))))))
 refine A0.op rfl (Eo rfl rfl rfl rfl e1) ?_
 refine A0.op rfl (Ul (off':=0) (us:=(F9 5 v1)) A9 rfl rfl e1 rfl rfl rfl) ?_
 refine A0.chnB rfl rfl (.here (.rx (Ul (off':=0) (us:=(F9 5 v1)) A9 rfl rfl e1 rfl rfl rfl)) (.here (.rx (Eo rfl rfl rfl rfl e1)) (.here (.rx rfl) (.here (.rx rfl) (.here (.rx rfl) (.here (.rx rfl) (.here (.rx rfl) (.here (.rx rfl) (.here (.rx rfl) (.here (.rx rfl) (.here (.rx rfl) (.here (.rx rfl) .nil)))))))))))) ?_
 refine A0.chn rfl rfl ?_
 refine A0.done ?_
 refine RW.kp [0,2,4,7] [(0,.ptr 0 0),(2,.j x2),(4,.ptr 4 0),(7,.ptr 6 0)] [some ⟨G7 1 2 3 x0,0⟩,some ⟨fl (encS true) x0.Disk.Sectors,1⟩,some ⟨fl (A2 true) x0.Disk.Cache,2⟩,some ⟨fl (A8 true) (x0.Used.take (w64 ((x0.Used.length : Int) - 1)).toNat) ++ ((F9 5 v1) ++ fl (A8 true) (x0.Used.drop ((w64 ((x0.Used.length : Int) - 1)).toNat + 1))),4⟩,some ⟨B2 false x1,0⟩,some ⟨fl (B2 true) v1.Items,9⟩,some ⟨F9 5 v1,0⟩] rfl rfl ?_
 refine RW.sreg (rl.run 3 rfl ?_)
 obtain ⟨v2,e2,h2⟩:=A3 h1
 refine rl.call rfl rfl rfl (A7.val (r':=.tup [.agg (B9 false v2.1),.bool v2.2]) Qz (Qd e2) (.cons (DFL.agg (.cons .int (.cons .int (.cons .int (.cons .int (.cons .int (.cons .int (.cons .str (.cons .str (.cons .str .nil)))))))))) (.cons .int .nil)) (FlL.tup (.cons .refl (.cons .refl .nil))) ?_)
 refine rl.run 6 rfl (rl.done (RW.sreg (rl.run 1 rfl ?_)))
 obtain ⟨v3,e3,h3⟩:=A3 h2
 refine rl.call rfl rfl rfl (A7.val (r':=.tup [.str v3.1,.bool v3.2]) Ag (Z0 e3) (.cons (DFL.agg (.cons .int (.cons .int (.cons .str .nil)))) .nil) (FlL.tup (.cons .refl (.cons .refl .nil))) ?_)
 refine rl.run 5 rfl (rl.done ?_)
 refine RW.kp [0,2,4,7,8,9,10,11] [(0,.ptr 0 0),(2,.j x2),(4,.ptr 4 0),(7,.ptr 6 0),(8,.ptr 7 0),(9,.bool v2.2),(10,.str v3.1),(11,.bool v3.2)] [some ⟨G7 1 2 3 x0,0⟩,some ⟨fl (encS true) x0.Disk.Sectors,1⟩,some ⟨fl (A2 true) x0.Disk.Cache,2⟩,some ⟨fl (A8 true) (x0.Used.take (w64 ((x0.Used.length : Int) - 1)).toNat) ++ ((F9 5 v1) ++ fl (A8 true) (x0.Used.drop ((w64 ((x0.Used.length : Int) - 1)).toNat + 1))),4⟩,some ⟨B2 false x1,0⟩,some ⟨fl (B2 true) v1.Items,9⟩,some ⟨F9 5 v1,0⟩,some ⟨B9 false v2.1,0⟩] rfl rfl ?_
 refine RW.seq (RW.seq (RW.reg (rl.run 3 rfl ?_)))
 cases hb : (!v2.2)
 ·have h4:=A5 h3 hb
  refine rl.run 4 rfl ?_
  cases hb : (!v3.2)
  ·have h5:=A5 h4 hb
   refine rl.run 2 rfl ?_
   refine rl.gen rfl rfl fun b hb=>?_
   cases b
   ·have h6:=A5 h5 hb
    refine rl.run 1 rfl (rl.done (RW.cond_f rfl (RW.skip (RW.seq (RW.sreg (rl.run 5 rfl ?_))))))
    refine rl.gen rfl rfl fun b hb=>?_
    cases b
    ·have h7:=A5 h6 hb
     refine rl.done ?_
     refine RW.kp [0,2,4,7,8,10,54] [(0,.ptr 0 0),(2,.j x2),(4,.ptr 4 0),(7,.ptr 6 0),(8,.ptr 7 0),(10,.str v3.1),(54,.bool false)] [some ⟨G7 1 2 3 x0,0⟩,some ⟨fl (encS true) x0.Disk.Sectors,1⟩,some ⟨fl (A2 true) x0.Disk.Cache,2⟩,some ⟨fl (A8 true) (x0.Used.take (w64 ((x0.Used.length : Int) - 1)).toNat) ++ ((F9 5 v1) ++ fl (A8 true) (x0.Used.drop ((w64 ((x0.Used.length : Int) - 1)).toNat + 1))),4⟩,some ⟨B2 false x1,0⟩,some ⟨fl (B2 true) v1.Items,9⟩,some ⟨F9 5 v1,0⟩,some ⟨B9 false v2.1,0⟩] rfl rfl ?_
     refine RW.cond_f rfl (RW.skip (RW.sdrw (A0.op rfl rfl (A0.op rfl rfl (A0.op rfl rfl (A0.op rfl rfl (A0.op rfl rfl (A0.op rfl rfl (A0.op rfl rfl (A0.op rfl rfl (A0.op rfl rfl ?_)))))))))))
     obtain ⟨v4,e4,h8⟩:=A3 h7
     refine A0.call rfl rfl rfl (A7.val (r':=.tup [.agg (A6 false v4.1),.bool v4.2]) L3 (K8 e4) (.cons (DFL.agg (.cons (.slq ekS rfl rfl) (.cons (.slq A1 rfl rfl) .nil))) (.cons .int (.cons .int (.cons .str .nil)))) (FlL.tup (.cons (C9.flag _).agg (.cons .refl .nil))) ⟨rfl,?_⟩)
     refine A0.op rfl rfl (A0.op rfl rfl (A0.op rfl rfl ?_))
     refine A0.chnB rfl rfl (.here (.rx rfl) (.here (.rx rfl) (.here (.rx rfl) (.here (.cl rfl rfl (A7.val (r':=.tup [.agg (A6 false v4.1),.bool v4.2]) L3 (K8 e4) (.cons (DFL.agg (.cons (.slq ekS rfl rfl) (.cons (.slq A1 rfl rfl) .nil))) (.cons .int (.cons .int (.cons .str .nil)))) (FlL.tup (.cons (C9.flag _).agg (.cons .refl .nil))) ⟨rfl,rfl⟩)) (.here (.rx rfl) (.here (.rx rfl) (.here (.rx rfl) (.here (.rx rfl) (.here (.rx rfl) (.here (.rx rfl) (.here (.rx rfl) (.here (.rx rfl) (.here (.rx rfl) .nil))))))))))))) ?_
     refine A0.chnB rfl rfl (.here (.rx rfl) (.skip rfl (.skip rfl (.skip rfl (.skip rfl (.skip rfl (.skip rfl (.skip rfl (.skip rfl (.skip rfl (.skip rfl (.skip rfl (.skip rfl .nil))))))))))))) ?_
     refine A0.op rfl rfl (A0.done ?_)
     refine RW.kp [0,4,7,10,12,13] [(0,.ptr 0 0),(4,.ptr 4 0),(7,.ptr 6 0),(10,.str v3.1),(12,.ptr 8 0),(13,.bool v4.2)] [some ⟨G7 1 2 3 x0,0⟩,some ⟨fl (encS true) x0.Disk.Sectors,1⟩,some ⟨fl (A2 true) x0.Disk.Cache,2⟩,some ⟨fl (A8 true) (x0.Used.take (w64 ((x0.Used.length : Int) - 1)).toNat) ++ ((F9 5 v1) ++ fl (A8 true) (x0.Used.drop ((w64 ((x0.Used.length : Int) - 1)).toNat + 1))),4⟩,some ⟨B2 false x1,0⟩,some ⟨fl (B2 true) v1.Items,9⟩,some ⟨F9 5 v1,0⟩,some ⟨B9 false v2.1,0⟩,some ⟨A6 false v4.1,0⟩] rfl rfl ?_
     refine RW.seq (RW.sreg (rl.run 2 rfl (rl.done ?_)))
     cases hb : (!v4.2)
     ·have h9:=A5 h8 hb
      refine RW.cond_f rfl (RW.skip (RW.sreg (rl.run 2 rfl ?_)))
      obtain ⟨v5,e5,h10⟩:=A3 h9
      refine rl.call rfl rfl rfl (A7.own (r':=.agg (B8 9 10 v5)) (H':=[some ⟨G7 1 2 3 x0,0⟩,some ⟨fl (encS true) x0.Disk.Sectors,1⟩,some ⟨fl (A2 true) x0.Disk.Cache,2⟩,some ⟨fl (A8 true) (x0.Used.take (w64 ((x0.Used.length : Int) - 1)).toNat) ++ ((F9 5 v1) ++ fl (A8 true) (x0.Used.drop ((w64 ((x0.Used.length : Int) - 1)).toNat + 1))),4⟩,some ⟨B2 false x1,0⟩,some ⟨fl (B2 true) v1.Items,9⟩,some ⟨F9 5 v1,0⟩,some ⟨B9 false v2.1,0⟩,some ⟨A6 false v4.1,0⟩,some ⟨fl (encS true) v5.Sectors,1⟩,some ⟨fl (A2 true) v5.Cache,2⟩]) U4 (T3 e5) (.cons (DFL.agg (.cons (.lst ekS) (.cons (.lst A1) .nil))) .nil) (C9.own _) rfl ?_)
      refine rl.run 3 rfl (rl.done (RW.sreg (rl.run 7 rfl (rl.done ?_))))
      refine RW.kp [0,4,7] [(0,.ptr 0 0),(4,.ptr 4 0),(7,.ptr 6 0)] [some ⟨[.sl 9 0 v5.Sectors.length,.sl 10 0 v5.Cache.length,.j x0.Segs,.sl 3 0 x0.Used.length,.j x0.NextGen,.j x0.NextSeq,.j x0.Stamp,.j x0.NextValid],0⟩,some ⟨fl (encS true) x0.Disk.Sectors,1⟩,some ⟨fl (A2 true) x0.Disk.Cache,2⟩,some ⟨fl (A8 true) (x0.Used.take (w64 ((x0.Used.length : Int) - 1)).toNat) ++ ((F9 5 v1) ++ fl (A8 true) (x0.Used.drop ((w64 ((x0.Used.length : Int) - 1)).toNat + 1))),4⟩,some ⟨B2 false x1,0⟩,some ⟨fl (B2 true) v1.Items,9⟩,some ⟨[.j v1.No,.j v1.Gen,.j (w64 (v1.End + (v3.1.length : Int))),.sl 5 0 v1.Items.length],0⟩,some ⟨B9 false v2.1,0⟩,some ⟨A6 false v4.1,0⟩,some ⟨fl (encS true) v5.Sectors,1⟩,some ⟨fl (A2 true) v5.Cache,2⟩] rfl rfl ?_
      refine RW.sdrw (A0.op rfl rfl (A0.op rfl rfl (A0.op rfl rfl ?_)))
      obtain ⟨v6,e6,h11⟩:=A3 h10
      refine A0.chn rfl (Z4 rfl rfl (Li (m:=v1.Items) (o:=true) B4 (P8 (m:=v1.Items) (o:=true) Cl rfl rfl) rfl (Cl.fst _ _) e6)) ?_
      refine A0.opA rfl rfl (.here (.rx rfl) .nil) ?_
      refine A0.litA (u:=J9 ([x1] : List TItem)) rfl rfl (Lit.mk rfl rfl) (.here (.lit rfl (Lit.mk rfl rfl)) .nil) ?_
      obtain ⟨v7,e7,h12⟩:=A3 h11
      refine A0.chn rfl (Z4 rfl rfl (V5 (l:=v6) (m:=([x1] : List TItem)) (o:=true) B4 rfl rfl Eh rfl (Cl.fst _ _) e7)) ?_
      refine A0.op rfl rfl ?_
      refine A0.chn rfl rfl ?_
      refine A0.done ?_
      refine RW.gh (Gh.absorb_rawq (b:=3) (j:=3) (m:=5) rfl rfl rfl (by decide) (by decide) rfl (B4.flen true _) (B4.fown _)) ?_
      refine RW.gh (Gh.blk (b:=3) rfl (Ee A9 e1).symm) ?_
      refine RW.sdrw (A0.op rfl rfl (A0.op rfl rfl (A0.op rfl rfl (A0.op rfl rfl (A0.op rfl rfl (A0.op rfl rfl (A0.op rfl rfl (A0.op rfl rfl (A0.op rfl rfl (A0.op rfl rfl (A0.op rfl rfl ?_)))))))))))
      obtain ⟨v8,e8,h13⟩:=A3 h12
      refine A0.op rfl (Eo rfl rfl rfl rfl e8) ?_
      obtain ⟨v9,e9,h14⟩:=A3 h13
      refine A0.chn rfl (A60 (off':=0) A9 e8 rfl rfl rfl rfl rfl rfl rfl rfl) ?_
      refine A0.done ?_
      refine RW.gh (Gh.absorb_rawq (b:=3) (j:=3) (m:=12) rfl rfl rfl (by decide) (by decide) rfl (B4.flen true _) (B4.fown _)) ?_
      refine RW.gh (Gh.blk (b:=3) rfl (A7o A9 e8 e9 rfl)) ?_
      refine RW.kp [0,4] [(0,.ptr 0 0),(4,.ptr 4 0)] [some ⟨[.sl 9 0 v5.Sectors.length,.sl 10 0 v5.Cache.length,.j x0.Segs,.sl 3 0 x0.Used.length,.j x0.NextGen,.j x0.NextSeq,.j x0.Stamp,.j x0.NextValid],0⟩,some ⟨fl (encS true) x0.Disk.Sectors,1⟩,some ⟨fl (A2 true) x0.Disk.Cache,2⟩,some ⟨fl (A8 true) v9,4⟩,some ⟨B2 false x1,0⟩,none,some ⟨[.j v1.No,.j v1.Gen,.j (w64 (v1.End + (v3.1.length : Int))),.sl 12 0 v7.length],0⟩,some ⟨B9 false v2.1,0⟩,some ⟨A6 false v4.1,0⟩,some ⟨fl (encS true) v5.Sectors,1⟩,some ⟨fl (A2 true) v5.Cache,2⟩,none,none] rfl rfl ?_
      refine RW.seq (RW.sdrw (A0.op rfl rfl (A0.op rfl rfl (A0.op rfl rfl (A0.op rfl rfl (A0.op rfl rfl (A0.op rfl rfl ?_)))))))
      refine A0.gen rfl rfl fun b hb=>?_
      cases b
      ·have h15:=A5 h14 hb
       refine A0.done (RW.cond_f rfl (RW.skip (RW.seq (RW.sdrw (A0.op rfl rfl (A0.op rfl rfl (A0.op rfl rfl (A0.op rfl rfl (A0.op rfl rfl (A0.op rfl rfl (A0.op rfl rfl ?_)))))))))))
       refine A0.gen rfl rfl fun b hb=>?_
       cases b
       ·have h16:=A5 h15 hb
        refine A0.done ?_
        refine RW.kp [0,4,155] [(0,.ptr 0 0),(4,.ptr 4 0),(155,.bool false)] [some ⟨[.sl 9 0 v5.Sectors.length,.sl 10 0 v5.Cache.length,.j x0.Segs,.sl 3 0 x0.Used.length,.j x0.NextGen,.j x0.NextSeq,.j x0.Stamp,.j x0.NextValid],0⟩,some ⟨fl (encS true) x0.Disk.Sectors,1⟩,some ⟨fl (A2 true) x0.Disk.Cache,2⟩,some ⟨fl (A8 true) v9,4⟩,some ⟨B2 false x1,0⟩,none,some ⟨[.j v1.No,.j v1.Gen,.j (w64 (v1.End + (v3.1.length : Int))),.sl 12 0 v7.length],0⟩,some ⟨B9 false v2.1,0⟩,some ⟨A6 false v4.1,0⟩,some ⟨fl (encS true) v5.Sectors,1⟩,some ⟨fl (A2 true) v5.Cache,2⟩,none,none] rfl rfl ?_
        refine RW.cond_f rfl (RW.skip (RW.sreg (rl.run 1 rfl (rl.done (RW.ret ?_)))))
        cases h16
        exact RRetS.mk rfl .bool (Gh.trans (Gh.absorbq (b:=0) (j:=0) (m:=9) rfl rfl rfl (by decide) (by decide) rfl (ekS.flen true _) (ekS.fown _)) (Gh.trans (Gh.absorbq (b:=0) (j:=1) (m:=10) rfl rfl rfl (by decide) (by decide) rfl (A1.flen true _) (A1.fown _)) (Gh.trans (Gh.absorbq (b:=0) (j:=3) (m:=3) rfl rfl rfl (by decide) (by decide) (Ao e9) (A9.flen true _) (A9.fown _)) (Gh.renN [0] (.cells rfl rfl .z2 .nil) rfl rfl rfl .nil))))
       ·have h17:=A4 h15 hb
        refine A0.done ?_
        refine RW.kp [0,4,155] [(0,.ptr 0 0),(4,.ptr 4 0),(155,.bool true)] [some ⟨[.sl 9 0 v5.Sectors.length,.sl 10 0 v5.Cache.length,.j x0.Segs,.sl 3 0 x0.Used.length,.j x0.NextGen,.j x0.NextSeq,.j x0.Stamp,.j x0.NextValid],0⟩,some ⟨fl (encS true) x0.Disk.Sectors,1⟩,some ⟨fl (A2 true) x0.Disk.Cache,2⟩,some ⟨fl (A8 true) v9,4⟩,some ⟨B2 false x1,0⟩,none,some ⟨[.j v1.No,.j v1.Gen,.j (w64 (v1.End + (v3.1.length : Int))),.sl 12 0 v7.length],0⟩,some ⟨B9 false v2.1,0⟩,some ⟨A6 false v4.1,0⟩,some ⟨fl (encS true) v5.Sectors,1⟩,some ⟨fl (A2 true) v5.Cache,2⟩,none,none] rfl rfl ?_
        refine RW.cond_t rfl (RW.reg (rl.run 8 rfl (rl.done (RW.sreg (rl.run 1 rfl (rl.done (RW.ret ?_)))))))
        cases h17
        exact RRetS.mk rfl .bool (Gh.trans (Gh.absorbq (b:=0) (j:=0) (m:=9) rfl rfl rfl (by decide) (by decide) rfl (ekS.flen true _) (ekS.fown _)) (Gh.trans (Gh.absorbq (b:=0) (j:=1) (m:=10) rfl rfl rfl (by decide) (by decide) rfl (A1.flen true _) (A1.fown _)) (Gh.trans (Gh.absorbq (b:=0) (j:=3) (m:=3) rfl rfl rfl (by decide) (by decide) (Ao e9) (A9.flen true _) (A9.fown _)) (Gh.renN [0] (.cells rfl rfl .z2 .nil) rfl rfl rfl .nil))))
      ·have h18:=A4 h14 hb
       refine A0.done (RW.cond_t rfl (RW.reg (rl.run 7 rfl (rl.done (RW.seq (RW.sdrw (A0.op rfl rfl (A0.op rfl rfl (A0.op rfl rfl (A0.op rfl rfl (A0.op rfl rfl ?_)))))))))))
       refine A0.op rfl rfl (A0.op rfl rfl ?_)
       refine A0.gen rfl rfl fun b hb=>?_
       cases b
       ·have h19:=A5 h18 hb
        refine A0.done ?_
        refine RW.kp [0,4,155] [(0,.ptr 0 0),(4,.ptr 4 0),(155,.bool false)] [some ⟨[.sl 9 0 v5.Sectors.length,.sl 10 0 v5.Cache.length,.j x0.Segs,.sl 3 0 x0.Used.length,.j x0.NextGen,.j (w64 (x1.Seq + 1)),.j x0.Stamp,.j x0.NextValid],0⟩,some ⟨fl (encS true) x0.Disk.Sectors,1⟩,some ⟨fl (A2 true) x0.Disk.Cache,2⟩,some ⟨fl (A8 true) v9,4⟩,some ⟨B2 false x1,0⟩,none,some ⟨[.j v1.No,.j v1.Gen,.j (w64 (v1.End + (v3.1.length : Int))),.sl 12 0 v7.length],0⟩,some ⟨B9 false v2.1,0⟩,some ⟨A6 false v4.1,0⟩,some ⟨fl (encS true) v5.Sectors,1⟩,some ⟨fl (A2 true) v5.Cache,2⟩,none,none] rfl rfl ?_
        refine RW.cond_f rfl (RW.skip (RW.sreg (rl.run 1 rfl (rl.done (RW.ret ?_)))))
        cases h19
        exact RRetS.mk rfl .bool (Gh.trans (Gh.absorbq (b:=0) (j:=0) (m:=9) rfl rfl rfl (by decide) (by decide) rfl (ekS.flen true _) (ekS.fown _)) (Gh.trans (Gh.absorbq (b:=0) (j:=1) (m:=10) rfl rfl rfl (by decide) (by decide) rfl (A1.flen true _) (A1.fown _)) (Gh.trans (Gh.absorbq (b:=0) (j:=3) (m:=3) rfl rfl rfl (by decide) (by decide) (Ao e9) (A9.flen true _) (A9.fown _)) (Gh.renN [0] (.cells rfl rfl .z2 .nil) rfl rfl rfl .nil))))
       ·have h20:=A4 h18 hb
        refine A0.done ?_
        refine RW.kp [0,4,155] [(0,.ptr 0 0),(4,.ptr 4 0),(155,.bool true)] [some ⟨[.sl 9 0 v5.Sectors.length,.sl 10 0 v5.Cache.length,.j x0.Segs,.sl 3 0 x0.Used.length,.j x0.NextGen,.j (w64 (x1.Seq + 1)),.j x0.Stamp,.j x0.NextValid],0⟩,some ⟨fl (encS true) x0.Disk.Sectors,1⟩,some ⟨fl (A2 true) x0.Disk.Cache,2⟩,some ⟨fl (A8 true) v9,4⟩,some ⟨B2 false x1,0⟩,none,some ⟨[.j v1.No,.j v1.Gen,.j (w64 (v1.End + (v3.1.length : Int))),.sl 12 0 v7.length],0⟩,some ⟨B9 false v2.1,0⟩,some ⟨A6 false v4.1,0⟩,some ⟨fl (encS true) v5.Sectors,1⟩,some ⟨fl (A2 true) v5.Cache,2⟩,none,none] rfl rfl ?_
        refine RW.cond_t rfl (RW.reg (rl.run 8 rfl (rl.done (RW.sreg (rl.run 1 rfl (rl.done (RW.ret ?_)))))))
        cases h20
        exact RRetS.mk rfl .bool (Gh.trans (Gh.absorbq (b:=0) (j:=0) (m:=9) rfl rfl rfl (by decide) (by decide) rfl (ekS.flen true _) (ekS.fown _)) (Gh.trans (Gh.absorbq (b:=0) (j:=1) (m:=10) rfl rfl rfl (by decide) (by decide) rfl (A1.flen true _) (A1.fown _)) (Gh.trans (Gh.absorbq (b:=0) (j:=3) (m:=3) rfl rfl rfl (by decide) (by decide) (Ao e9) (A9.flen true _) (A9.fown _)) (Gh.renN [0] (.cells rfl rfl .z2 .nil) rfl rfl rfl .nil))))
     ·have h21:=A4 h8 hb
      refine RW.cond_t rfl (RW.sreg (rl.run 1 rfl (rl.done ?_)))
      refine RW.gh (Gh.absorb_rawq (b:=3) (j:=3) (m:=5) rfl rfl rfl (by decide) (by decide) rfl (B4.flen true _) (B4.fown _)) ?_
      refine RW.gh (Gh.blk (b:=3) rfl (Ee A9 e1).symm) ?_
      refine RW.ret ?_
      cases h21
      exact RRetS.mk rfl .bool (Gh.trans (Gh.absorbq (b:=0) (j:=0) (m:=1) rfl rfl rfl (by decide) (by decide) rfl (ekS.flen true _) (ekS.fown _)) (Gh.trans (Gh.absorbq (b:=0) (j:=1) (m:=2) rfl rfl rfl (by decide) (by decide) rfl (A1.flen true _) (A1.fown _)) (Gh.trans (Gh.absorbq (b:=0) (j:=3) (m:=3) rfl rfl rfl (by decide) (by decide) rfl (A9.flen true _) (A9.fown _)) (Gh.renN [0] (.cells rfl rfl .z2 .nil) rfl rfl rfl .nil))))
    ·have h22:=A4 h6 hb
     refine rl.done ?_
     refine RW.kp [0,2,4,7,8,10,54] [(0,.ptr 0 0),(2,.j x2),(4,.ptr 4 0),(7,.ptr 6 0),(8,.ptr 7 0),(10,.str v3.1),(54,.bool true)] [some ⟨G7 1 2 3 x0,0⟩,some ⟨fl (encS true) x0.Disk.Sectors,1⟩,some ⟨fl (A2 true) x0.Disk.Cache,2⟩,some ⟨fl (A8 true) (x0.Used.take (w64 ((x0.Used.length : Int) - 1)).toNat) ++ ((F9 5 v1) ++ fl (A8 true) (x0.Used.drop ((w64 ((x0.Used.length : Int) - 1)).toNat + 1))),4⟩,some ⟨B2 false x1,0⟩,some ⟨fl (B2 true) v1.Items,9⟩,some ⟨F9 5 v1,0⟩,some ⟨B9 false v2.1,0⟩] rfl rfl ?_
     refine RW.cond_t rfl (RW.seq ?_)
     refine RW.gh (Gh.absorb_rawq (b:=3) (j:=3) (m:=5) rfl rfl rfl (by decide) (by decide) rfl (B4.flen true _) (B4.fown _)) ?_
     refine RW.gh (Gh.blk (b:=3) rfl (Ee A9 e1).symm) ?_
     refine RW.gh (Gh.absorbq (b:=0) (j:=0) (m:=1) rfl rfl rfl (by decide) (by decide) rfl (ekS.flen true _) (ekS.fown _)) ?_
     refine RW.gh (Gh.absorbq (b:=0) (j:=1) (m:=2) rfl rfl rfl (by decide) (by decide) rfl (A1.flen true _) (A1.fown _)) ?_
     refine RW.gh (Gh.absorbq (b:=0) (j:=3) (m:=3) rfl rfl rfl (by decide) (by decide) rfl (A9.flen true _) (A9.fown _)) ?_
     refine RW.sreg (rl.run 2 rfl ?_)
     obtain ⟨v10,e10,h23⟩:=A3 h22
     refine rl.call rfl rfl rfl (A7.embW (r0:=.bool v10.1) (H':=[some ⟨B5 true v10.2,0⟩,none,none,none,some ⟨B2 false x1,0⟩,none,some ⟨F9 5 v1,0⟩,some ⟨B9 false v2.1,0⟩]) [⟨B5 true x0,0⟩] [⟨B5 true v10.2,0⟩] [0] Kc (Mp e10) (.cons rfl (fac (ekS.rlst) (fac (A1.rlst) (fac .int (fac (A9.rlst) (fac .int (fac .int (fac .int (fac .int fan)))))))) (fac (.lst (ekS.fown _)) (fac (.lst (A1.fown _)) (fac .int (fac (.lst (A9.fown _)) (fac .int (fac .int (fac .int (fac .int fan)))))))) .nil) rfl (.cons (.ptr rfl) (.cons (.dat .int) .nil)) .bool rfl rfl ?_)
     cases hb : v10.1
     ·have h24:=A5 h23 hb
      refine rl.run 1 rfl (rl.done ?_)
      refine RW.gh (Gh.expose (b:=0) (j:=0) rfl rfl (by decide) (ekS.fown _)) ?_
      refine RW.gh (Gh.expose (b:=0) (j:=1) rfl rfl (by decide) (A1.fown _)) ?_
      refine RW.gh (Gh.expose (b:=0) (j:=3) rfl rfl (by decide) (A9.fown _)) ?_
      refine RW.kp [0,4,7,8,58] [(0,.ptr 0 0),(4,.ptr 4 0),(7,.ptr 6 0),(8,.ptr 7 0),(58,.bool true)] [some ⟨G7 8 9 10 v10.2,0⟩,none,none,none,some ⟨B2 false x1,0⟩,none,some ⟨F9 5 v1,0⟩,some ⟨B9 false v2.1,0⟩,some ⟨fl (encS true) v10.2.Disk.Sectors,1⟩,some ⟨fl (A2 true) v10.2.Disk.Cache,2⟩,some ⟨fl (A8 true) v10.2.Used,4⟩] rfl rfl ?_
      refine RW.cond_t rfl (RW.sreg (rl.run 1 rfl (rl.done (RW.ret ?_))))
      cases h24
      exact RRetS.mk rfl .bool (Gh.trans (Gh.absorbq (b:=0) (j:=0) (m:=8) rfl rfl rfl (by decide) (by decide) rfl (ekS.flen true _) (ekS.fown _)) (Gh.trans (Gh.absorbq (b:=0) (j:=1) (m:=9) rfl rfl rfl (by decide) (by decide) rfl (A1.flen true _) (A1.fown _)) (Gh.trans (Gh.absorbq (b:=0) (j:=3) (m:=10) rfl rfl rfl (by decide) (by decide) rfl (A9.flen true _) (A9.fown _)) (Gh.renN [0] (.cells rfl rfl .z2 .nil) rfl rfl rfl .nil))))
     ·have h25:=A4 h23 hb
      refine rl.run 1 rfl (rl.done ?_)
      refine RW.gh (Gh.expose (b:=0) (j:=0) rfl rfl (by decide) (ekS.fown _)) ?_
      refine RW.gh (Gh.expose (b:=0) (j:=1) rfl rfl (by decide) (A1.fown _)) ?_
      refine RW.gh (Gh.expose (b:=0) (j:=3) rfl rfl (by decide) (A9.fown _)) ?_
      refine RW.kp [0,4,7,8,58] [(0,.ptr 0 0),(4,.ptr 4 0),(7,.ptr 6 0),(8,.ptr 7 0),(58,.bool false)] [some ⟨G7 8 9 10 v10.2,0⟩,none,none,none,some ⟨B2 false x1,0⟩,none,some ⟨F9 5 v1,0⟩,some ⟨B9 false v2.1,0⟩,some ⟨fl (encS true) v10.2.Disk.Sectors,1⟩,some ⟨fl (A2 true) v10.2.Disk.Cache,2⟩,some ⟨fl (A8 true) v10.2.Used,4⟩] rfl rfl ?_
      refine RW.cond_f rfl (RW.skip ?_)
      obtain ⟨v11,e11,h26⟩:=A3 h25
      refine RW.gh (Gh.blk (b:=10) rfl (Ee A9 e11)) ?_
      refine RW.gh (Gh.expose_raw (b:=10) (j:=3) rfl rfl (by decide) (B4.fown _)) ?_
      refine RW.sdrw (A0.op rfl rfl (A0.op rfl rfl (A0.op rfl rfl (A0.op rfl rfl (A0.op rfl rfl (A0.op rfl rfl (A0.op rfl rfl (A0.op rfl rfl (A0.op rfl rfl (A0.op rfl rfl ?_))))))))))
      refine A0.op rfl (Eo rfl rfl rfl rfl e11) ?_
      refine A0.op rfl (Ul (off':=0) (us:=(F9 11 v11)) A9 rfl rfl e11 rfl rfl rfl) ?_
      refine A0.chn rfl rfl ?_
      refine A0.done ?_
      refine RW.kp [0,4,7,8] [(0,.ptr 0 0),(4,.ptr 4 0),(7,.ptr 6 0),(8,.ptr 7 0)] [some ⟨G7 8 9 10 v10.2,0⟩,none,none,none,some ⟨B2 false x1,0⟩,none,some ⟨F9 11 v11,0⟩,some ⟨B9 false v2.1,0⟩,some ⟨fl (encS true) v10.2.Disk.Sectors,1⟩,some ⟨fl (A2 true) v10.2.Disk.Cache,2⟩,some ⟨fl (A8 true) (v10.2.Used.take (w64 ((v10.2.Used.length : Int) - 1)).toNat) ++ ((F9 11 v11) ++ fl (A8 true) (v10.2.Used.drop ((w64 ((v10.2.Used.length : Int) - 1)).toNat + 1))),4⟩,some ⟨fl (B2 true) v11.Items,9⟩] rfl rfl ?_
      refine RW.sreg (rl.run 4 rfl (rl.done (RW.sreg (rl.run 1 rfl ?_))))
      obtain ⟨v12,e12,h27⟩:=A3 h26
      refine rl.call rfl rfl rfl (A7.val (r':=.tup [.str v12.1,.bool v12.2]) Ag (Z0 e12) (.cons (DFL.agg (.cons .int (.cons .int (.cons .str .nil)))) .nil) (FlL.tup (.cons .refl (.cons .refl .nil))) ?_)
      refine rl.run 5 rfl (rl.done (RW.seq (RW.reg (rl.run 3 rfl ?_))))
      cases hb : (!v12.2)
      ·have h28:=A5 h27 hb
       refine rl.run 5 rfl ?_
       refine rl.gen rfl rfl fun b hb=>?_
       cases b
       ·have h29:=A5 h28 hb
        refine rl.run 1 rfl (rl.done (RW.cond_f rfl (RW.skip (RW.sdrw (A0.op rfl rfl (A0.op rfl rfl (A0.op rfl rfl (A0.op rfl rfl (A0.op rfl rfl (A0.op rfl rfl (A0.op rfl rfl ?_)))))))))))
        refine A0.op rfl rfl (A0.op rfl rfl ?_)
        obtain ⟨v13,e13,h30⟩:=A3 h29
        refine A0.call rfl rfl rfl (A7.val (r':=.tup [.agg (A6 false v13.1),.bool v13.2]) L3 (K8 e13) (.cons (DFL.agg (.cons (.slq ekS rfl rfl) (.cons (.slq A1 rfl rfl) .nil))) (.cons .int (.cons .int (.cons .str .nil)))) (FlL.tup (.cons (C9.flag _).agg (.cons .refl .nil))) ⟨rfl,?_⟩)
        refine A0.op rfl rfl (A0.op rfl rfl (A0.op rfl rfl ?_))
        refine A0.chnB rfl rfl (.here (.rx rfl) (.here (.rx rfl) (.here (.rx rfl) (.here (.cl rfl rfl (A7.val (r':=.tup [.agg (A6 false v13.1),.bool v13.2]) L3 (K8 e13) (.cons (DFL.agg (.cons (.slq ekS rfl rfl) (.cons (.slq A1 rfl rfl) .nil))) (.cons .int (.cons .int (.cons .str .nil)))) (FlL.tup (.cons (C9.flag _).agg (.cons .refl .nil))) ⟨rfl,rfl⟩)) (.here (.rx rfl) (.here (.rx rfl) (.here (.rx rfl) (.here (.rx rfl) (.here (.rx rfl) (.here (.rx rfl) (.here (.rx rfl) (.here (.rx rfl) (.here (.rx rfl) .nil))))))))))))) ?_
        refine A0.chnB rfl rfl (.here (.rx rfl) (.skip rfl (.skip rfl (.skip rfl (.skip rfl (.skip rfl (.skip rfl (.skip rfl (.skip rfl (.skip rfl (.skip rfl (.skip rfl (.skip rfl .nil))))))))))))) ?_
        refine A0.op rfl rfl (A0.done ?_)
        refine RW.kp [0,4,7,10,12,13] [(0,.ptr 0 0),(4,.ptr 4 0),(7,.ptr 6 0),(10,.str v12.1),(12,.ptr 12 0),(13,.bool v13.2)] [some ⟨G7 8 9 10 v10.2,0⟩,none,none,none,some ⟨B2 false x1,0⟩,none,some ⟨F9 11 v11,0⟩,some ⟨[.j v11.Gen,.j v2.1.Seq,.str v2.1.Body],0⟩,some ⟨fl (encS true) v10.2.Disk.Sectors,1⟩,some ⟨fl (A2 true) v10.2.Disk.Cache,2⟩,some ⟨fl (A8 true) (v10.2.Used.take (w64 ((v10.2.Used.length : Int) - 1)).toNat) ++ ((F9 11 v11) ++ fl (A8 true) (v10.2.Used.drop ((w64 ((v10.2.Used.length : Int) - 1)).toNat + 1))),4⟩,some ⟨fl (B2 true) v11.Items,9⟩,some ⟨A6 false v13.1,0⟩] rfl rfl ?_
        refine RW.seq (RW.sreg (rl.run 2 rfl (rl.done ?_)))
        cases hb : (!v13.2)
        ·have h31:=A5 h30 hb
         refine RW.cond_f rfl (RW.skip (RW.sreg (rl.run 2 rfl ?_)))
         obtain ⟨v14,e14,h32⟩:=A3 h31
         refine rl.call rfl rfl rfl (A7.own (r':=.agg (B8 13 14 v14)) (H':=[some ⟨G7 8 9 10 v10.2,0⟩,none,none,none,some ⟨B2 false x1,0⟩,none,some ⟨F9 11 v11,0⟩,some ⟨[.j v11.Gen,.j v2.1.Seq,.str v2.1.Body],0⟩,some ⟨fl (encS true) v10.2.Disk.Sectors,1⟩,some ⟨fl (A2 true) v10.2.Disk.Cache,2⟩,some ⟨fl (A8 true) (v10.2.Used.take (w64 ((v10.2.Used.length : Int) - 1)).toNat) ++ ((F9 11 v11) ++ fl (A8 true) (v10.2.Used.drop ((w64 ((v10.2.Used.length : Int) - 1)).toNat + 1))),4⟩,some ⟨fl (B2 true) v11.Items,9⟩,some ⟨A6 false v13.1,0⟩,some ⟨fl (encS true) v14.Sectors,1⟩,some ⟨fl (A2 true) v14.Cache,2⟩]) U4 (T3 e14) (.cons (DFL.agg (.cons (.lst ekS) (.cons (.lst A1) .nil))) .nil) (C9.own _) rfl ?_)
         refine rl.run 3 rfl (rl.done (RW.sreg (rl.run 7 rfl (rl.done ?_))))
         refine RW.kp [0,4,7] [(0,.ptr 0 0),(4,.ptr 4 0),(7,.ptr 6 0)] [some ⟨[.sl 13 0 v14.Sectors.length,.sl 14 0 v14.Cache.length,.j v10.2.Segs,.sl 10 0 v10.2.Used.length,.j v10.2.NextGen,.j v10.2.NextSeq,.j v10.2.Stamp,.j v10.2.NextValid],0⟩,none,none,none,some ⟨B2 false x1,0⟩,none,some ⟨[.j v11.No,.j v11.Gen,.j (w64 (v11.End + (v12.1.length : Int))),.sl 11 0 v11.Items.length],0⟩,some ⟨[.j v11.Gen,.j v2.1.Seq,.str v2.1.Body],0⟩,some ⟨fl (encS true) v10.2.Disk.Sectors,1⟩,some ⟨fl (A2 true) v10.2.Disk.Cache,2⟩,some ⟨fl (A8 true) (v10.2.Used.take (w64 ((v10.2.Used.length : Int) - 1)).toNat) ++ ((F9 11 v11) ++ fl (A8 true) (v10.2.Used.drop ((w64 ((v10.2.Used.length : Int) - 1)).toNat + 1))),4⟩,some ⟨fl (B2 true) v11.Items,9⟩,some ⟨A6 false v13.1,0⟩,some ⟨fl (encS true) v14.Sectors,1⟩,some ⟨fl (A2 true) v14.Cache,2⟩] rfl rfl ?_
         refine RW.sdrw (A0.op rfl rfl (A0.op rfl rfl (A0.op rfl rfl ?_)))
         obtain ⟨v15,e15,h33⟩:=A3 h32
         refine A0.chn rfl (Z4 rfl rfl (Li (m:=v11.Items) (o:=true) B4 (P8 (m:=v11.Items) (o:=true) Cl rfl rfl) rfl (Cl.fst _ _) e15)) ?_
         refine A0.opA rfl rfl (.here (.rx rfl) .nil) ?_
         refine A0.litA (u:=J9 ([x1] : List TItem)) rfl rfl (Lit.mk rfl rfl) (.here (.lit rfl (Lit.mk rfl rfl)) .nil) ?_
         obtain ⟨v16,e16,h34⟩:=A3 h33
         refine A0.chn rfl (Z4 rfl rfl (V5 (l:=v15) (m:=([x1] : List TItem)) (o:=true) B4 rfl rfl Eh rfl (Cl.fst _ _) e16)) ?_
         refine A0.op rfl rfl ?_
         refine A0.chn rfl rfl ?_
         refine A0.done ?_
         refine RW.gh (Gh.absorb_rawq (b:=10) (j:=3) (m:=11) rfl rfl rfl (by decide) (by decide) rfl (B4.flen true _) (B4.fown _)) ?_
         refine RW.gh (Gh.blk (b:=10) rfl (Ee A9 e11).symm) ?_
         refine RW.sdrw (A0.op rfl rfl (A0.op rfl rfl (A0.op rfl rfl (A0.op rfl rfl (A0.op rfl rfl (A0.op rfl rfl (A0.op rfl rfl (A0.op rfl rfl (A0.op rfl rfl (A0.op rfl rfl (A0.op rfl rfl ?_)))))))))))
         obtain ⟨v17,e17,h35⟩:=A3 h34
         refine A0.op rfl (Eo rfl rfl rfl rfl e17) ?_
         obtain ⟨v18,e18,h36⟩:=A3 h35
         refine A0.chn rfl (A60 (off':=0) A9 e17 rfl rfl rfl rfl rfl rfl rfl rfl) ?_
         refine A0.done ?_
         refine RW.gh (Gh.absorb_rawq (b:=10) (j:=3) (m:=16) rfl rfl rfl (by decide) (by decide) rfl (B4.flen true _) (B4.fown _)) ?_
         refine RW.gh (Gh.blk (b:=10) rfl (A7o A9 e17 e18 rfl)) ?_
         refine RW.kp [0,4] [(0,.ptr 0 0),(4,.ptr 4 0)] [some ⟨[.sl 13 0 v14.Sectors.length,.sl 14 0 v14.Cache.length,.j v10.2.Segs,.sl 10 0 v10.2.Used.length,.j v10.2.NextGen,.j v10.2.NextSeq,.j v10.2.Stamp,.j v10.2.NextValid],0⟩,none,none,none,some ⟨B2 false x1,0⟩,none,some ⟨[.j v11.No,.j v11.Gen,.j (w64 (v11.End + (v12.1.length : Int))),.sl 16 0 v16.length],0⟩,some ⟨[.j v11.Gen,.j v2.1.Seq,.str v2.1.Body],0⟩,some ⟨fl (encS true) v10.2.Disk.Sectors,1⟩,some ⟨fl (A2 true) v10.2.Disk.Cache,2⟩,some ⟨fl (A8 true) v18,4⟩,none,some ⟨A6 false v13.1,0⟩,some ⟨fl (encS true) v14.Sectors,1⟩,some ⟨fl (A2 true) v14.Cache,2⟩,none,none] rfl rfl ?_
         refine RW.seq (RW.sdrw (A0.op rfl rfl (A0.op rfl rfl (A0.op rfl rfl (A0.op rfl rfl (A0.op rfl rfl (A0.op rfl rfl ?_)))))))
         refine A0.gen rfl rfl fun b hb=>?_
         cases b
         ·have h37:=A5 h36 hb
          refine A0.done (RW.cond_f rfl (RW.skip (RW.seq (RW.sdrw (A0.op rfl rfl (A0.op rfl rfl (A0.op rfl rfl (A0.op rfl rfl (A0.op rfl rfl (A0.op rfl rfl (A0.op rfl rfl ?_)))))))))))
          refine A0.gen rfl rfl fun b hb=>?_
          cases b
          ·have h38:=A5 h37 hb
           refine A0.done ?_
           refine RW.kp [0,4,155] [(0,.ptr 0 0),(4,.ptr 4 0),(155,.bool false)] [some ⟨[.sl 13 0 v14.Sectors.length,.sl 14 0 v14.Cache.length,.j v10.2.Segs,.sl 10 0 v10.2.Used.length,.j v10.2.NextGen,.j v10.2.NextSeq,.j v10.2.Stamp,.j v10.2.NextValid],0⟩,none,none,none,some ⟨B2 false x1,0⟩,none,some ⟨[.j v11.No,.j v11.Gen,.j (w64 (v11.End + (v12.1.length : Int))),.sl 16 0 v16.length],0⟩,some ⟨[.j v11.Gen,.j v2.1.Seq,.str v2.1.Body],0⟩,some ⟨fl (encS true) v10.2.Disk.Sectors,1⟩,some ⟨fl (A2 true) v10.2.Disk.Cache,2⟩,some ⟨fl (A8 true) v18,4⟩,none,some ⟨A6 false v13.1,0⟩,some ⟨fl (encS true) v14.Sectors,1⟩,some ⟨fl (A2 true) v14.Cache,2⟩,none,none] rfl rfl ?_
           refine RW.cond_f rfl (RW.skip (RW.sreg (rl.run 1 rfl (rl.done (RW.ret ?_)))))
           cases h38
           exact RRetS.mk rfl .bool (Gh.trans (Gh.absorbq (b:=0) (j:=0) (m:=13) rfl rfl rfl (by decide) (by decide) rfl (ekS.flen true _) (ekS.fown _)) (Gh.trans (Gh.absorbq (b:=0) (j:=1) (m:=14) rfl rfl rfl (by decide) (by decide) rfl (A1.flen true _) (A1.fown _)) (Gh.trans (Gh.absorbq (b:=0) (j:=3) (m:=10) rfl rfl rfl (by decide) (by decide) (Ao e18) (A9.flen true _) (A9.fown _)) (Gh.renN [0] (.cells rfl rfl .z2 .nil) rfl rfl rfl .nil))))
          ·have h39:=A4 h37 hb
           refine A0.done ?_
           refine RW.kp [0,4,155] [(0,.ptr 0 0),(4,.ptr 4 0),(155,.bool true)] [some ⟨[.sl 13 0 v14.Sectors.length,.sl 14 0 v14.Cache.length,.j v10.2.Segs,.sl 10 0 v10.2.Used.length,.j v10.2.NextGen,.j v10.2.NextSeq,.j v10.2.Stamp,.j v10.2.NextValid],0⟩,none,none,none,some ⟨B2 false x1,0⟩,none,some ⟨[.j v11.No,.j v11.Gen,.j (w64 (v11.End + (v12.1.length : Int))),.sl 16 0 v16.length],0⟩,some ⟨[.j v11.Gen,.j v2.1.Seq,.str v2.1.Body],0⟩,some ⟨fl (encS true) v10.2.Disk.Sectors,1⟩,some ⟨fl (A2 true) v10.2.Disk.Cache,2⟩,some ⟨fl (A8 true) v18,4⟩,none,some ⟨A6 false v13.1,0⟩,some ⟨fl (encS true) v14.Sectors,1⟩,some ⟨fl (A2 true) v14.Cache,2⟩,none,none] rfl rfl ?_
           refine RW.cond_t rfl (RW.reg (rl.run 8 rfl (rl.done (RW.sreg (rl.run 1 rfl (rl.done (RW.ret ?_)))))))
           cases h39
           exact RRetS.mk rfl .bool (Gh.trans (Gh.absorbq (b:=0) (j:=0) (m:=13) rfl rfl rfl (by decide) (by decide) rfl (ekS.flen true _) (ekS.fown _)) (Gh.trans (Gh.absorbq (b:=0) (j:=1) (m:=14) rfl rfl rfl (by decide) (by decide) rfl (A1.flen true _) (A1.fown _)) (Gh.trans (Gh.absorbq (b:=0) (j:=3) (m:=10) rfl rfl rfl (by decide) (by decide) (Ao e18) (A9.flen true _) (A9.fown _)) (Gh.renN [0] (.cells rfl rfl .z2 .nil) rfl rfl rfl .nil))))
         ·have h40:=A4 h36 hb
          refine A0.done (RW.cond_t rfl (RW.reg (rl.run 7 rfl (rl.done (RW.seq (RW.sdrw (A0.op rfl rfl (A0.op rfl rfl (A0.op rfl rfl (A0.op rfl rfl (A0.op rfl rfl ?_)))))))))))
          refine A0.op rfl rfl (A0.op rfl rfl ?_)
          refine A0.gen rfl rfl fun b hb=>?_
          cases b
          ·have h41:=A5 h40 hb
           refine A0.done ?_
           refine RW.kp [0,4,155] [(0,.ptr 0 0),(4,.ptr 4 0),(155,.bool false)] [some ⟨[.sl 13 0 v14.Sectors.length,.sl 14 0 v14.Cache.length,.j v10.2.Segs,.sl 10 0 v10.2.Used.length,.j v10.2.NextGen,.j (w64 (x1.Seq + 1)),.j v10.2.Stamp,.j v10.2.NextValid],0⟩,none,none,none,some ⟨B2 false x1,0⟩,none,some ⟨[.j v11.No,.j v11.Gen,.j (w64 (v11.End + (v12.1.length : Int))),.sl 16 0 v16.length],0⟩,some ⟨[.j v11.Gen,.j v2.1.Seq,.str v2.1.Body],0⟩,some ⟨fl (encS true) v10.2.Disk.Sectors,1⟩,some ⟨fl (A2 true) v10.2.Disk.Cache,2⟩,some ⟨fl (A8 true) v18,4⟩,none,some ⟨A6 false v13.1,0⟩,some ⟨fl (encS true) v14.Sectors,1⟩,some ⟨fl (A2 true) v14.Cache,2⟩,none,none] rfl rfl ?_
           refine RW.cond_f rfl (RW.skip (RW.sreg (rl.run 1 rfl (rl.done (RW.ret ?_)))))
           cases h41
           exact RRetS.mk rfl .bool (Gh.trans (Gh.absorbq (b:=0) (j:=0) (m:=13) rfl rfl rfl (by decide) (by decide) rfl (ekS.flen true _) (ekS.fown _)) (Gh.trans (Gh.absorbq (b:=0) (j:=1) (m:=14) rfl rfl rfl (by decide) (by decide) rfl (A1.flen true _) (A1.fown _)) (Gh.trans (Gh.absorbq (b:=0) (j:=3) (m:=10) rfl rfl rfl (by decide) (by decide) (Ao e18) (A9.flen true _) (A9.fown _)) (Gh.renN [0] (.cells rfl rfl .z2 .nil) rfl rfl rfl .nil))))
          ·have h42:=A4 h40 hb
           refine A0.done ?_
           refine RW.kp [0,4,155] [(0,.ptr 0 0),(4,.ptr 4 0),(155,.bool true)] [some ⟨[.sl 13 0 v14.Sectors.length,.sl 14 0 v14.Cache.length,.j v10.2.Segs,.sl 10 0 v10.2.Used.length,.j v10.2.NextGen,.j (w64 (x1.Seq + 1)),.j v10.2.Stamp,.j v10.2.NextValid],0⟩,none,none,none,some ⟨B2 false x1,0⟩,none,some ⟨[.j v11.No,.j v11.Gen,.j (w64 (v11.End + (v12.1.length : Int))),.sl 16 0 v16.length],0⟩,some ⟨[.j v11.Gen,.j v2.1.Seq,.str v2.1.Body],0⟩,some ⟨fl (encS true) v10.2.Disk.Sectors,1⟩,some ⟨fl (A2 true) v10.2.Disk.Cache,2⟩,some ⟨fl (A8 true) v18,4⟩,none,some ⟨A6 false v13.1,0⟩,some ⟨fl (encS true) v14.Sectors,1⟩,some ⟨fl (A2 true) v14.Cache,2⟩,none,none] rfl rfl ?_
           refine RW.cond_t rfl (RW.reg (rl.run 8 rfl (rl.done (RW.sreg (rl.run 1 rfl (rl.done (RW.ret ?_)))))))
           cases h42
           exact RRetS.mk rfl .bool (Gh.trans (Gh.absorbq (b:=0) (j:=0) (m:=13) rfl rfl rfl (by decide) (by decide) rfl (ekS.flen true _) (ekS.fown _)) (Gh.trans (Gh.absorbq (b:=0) (j:=1) (m:=14) rfl rfl rfl (by decide) (by decide) rfl (A1.flen true _) (A1.fown _)) (Gh.trans (Gh.absorbq (b:=0) (j:=3) (m:=10) rfl rfl rfl (by decide) (by decide) (Ao e18) (A9.flen true _) (A9.fown _)) (Gh.renN [0] (.cells rfl rfl .z2 .nil) rfl rfl rfl .nil))))
        ·have h43:=A4 h30 hb
         refine RW.cond_t rfl (RW.sreg (rl.run 1 rfl (rl.done ?_)))
         refine RW.gh (Gh.absorb_rawq (b:=10) (j:=3) (m:=11) rfl rfl rfl (by decide) (by decide) rfl (B4.flen true _) (B4.fown _)) ?_
         refine RW.gh (Gh.blk (b:=10) rfl (Ee A9 e11).symm) ?_
         refine RW.ret ?_
         cases h43
         exact RRetS.mk rfl .bool (Gh.trans (Gh.absorbq (b:=0) (j:=0) (m:=8) rfl rfl rfl (by decide) (by decide) rfl (ekS.flen true _) (ekS.fown _)) (Gh.trans (Gh.absorbq (b:=0) (j:=1) (m:=9) rfl rfl rfl (by decide) (by decide) rfl (A1.flen true _) (A1.fown _)) (Gh.trans (Gh.absorbq (b:=0) (j:=3) (m:=10) rfl rfl rfl (by decide) (by decide) rfl (A9.flen true _) (A9.fown _)) (Gh.renN [0] (.cells rfl rfl .z2 .nil) rfl rfl rfl .nil))))
       ·have h44:=A4 h28 hb
        refine rl.run 1 rfl (rl.done (RW.cond_t rfl (RW.sreg (rl.run 1 rfl (rl.done ?_)))))
        refine RW.kp [6] [(6,.bool false)] [some ⟨G7 8 9 10 v10.2,0⟩,none,none,none,some ⟨B2 false x1,0⟩,none,some ⟨F9 11 v11,0⟩,some ⟨[.j v11.Gen,.j v2.1.Seq,.str v2.1.Body],0⟩,some ⟨fl (encS true) v10.2.Disk.Sectors,1⟩,some ⟨fl (A2 true) v10.2.Disk.Cache,2⟩,some ⟨fl (A8 true) (v10.2.Used.take (w64 ((v10.2.Used.length : Int) - 1)).toNat) ++ ((F9 11 v11) ++ fl (A8 true) (v10.2.Used.drop ((w64 ((v10.2.Used.length : Int) - 1)).toNat + 1))),4⟩,some ⟨fl (B2 true) v11.Items,9⟩] rfl rfl ?_
        refine RW.gh (Gh.absorb_rawq (b:=10) (j:=3) (m:=11) rfl rfl rfl (by decide) (by decide) rfl (B4.flen true _) (B4.fown _)) ?_
        refine RW.gh (Gh.blk (b:=10) rfl (Ee A9 e11).symm) ?_
        refine RW.ret ?_
        cases h44
        exact RRetS.mk rfl .bool (Gh.trans (Gh.absorbq (b:=0) (j:=0) (m:=8) rfl rfl rfl (by decide) (by decide) rfl (ekS.flen true _) (ekS.fown _)) (Gh.trans (Gh.absorbq (b:=0) (j:=1) (m:=9) rfl rfl rfl (by decide) (by decide) rfl (A1.flen true _) (A1.fown _)) (Gh.trans (Gh.absorbq (b:=0) (j:=3) (m:=10) rfl rfl rfl (by decide) (by decide) rfl (A9.flen true _) (A9.fown _)) (Gh.renN [0] (.cells rfl rfl .z2 .nil) rfl rfl rfl .nil))))
      ·have h45:=A4 h27 hb
       refine rl.run 7 rfl (rl.done (RW.cond_t rfl (RW.sreg (rl.run 1 rfl (rl.done ?_)))))
       refine RW.kp [6] [(6,.bool false)] [some ⟨G7 8 9 10 v10.2,0⟩,none,none,none,some ⟨B2 false x1,0⟩,none,some ⟨F9 11 v11,0⟩,some ⟨[.j v11.Gen,.j v2.1.Seq,.str v2.1.Body],0⟩,some ⟨fl (encS true) v10.2.Disk.Sectors,1⟩,some ⟨fl (A2 true) v10.2.Disk.Cache,2⟩,some ⟨fl (A8 true) (v10.2.Used.take (w64 ((v10.2.Used.length : Int) - 1)).toNat) ++ ((F9 11 v11) ++ fl (A8 true) (v10.2.Used.drop ((w64 ((v10.2.Used.length : Int) - 1)).toNat + 1))),4⟩,some ⟨fl (B2 true) v11.Items,9⟩] rfl rfl ?_
       refine RW.gh (Gh.absorb_rawq (b:=10) (j:=3) (m:=11) rfl rfl rfl (by decide) (by decide) rfl (B4.flen true _) (B4.fown _)) ?_
       refine RW.gh (Gh.blk (b:=10) rfl (Ee A9 e11).symm) ?_
       refine RW.ret ?_
       cases h45
       exact RRetS.mk rfl .bool (Gh.trans (Gh.absorbq (b:=0) (j:=0) (m:=8) rfl rfl rfl (by decide) (by decide) rfl (ekS.flen true _) (ekS.fown _)) (Gh.trans (Gh.absorbq (b:=0) (j:=1) (m:=9) rfl rfl rfl (by decide) (by decide) rfl (A1.flen true _) (A1.fown _)) (Gh.trans (Gh.absorbq (b:=0) (j:=3) (m:=10) rfl rfl rfl (by decide) (by decide) rfl (A9.flen true _) (A9.fown _)) (Gh.renN [0] (.cells rfl rfl .z2 .nil) rfl rfl rfl .nil))))
   ·have h46:=A4 h5 hb
    refine rl.run 1 rfl (rl.done (RW.cond_t rfl (RW.sreg (rl.run 1 rfl (rl.done ?_)))))
    refine RW.kp [6] [(6,.bool false)] [some ⟨G7 1 2 3 x0,0⟩,some ⟨fl (encS true) x0.Disk.Sectors,1⟩,some ⟨fl (A2 true) x0.Disk.Cache,2⟩,some ⟨fl (A8 true) (x0.Used.take (w64 ((x0.Used.length : Int) - 1)).toNat) ++ ((F9 5 v1) ++ fl (A8 true) (x0.Used.drop ((w64 ((x0.Used.length : Int) - 1)).toNat + 1))),4⟩,some ⟨B2 false x1,0⟩,some ⟨fl (B2 true) v1.Items,9⟩,some ⟨F9 5 v1,0⟩,some ⟨B9 false v2.1,0⟩] rfl rfl ?_
    refine RW.gh (Gh.absorb_rawq (b:=3) (j:=3) (m:=5) rfl rfl rfl (by decide) (by decide) rfl (B4.flen true _) (B4.fown _)) ?_
    refine RW.gh (Gh.blk (b:=3) rfl (Ee A9 e1).symm) ?_
    refine RW.ret ?_
    cases h46
    exact RRetS.mk rfl .bool (Gh.trans (Gh.absorbq (b:=0) (j:=0) (m:=1) rfl rfl rfl (by decide) (by decide) rfl (ekS.flen true _) (ekS.fown _)) (Gh.trans (Gh.absorbq (b:=0) (j:=1) (m:=2) rfl rfl rfl (by decide) (by decide) rfl (A1.flen true _) (A1.fown _)) (Gh.trans (Gh.absorbq (b:=0) (j:=3) (m:=3) rfl rfl rfl (by decide) (by decide) rfl (A9.flen true _) (A9.fown _)) (Gh.renN [0] (.cells rfl rfl .z2 .nil) rfl rfl rfl .nil))))
  ·have h47:=A4 h4 hb
   refine rl.run 4 rfl (rl.done (RW.cond_t rfl (RW.sreg (rl.run 1 rfl (rl.done ?_)))))
   refine RW.kp [6] [(6,.bool false)] [some ⟨G7 1 2 3 x0,0⟩,some ⟨fl (encS true) x0.Disk.Sectors,1⟩,some ⟨fl (A2 true) x0.Disk.Cache,2⟩,some ⟨fl (A8 true) (x0.Used.take (w64 ((x0.Used.length : Int) - 1)).toNat) ++ ((F9 5 v1) ++ fl (A8 true) (x0.Used.drop ((w64 ((x0.Used.length : Int) - 1)).toNat + 1))),4⟩,some ⟨B2 false x1,0⟩,some ⟨fl (B2 true) v1.Items,9⟩,some ⟨F9 5 v1,0⟩,some ⟨B9 false v2.1,0⟩] rfl rfl ?_
   refine RW.gh (Gh.absorb_rawq (b:=3) (j:=3) (m:=5) rfl rfl rfl (by decide) (by decide) rfl (B4.flen true _) (B4.fown _)) ?_
   refine RW.gh (Gh.blk (b:=3) rfl (Ee A9 e1).symm) ?_
   refine RW.ret ?_
   cases h47
   exact RRetS.mk rfl .bool (Gh.trans (Gh.absorbq (b:=0) (j:=0) (m:=1) rfl rfl rfl (by decide) (by decide) rfl (ekS.flen true _) (ekS.fown _)) (Gh.trans (Gh.absorbq (b:=0) (j:=1) (m:=2) rfl rfl rfl (by decide) (by decide) rfl (A1.flen true _) (A1.fown _)) (Gh.trans (Gh.absorbq (b:=0) (j:=3) (m:=3) rfl rfl rfl (by decide) (by decide) rfl (A9.flen true _) (A9.fown _)) (Gh.renN [0] (.cells rfl rfl .z2 .nil) rfl rfl rfl .nil))))
 ·have h48:=A4 h3 hb
  refine rl.run 8 rfl (rl.done (RW.cond_t rfl (RW.sreg (rl.run 1 rfl (rl.done ?_)))))
  refine RW.kp [6] [(6,.bool false)] [some ⟨G7 1 2 3 x0,0⟩,some ⟨fl (encS true) x0.Disk.Sectors,1⟩,some ⟨fl (A2 true) x0.Disk.Cache,2⟩,some ⟨fl (A8 true) (x0.Used.take (w64 ((x0.Used.length : Int) - 1)).toNat) ++ ((F9 5 v1) ++ fl (A8 true) (x0.Used.drop ((w64 ((x0.Used.length : Int) - 1)).toNat + 1))),4⟩,some ⟨B2 false x1,0⟩,some ⟨fl (B2 true) v1.Items,9⟩,some ⟨F9 5 v1,0⟩,some ⟨B9 false v2.1,0⟩] rfl rfl ?_
  refine RW.gh (Gh.absorb_rawq (b:=3) (j:=3) (m:=5) rfl rfl rfl (by decide) (by decide) rfl (B4.flen true _) (B4.fown _)) ?_
  refine RW.gh (Gh.blk (b:=3) rfl (Ee A9 e1).symm) ?_
  refine RW.ret ?_
  cases h48
  exact RRetS.mk rfl .bool (Gh.trans (Gh.absorbq (b:=0) (j:=0) (m:=1) rfl rfl rfl (by decide) (by decide) rfl (ekS.flen true _) (ekS.fown _)) (Gh.trans (Gh.absorbq (b:=0) (j:=1) (m:=2) rfl rfl rfl (by decide) (by decide) rfl (A1.flen true _) (A1.fown _)) (Gh.trans (Gh.absorbq (b:=0) (j:=3) (m:=3) rfl rfl rfl (by decide) (by decide) rfl (A9.flen true _) (A9.fown _)) (Gh.renN [0] (.cells rfl rfl .z2 .nil) rfl rfl rfl .nil))))
set_option maxHeartbeats 2000000 in
theorem Qr {x0 : TL01Cur} {B0_ o0_ : Nat} {r : TLog × TL01Cur} (hF : Z5 x0 = some r) : C4 Tryz.prog 0 46 [.ptr 0 0] [some ⟨[pvB B0_ o0_ x0.mB,.j x0.mI,.j x0.mH],0⟩] (.agg (G7 1 2 3 r.1)) [some ⟨[pvB B0_ o0_ x0.mB,.j r.2.mI,.j r.2.mH],0⟩,some ⟨fl (encS true) r.1.Disk.Sectors,1⟩,some ⟨fl (A2 true) r.1.Disk.Cache,2⟩,some ⟨fl (A8 true) r.1.Used,4⟩]:=by
 refine C4.of_m A3j rfl ?_
 unfold Z5 at hF
 refine RW.sreg (rl.run 1 rfl (rl.done (RW.sreg (rl.run 1 rfl ?_))))
 obtain ⟨v1,e1,h1⟩:=A3 hF
 refine rl.call rfl rfl rfl (A7.embN (r0:=.j v1.1) (H':=[some ⟨[pvB B0_ o0_ x0.mB,.j v1.2.mI,.j v1.2.mH],0⟩,some ⟨[.nils,.nils,.j 0,.nils,.j 0,.j 0,.j 0,.j 0],0⟩]) [⟨[pvB B0_ o0_ x0.mB,.j x0.mI,.j x0.mH],0⟩] [⟨[pvB B0_ o0_ x0.mB,.j v1.2.mI,.j v1.2.mH],0⟩] [] [0] [pvB B0_ o0_ x0.mB] G3 (E1 e1) (.cons rfl (fac (.pv ekB.rlst) (fac .int (fac .int fan))) (fac (.inr (.head _)) (fac (.inl .int) (fac (.inl .int) fan))) .nil) .nil (.blk 0 0 0 0 0 rfl rfl rfl rfl scalB .nil) rfl (.cons (.ptr rfl) (.cons (.dat .int) .nil)) .int rfl ?_)
 refine rl.run 1 rfl ?_
 obtain ⟨v2,e2,h2⟩:=A3 h1
 refine rl.call rfl rfl rfl (A7.own (r':=.tup [.agg (G7 2 3 4 v2.1),.bool v2.2]) (H':=[some ⟨[pvB B0_ o0_ x0.mB,.j v1.2.mI,.j v1.2.mH],0⟩,some ⟨[.nils,.nils,.j 0,.nils,.j 0,.j 0,.j 0,.j 0],0⟩,some ⟨fl (encS true) v2.1.Disk.Sectors,1⟩,some ⟨fl (A2 true) v2.1.Disk.Cache,2⟩,some ⟨fl (A8 true) v2.1.Used,4⟩]) Pp (Mf e2) (.cons .int .nil) (fac (Jq.own _) (fac .bool fan)) rfl ?_)
 refine rl.run 6 rfl (rl.done (RW.seq (RW.sreg (rl.run 1 rfl (rl.done ?_)))))
 obtain ⟨y9,ey9,h4⟩:=A3 h2
 refine RW.cutq (σ:=Int × Int × Int × Int × Int × Int × Int × (List (List UInt8)) × (List TWrite) × (List TSeg)) (fun y4=>[(2,.ptr 1 0),(3,.ptr 2 0)]) (fun y4=>[some ⟨[pvB B0_ o0_ x0.mB,.j y4.1,.j y4.2.1],0⟩,some ⟨[.nils,.nils,.j 0,.nils,.j 0,.j 0,.j 0,.j 0],0⟩,some ⟨[.sl 3 0 y4.2.2.2.2.2.2.2.1.length,.sl 4 0 y4.2.2.2.2.2.2.2.2.1.length,.j y4.2.2.1,.sl 5 0 y4.2.2.2.2.2.2.2.2.2.length,.j y4.2.2.2.1,.j y4.2.2.2.2.1,.j y4.2.2.2.2.2.1,.j y4.2.2.2.2.2.2.1],0⟩,some ⟨fl (encS true) y4.2.2.2.2.2.2.2.1,1⟩,some ⟨fl (A2 true) y4.2.2.2.2.2.2.2.2.1,2⟩,some ⟨fl (A8 true) y4.2.2.2.2.2.2.2.2.2,4⟩]) (fun y=>y9 = y) (fun _ _ _ _ g h=>RW.gh g h) ?_ ?_
 ·refine RW.blk ?_
  refine RW.iter (σ:=Int × Int × Int × Int × Int × Int × Int × Int × (List (List UInt8)) × (List TWrite) × (List TSeg)) ey9 (fun s3=>[(0,.ptr 0 0),(2,.ptr 1 0),(3,.ptr 2 0),(5,.j s3.1)]) (fun s3=>[some ⟨[pvB B0_ o0_ x0.mB,.j s3.2.1,.j s3.2.2.1],0⟩,some ⟨[.nils,.nils,.j 0,.nils,.j 0,.j 0,.j 0,.j 0],0⟩,some ⟨[.sl 3 0 s3.2.2.2.2.2.2.2.2.1.length,.sl 4 0 s3.2.2.2.2.2.2.2.2.2.1.length,.j s3.2.2.2.1,.sl 5 0 s3.2.2.2.2.2.2.2.2.2.2.length,.j s3.2.2.2.2.1,.j s3.2.2.2.2.2.1,.j s3.2.2.2.2.2.2.1,.j s3.2.2.2.2.2.2.2.1],0⟩,some ⟨fl (encS true) s3.2.2.2.2.2.2.2.2.1,1⟩,some ⟨fl (A2 true) s3.2.2.2.2.2.2.2.2.2.1,2⟩,some ⟨fl (A8 true) s3.2.2.2.2.2.2.2.2.2.2,4⟩]) (Gh.renN [0,1,5,2,3,4] (.cells rfl rfl .z0 (.cells rfl rfl .z8 (.cells rfl rfl (.slq rfl rfl (.slq rfl rfl (.keep .int (.slq rfl rfl (.keep .int (.keep .int (.keep .int (.keep .int .nil)))))))) (.same rfl (ekS.fref _ _) (.same rfl (A1.fref _ _) (.same rfl (A9.fref _ _) .nil)))))) rfl rfl rfl (.p rfl rfl (.p rfl rfl (.p rfl rfl (.i rfl .nil))))) (fun s3 B o hS3 hB3 hE3=>?_)
  unfold V0 at hS3
  refine RW.seq (RW.sreg (rl.run 2 rfl ?_))
  obtain ⟨v5,e5,h5⟩:=A3 hS3
  refine rl.call rfl rfl rfl (A7.embN (r0:=.j v5.1) (H':=[some ⟨[pvB B0_ o0_ x0.mB,.j v5.2.mI,.j v5.2.mH],0⟩,some ⟨[.nils,.nils,.j 0,.nils,.j 0,.j 0,.j 0,.j 0],0⟩,some ⟨[.sl 3 0 s3.2.2.2.2.2.2.2.2.1.length,.sl 4 0 s3.2.2.2.2.2.2.2.2.2.1.length,.j s3.2.2.2.1,.sl 5 0 s3.2.2.2.2.2.2.2.2.2.2.length,.j s3.2.2.2.2.1,.j s3.2.2.2.2.2.1,.j s3.2.2.2.2.2.2.1,.j s3.2.2.2.2.2.2.2.1],0⟩,some ⟨fl (encS true) s3.2.2.2.2.2.2.2.2.1,1⟩,some ⟨fl (A2 true) s3.2.2.2.2.2.2.2.2.2.1,2⟩,some ⟨fl (A8 true) s3.2.2.2.2.2.2.2.2.2.2,4⟩]) [⟨[pvB B0_ o0_ x0.mB,.j s3.2.1,.j s3.2.2.1],0⟩] [⟨[pvB B0_ o0_ x0.mB,.j v5.2.mI,.j v5.2.mH],0⟩] [] [0] [pvB B0_ o0_ x0.mB] G3 (E1 e5) (.cons rfl (fac (.pv ekB.rlst) (fac .int (fac .int fan))) (fac (.inr (.head _)) (fac (.inl .int) (fac (.inl .int) fan))) .nil) .nil (.blk 0 0 0 0 0 rfl rfl rfl rfl scalB .nil) rfl (.cons (.ptr rfl) (.cons (.dat .int) .nil)) .int rfl ?_)
  refine rl.gen rfl rfl fun b hb=>?_
  cases b
  ·have h6:=A5 h5 hb
   refine rl.done (RW.cond_f rfl (RW.exit (D0 ?_)))
   cases h6
   exact ⟨_,(hE3 _ rfl).symm,(Gh.renN [0,1,2,3,4,5] (.cells rfl rfl .z0 (.cells rfl rfl .z8 (.cells rfl rfl (.slq rfl rfl (.slq rfl rfl (.keep .int (.slq rfl rfl (.keep .int (.keep .int (.keep .int (.keep .int .nil)))))))) (.same rfl (ekS.fref _ _) (.same rfl (A1.fref _ _) (.same rfl (A9.fref _ _) .nil)))))) rfl rfl rfl (.p rfl rfl (.p rfl rfl .nil)))⟩
  ·have h7:=A4 h5 hb
   refine rl.done (RW.cond_t rfl (RW.skip (RW.seq (RW.blk ?_))))
   refine RW.sdrwF [⟨[.j 0,.j 0,.j 0,.j 0,.j 0,.j 0,.str [],.str [],.str []],0⟩] ?_
   refine A0.op rfl rfl (A0.op rfl rfl (A0.op rfl rfl ?_))
   obtain ⟨v6,e6,h8⟩:=A3 h7
   refine A0.ccallB rfl rfl rfl (A7.embN (r0:=.agg (F7 false v6.1)) (H':=[some ⟨[pvB B0_ o0_ x0.mB,.j v6.2.mI,.j v6.2.mH],0⟩,some ⟨[.nils,.nils,.j 0,.nils,.j 0,.j 0,.j 0,.j 0],0⟩,some ⟨[.sl 3 0 s3.2.2.2.2.2.2.2.2.1.length,.sl 4 0 s3.2.2.2.2.2.2.2.2.2.1.length,.j s3.2.2.2.1,.sl 5 0 s3.2.2.2.2.2.2.2.2.2.2.length,.j s3.2.2.2.2.1,.j s3.2.2.2.2.2.1,.j s3.2.2.2.2.2.2.1,.j s3.2.2.2.2.2.2.2.1],0⟩,some ⟨fl (encS true) s3.2.2.2.2.2.2.2.2.1,1⟩,some ⟨fl (A2 true) s3.2.2.2.2.2.2.2.2.2.1,2⟩,some ⟨fl (A8 true) s3.2.2.2.2.2.2.2.2.2.2,4⟩,some ⟨[.j 0,.j 0,.j 0,.j 0,.j 0,.j 0,.str [],.str [],.str []],0⟩]) [⟨[pvB B0_ o0_ x0.mB,.j v5.2.mI,.j v5.2.mH],0⟩] [⟨[pvB B0_ o0_ x0.mB,.j v6.2.mI,.j v6.2.mH],0⟩] [] [0] [pvB B0_ o0_ x0.mB] A26 (Ti e6) (.cons rfl (fac (.pv ekB.rlst) (fac .int (fac .int fan))) (fac (.inr (.head _)) (fac (.inl .int) (fac (.inl .int) fan))) .nil) .nil (.blk 0 0 0 0 0 rfl rfl rfl rfl scalB .nil) rfl (.cons (.ptr rfl) .nil) (RtL.agg (.cons .int (.cons .int (.cons .int (.cons .int (.cons .int (.cons .str (.cons .str (.cons .str .nil))))))))) rfl ⟨(.skip rfl (.here (.rx rfl) (.here (.rx rfl) .nil))),?_⟩)
   refine A0.op rfl rfl ?_
   refine A0.flt rfl (.cons rfl .nil) ?_
   refine A0.chn rfl rfl ?_
   refine A0.done (RW.sreg (rl.run 2 rfl ?_))
   obtain ⟨v7,e7,h9⟩:=A3 h8
   refine rl.call rfl rfl rfl (A7.val (r':=.bool v7) Yj (Uv e7) (.cons (DFL.agg (.cons (.slq ekS rfl rfl) (.cons (.slq A1 rfl rfl) (.cons .int (.cons (.slq A9 rfl rfl) (.cons .int (.cons .int (.cons .int (.cons .int .nil))))))))) (.cons (DFL.agg (.cons .int (.cons .int (.cons .int (.cons .int (.cons .int (.cons .int (.cons .str (.cons .str (.cons .str .nil)))))))))) .nil)) .refl ?_)
   cases hb : v7
   ·have h10:=A5 h9 hb
    refine rl.done ?_
    refine RW.kp [0,2,3,5,6,27] [(0,.ptr 0 0),(2,.ptr 1 0),(3,.ptr 2 0),(5,.j s3.1),(6,.ptr 6 0),(27,.bool false)] [some ⟨[pvB B0_ o0_ x0.mB,.j v6.2.mI,.j v6.2.mH],0⟩,some ⟨[.nils,.nils,.j 0,.nils,.j 0,.j 0,.j 0,.j 0],0⟩,some ⟨[.sl 3 0 s3.2.2.2.2.2.2.2.2.1.length,.sl 4 0 s3.2.2.2.2.2.2.2.2.2.1.length,.j s3.2.2.2.1,.sl 5 0 s3.2.2.2.2.2.2.2.2.2.2.length,.j s3.2.2.2.2.1,.j s3.2.2.2.2.2.1,.j s3.2.2.2.2.2.2.1,.j s3.2.2.2.2.2.2.2.1],0⟩,some ⟨fl (encS true) s3.2.2.2.2.2.2.2.2.1,1⟩,some ⟨fl (A2 true) s3.2.2.2.2.2.2.2.2.2.1,2⟩,some ⟨fl (A8 true) s3.2.2.2.2.2.2.2.2.2.2,4⟩,some ⟨[.j s3.2.2.2.2.2.1,.j v6.1.Kind,.j v6.1.Valid,.j v6.1.Uid,.j v6.1.Next,.j v6.1.Flags,.str v6.1.User,.str v6.1.Name,.str v6.1.Text],0⟩] rfl rfl ?_
    refine RW.cond_f rfl (RW.skip (RW.reg (rl.run 3 rfl (rl.done ?_))))
    cases h10
    exact hB3 _ rfl _ _ (Gh.renN [0,1,2,3,4,5] (.cells rfl rfl .z0 (.cells rfl rfl .z8 (.cells rfl rfl (.slq rfl rfl (.slq rfl rfl (.keep .int (.slq rfl rfl (.keep .int (.keep .int (.keep .int (.keep .int .nil)))))))) (.same rfl (ekS.fref _ _) (.same rfl (A1.fref _ _) (.same rfl (A9.fref _ _) .nil)))))) rfl rfl rfl (.p rfl rfl (.p rfl rfl (.p rfl rfl (.i rfl .nil)))))
   ·have h11:=A4 h9 hb
    refine rl.done ?_
    refine RW.kp [0,2,3,5,6,27] [(0,.ptr 0 0),(2,.ptr 1 0),(3,.ptr 2 0),(5,.j s3.1),(6,.ptr 6 0),(27,.bool true)] [some ⟨[pvB B0_ o0_ x0.mB,.j v6.2.mI,.j v6.2.mH],0⟩,some ⟨[.nils,.nils,.j 0,.nils,.j 0,.j 0,.j 0,.j 0],0⟩,some ⟨[.sl 3 0 s3.2.2.2.2.2.2.2.2.1.length,.sl 4 0 s3.2.2.2.2.2.2.2.2.2.1.length,.j s3.2.2.2.1,.sl 5 0 s3.2.2.2.2.2.2.2.2.2.2.length,.j s3.2.2.2.2.1,.j s3.2.2.2.2.2.1,.j s3.2.2.2.2.2.2.1,.j s3.2.2.2.2.2.2.2.1],0⟩,some ⟨fl (encS true) s3.2.2.2.2.2.2.2.2.1,1⟩,some ⟨fl (A2 true) s3.2.2.2.2.2.2.2.2.2.1,2⟩,some ⟨fl (A8 true) s3.2.2.2.2.2.2.2.2.2.2,4⟩,some ⟨[.j s3.2.2.2.2.2.1,.j v6.1.Kind,.j v6.1.Valid,.j v6.1.Uid,.j v6.1.Next,.j v6.1.Flags,.str v6.1.User,.str v6.1.Name,.str v6.1.Text],0⟩] rfl rfl ?_
    refine RW.cond_t rfl ?_
    refine RW.gh (Gh.absorbq (b:=2) (j:=0) (m:=3) rfl rfl rfl (by decide) (by decide) rfl (ekS.flen true _) (ekS.fown _)) ?_
    refine RW.gh (Gh.absorbq (b:=2) (j:=1) (m:=4) rfl rfl rfl (by decide) (by decide) rfl (A1.flen true _) (A1.fown _)) ?_
    refine RW.gh (Gh.absorbq (b:=2) (j:=3) (m:=5) rfl rfl rfl (by decide) (by decide) rfl (A9.flen true _) (A9.fown _)) ?_
    refine RW.reg (rl.run 1 rfl ?_)
    obtain ⟨v8,e8,h12⟩:=A3 h11
    refine rl.call rfl rfl rfl (A7.embW (r0:=.bool v8.1) (H':=[some ⟨[pvB B0_ o0_ x0.mB,.j v6.2.mI,.j v6.2.mH],0⟩,some ⟨[.nils,.nils,.j 0,.nils,.j 0,.j 0,.j 0,.j 0],0⟩,some ⟨B5 true v8.2,0⟩,none,none,none,some ⟨[.j s3.2.2.2.2.2.1,.j v6.1.Kind,.j v6.1.Valid,.j v6.1.Uid,.j v6.1.Next,.j v6.1.Flags,.str v6.1.User,.str v6.1.Name,.str v6.1.Text],0⟩]) [⟨[.lst true 1 (fl (encS true) s3.2.2.2.2.2.2.2.2.1) s3.2.2.2.2.2.2.2.2.1.length,.lst true 2 (fl (A2 true) s3.2.2.2.2.2.2.2.2.2.1) s3.2.2.2.2.2.2.2.2.2.1.length,.j s3.2.2.2.1,.lst true 4 (fl (A8 true) s3.2.2.2.2.2.2.2.2.2.2) s3.2.2.2.2.2.2.2.2.2.2.length,.j s3.2.2.2.2.1,.j s3.2.2.2.2.2.1,.j s3.2.2.2.2.2.2.1,.j s3.2.2.2.2.2.2.2.1],0⟩] [⟨B5 true v8.2,0⟩] [2] Ty (Kf e8) (.cons rfl (fac (ekS.rlst) (fac (A1.rlst) (fac .int (fac (A9.rlst) (fac .int (fac .int (fac .int (fac .int fan)))))))) (fac (.lst (ekS.fown _)) (fac (.lst (A1.fown _)) (fac .int (fac (.lst (A9.fown _)) (fac .int (fac .int (fac .int (fac .int fan)))))))) .nil) rfl (.cons (.ptr rfl) (.cons (RnL.agg (.cons (.dat .int) (.cons (.dat .int) (.cons (.dat .int) (.cons (.dat .int) (.cons (.dat .int) (.cons (.dat .int) (.cons (.dat .str) (.cons (.dat .str) (.cons (.dat .str) .nil)))))))))) (.cons (.dat .int) .nil))) .bool rfl rfl ?_)
    refine rl.done ?_
    refine RW.gh (Gh.expose (b:=2) (j:=0) rfl rfl (by decide) (ekS.fown _)) ?_
    refine RW.gh (Gh.expose (b:=2) (j:=1) rfl rfl (by decide) (A1.fown _)) ?_
    refine RW.gh (Gh.expose (b:=2) (j:=3) rfl rfl (by decide) (A9.fown _)) ?_
    refine RW.reg (rl.run 3 rfl (rl.done ?_))
    cases h12
    exact hB3 _ rfl _ _ (Gh.renN [0,1,2,7,8,9] (.cells rfl rfl .z0 (.cells rfl rfl .z8 (.cells rfl rfl (.slq rfl rfl (.slq rfl rfl (.keep .int (.slq rfl rfl (.keep .int (.keep .int (.keep .int (.keep .int .nil)))))))) (.same rfl (ekS.fref _ _) (.same rfl (A1.fref _ _) (.same rfl (A9.fref _ _) .nil)))))) rfl rfl rfl (.p rfl rfl (.p rfl rfl (.p rfl rfl (.i rfl .nil)))))
 ·intro y4 hC
  subst hC
  refine RW.sreg (rl.run 2 rfl (rl.done (RW.ret ?_)))
  cases h4
  exact RRetM.mk [0,3,4,5] Gh.refl rfl (.cells rfl rfl .z0 (.same rfl (ekS.fref _ _) (.same rfl (A1.fref _ _) (.same rfl (A9.fref _ _) .nil)))) rfl rfl rfl (RnL.agg (.cons (.slq rfl rfl) (.cons (.slq rfl rfl) (.cons (.dat .int) (.cons (.slq rfl rfl) (.cons (.dat .int) (.cons (.dat .int) (.cons (.dat .int) (.cons (.dat .int) .nil)))))))))
theorem Wp {x0 : List Int} {r : TLog} (hF : Bj x0 = some r) : B3 Tryz.prog 9 [L_B x0] (.agg (B5 true r)):=by
 refine B3.of_r A2e rfl ?_
 unfold Bj at hF
 refine RW.sreg (rl.run 1 rfl (rl.done ?_))
 refine RW.pin 0 rfl fun B1 o1=>?_
 refine RW.sreg (rl.run 1 rfl ?_)
 obtain ⟨v2,e2,h1⟩:=A3 hF
 refine rl.call rfl rfl rfl (A7.embN (r0:=.ptr 1 0) (H':=[some ⟨[.nils,.nils,.j 0,.nils,.j 0,.j 0,.j 0,.j 0],0⟩,some ⟨[pvB B1 o1 x0,.j v2.mI,.j v2.mH],0⟩]) [] [] [⟨[pvB B1 o1 x0,.j v2.mI,.j v2.mH],0⟩] [] [pvB B1 o1 x0] Ld (Gr e2) .nil (.cons (fac (.inr (.head _)) (fac (.inl .int) (fac (.inl .int) fan))) .nil) (.arg 0 rfl scalB .nil) rfl (.cons (.dat (.pv ekB.rlst)) .nil) (.ptr rfl) rfl ?_)
 obtain ⟨v3,e3,h2⟩:=A3 h1
 refine rl.call rfl rfl rfl (A7.embN (r0:=.agg (G7 2 3 4 v3.1)) (H':=[some ⟨[.nils,.nils,.j 0,.nils,.j 0,.j 0,.j 0,.j 0],0⟩,some ⟨[pvB B1 o1 x0,.j v3.2.mI,.j v3.2.mH],0⟩,some ⟨fl (encS true) v3.1.Disk.Sectors,1⟩,some ⟨fl (A2 true) v3.1.Disk.Cache,2⟩,some ⟨fl (A8 true) v3.1.Used,4⟩]) [⟨[pvB B1 o1 x0,.j v2.mI,.j v2.mH],0⟩] [⟨[pvB B1 o1 x0,.j v3.2.mI,.j v3.2.mH],0⟩] [⟨fl (encS true) v3.1.Disk.Sectors,1⟩,⟨fl (A2 true) v3.1.Disk.Cache,2⟩,⟨fl (A8 true) v3.1.Used,4⟩] [1] [pvB B1 o1 x0] A2c (Qr e3) (.cons rfl (fac (.pv ekB.rlst) (fac .int (fac .int fan))) (fac (.inr (.head _)) (fac (.inl .int) (fac (.inl .int) fan))) .nil) (.own (ekS.fown _) (.own (A1.fown _) (.own (A9.fown _) .nil))) (.blk 0 1 0 0 0 rfl rfl rfl rfl scalB .nil) rfl (.cons (.ptr rfl) .nil) (RtL.agg (.cons (.sl rfl) (.cons (.sl rfl) (.cons .int (.cons (.sl rfl) (.cons .int (.cons .int (.cons .int (.cons .int .nil))))))))) rfl ?_)
 refine rl.run 1 rfl (rl.done (RW.ret ?_))
 cases h2
 exact RRet.mk rfl (OutL.agg (.cons (OutR.ownq ekS rfl rfl) rfl (.cons (OutR.ownq A1 rfl rfl) rfl (.i (.cons (OutR.ownq A9 rfl rfl) rfl (.i (.i (.i (.i .nil))))))))) (by first | decide | simp)
set_option maxHeartbeats 2000000 in
theorem Vr {x0 : List Int} {r : Bool} (hF : Dv x0 = some r) : B3 Tryz.prog 3 [L_B x0] (.bool r):=by
 refine B3.of_r A27 rfl ?_
 unfold Dv at hF
 refine RW.sreg (rl.run 1 rfl (rl.done (RW.seq (RW.sreg (rl.run 1 rfl ?_)))))
 obtain ⟨v1,e1,h1⟩:=A3 hF
 refine rl.call rfl rfl rfl (A7.val (r':=.bool v1) A5x (A4l e1) (.cons (.lst ekB) .nil) .refl ?_)
 cases hb : v1
 ·have h2:=A5 h1 hb
  refine rl.done (RW.cond_f rfl (RW.skip (RW.sreg (rl.run 1 rfl ?_))))
  obtain ⟨v2,e2,h3⟩:=A3 h2
  refine rl.call rfl rfl rfl (A7.val (r':=.agg (B5 false v2)) Yi (Wp e2) (.cons (.lst ekB) .nil) (Jq.flag _).agg ?_)
  refine rl.run 2 rfl (rl.done (RW.sreg (rl.run 1 rfl ?_)))
  obtain ⟨v3,e3,h4⟩:=A3 h3
  refine rl.call rfl rfl rfl (A7.val (r':=L_I v3) Ql (Mk e3) (.cons (.lst ekB) .nil) (ekI.fflag _).lst ?_)
  refine rl.run 1 rfl (rl.done (RW.sreg (rl.run 1 rfl ?_)))
  obtain ⟨v4,e4,h5⟩:=A3 h4
  refine rl.op (C1 (enc:=encI) (o:=false) rfl rfl rfl e4) ?_
  refine rl.op (G5 (off':=0) ekI rfl e4 rfl rfl rfl) ?_
  refine rl.run 2 rfl (rl.done ?_)
  refine RW.kp [3,5] [(3,.ptr 0 0),(5,.j (Int.tmod v4 4))] [some ⟨B5 false v2,0⟩] rfl rfl ?_
  refine RW.sreg (rl.run 1 rfl ?_)
  obtain ⟨v5,e5,h6⟩:=A3 h5
  refine rl.call rfl rfl rfl (A7.val (r':=L_I v5) Em (Dj e5) (.cons (DFL.agg (.cons (.lst ekS) (.cons (.lst A1) (.cons .int (.cons (.lst A9) (.cons .int (.cons .int (.cons .int (.cons .int .nil))))))))) .nil) (ekI.fflag _).lst ?_)
  refine rl.run 1 rfl (rl.done (RW.sreg (rl.run 2 rfl ?_)))
  obtain ⟨v6,e6,h7⟩:=A3 h6
  refine rl.call rfl rfl rfl (A7.val (r':=.tup [.agg (B5 false v6.1),.bool v6.2]) Zk (Vb e6) (.cons (DFL.agg (.cons (.lst ekS) (.cons (.lst A1) (.cons .int (.cons (.lst A9) (.cons .int (.cons .int (.cons .int (.cons .int .nil))))))))) (.cons .int .nil)) (FlL.tup (.cons (Jq.flag _).agg (.cons .refl .nil))) ?_)
  refine rl.run 6 rfl (rl.done (RW.seq (RW.seq ?_)))
  obtain ⟨y7,ey7,h8⟩:=A3 h7
  refine RW.cutq (σ:=Bool) (fun y7=>[(3,.ptr 0 0),(6,L_I v5),(7,.ptr 1 0),(8,.bool v6.2),(44,.bool y7)]) (fun y7=>[some ⟨B5 false v2,0⟩,some ⟨B5 false v6.1,0⟩]) (fun y=>y7 = y) (fun _ _ _ _ g h=>RW.gh g h) ?_ ?_
  ·refine RW.reg ?_
   refine rl.run 5 rfl ?_
   refine rl.gen rfl rfl fun b hb=>?_
   cases b
   ·have h9:=A5 ey7 hb
    refine rl.run 9 rfl ?_
    refine rl.gen rfl rfl fun b hb=>?_
    cases b
    ·have h10:=A5 h9 hb
     refine rl.run 1 rfl (rl.done ?_)
     cases h10
     exact ⟨_,rfl,(Gh.ren0 [0,1] (.cells rfl rfl .z2 (.cells rfl rfl .z2 .nil)) rfl (.p rfl rfl (.cons rfl (.dat (ekI.rlst)) (.p rfl rfl (.b rfl (.b rfl .nil))))))⟩
    ·have h11:=A4 h9 hb
     refine rl.run 1 rfl (rl.done ?_)
     cases h11
     exact ⟨_,rfl,(Gh.ren0 [0,1] (.cells rfl rfl .z2 (.cells rfl rfl .z2 .nil)) rfl (.p rfl rfl (.cons rfl (.dat (ekI.rlst)) (.p rfl rfl (.b rfl (.b rfl .nil))))))⟩
   ·have h12:=A4 ey7 hb
    refine rl.run 11 rfl (rl.done ?_)
    cases h12
    exact ⟨_,rfl,(Gh.ren0 [0,1] (.cells rfl rfl .z2 (.cells rfl rfl .z2 .nil)) rfl (.p rfl rfl (.cons rfl (.dat (ekI.rlst)) (.p rfl rfl (.b rfl (.b rfl .nil))))))⟩
  ·intro y hC
   subst hC
   cases hb : y7
   ·have h13:=A5 h8 hb
    refine RW.cond_f rfl (RW.skip (RW.seq (RW.sreg (rl.run 2 rfl (rl.done ?_)))))
    cases hb : (!v6.2)
    ·have h14:=A5 h13 hb
     refine RW.cond_f rfl (RW.skip (RW.sreg (rl.run 6 rfl ?_)))
     obtain ⟨v8,e8,h15⟩:=A3 h14
     refine rl.op (C1 (enc:=A8) (o:=false) rfl rfl rfl e8) ?_
     refine rl.op (K5 (off':=0) (vs:=(A8 false v8)) A9 rfl e8 rfl rfl rfl) ?_
     refine rl.run 2 rfl (rl.done ?_)
     refine RW.kp [3,6,7,9] [(3,.ptr 0 0),(6,L_I v5),(7,.ptr 1 0),(9,.ptr 2 0)] [some ⟨B5 false v2,0⟩,some ⟨B5 false v6.1,0⟩,some ⟨A8 false v8,0⟩] rfl rfl ?_
     refine RW.seq ?_
     obtain ⟨y9,ey9,h16⟩:=A3 h15
     refine RW.cutq (σ:=Bool) (fun y9=>[(2,.bool y9)]) (fun y9=>[]) (fun y=>y9 = y) (fun _ _ _ _ g h=>RW.gh g h) ?_ ?_
     ·refine RW.drw ?_
      refine A0.op rfl rfl ?_
      obtain ⟨v10,e10,h17⟩:=A3 ey9
      refine A0.call rfl rfl rfl (A7.val (r':=.bool v10) Mu (Kx e10) (.cons (DFL.agg (.cons (.lst ekS) (.cons (.lst A1) (.cons .int (.cons (.lst A9) (.cons .int (.cons .int (.cons .int (.cons .int .nil))))))))) .nil) .refl ⟨rfl,?_⟩)
      cases hb : v10
      ·have h18:=A5 h17 hb
       refine A0.op rfl rfl (A0.off rfl (A0.off rfl (A0.off rfl (A0.off rfl (A0.off rfl (A0.off rfl (A0.op rfl rfl (A0.op rfl rfl (A0.off rfl (A0.off rfl (A0.off rfl ?_)))))))))))
       refine A0.off rfl (A0.off rfl (A0.op rfl rfl (A0.op rfl rfl (A0.off rfl (A0.off rfl (A0.off rfl (A0.off rfl (A0.off rfl (A0.off rfl (A0.off rfl (A0.op rfl rfl ?_)))))))))))
       refine A0.op rfl rfl (A0.off rfl (A0.off rfl (A0.off rfl (A0.off rfl (A0.off rfl (A0.op rfl rfl (A0.op rfl rfl (A0.done ?_))))))))
       cases h18
       exact ⟨_,rfl,(Gh.ren0 [] .nil rfl (.b rfl .nil))⟩
      ·have h19:=A4 h17 hb
       refine A0.op rfl rfl (A0.op rfl rfl (A0.op rfl rfl (A0.op rfl rfl ?_)))
       obtain ⟨v11,e11,h20⟩:=A3 h19
       refine A0.op rfl (C1 (enc:=encI) (o:=false) rfl rfl rfl e11) ?_
       refine A0.op rfl (G5 (off':=0) ekI rfl e11 rfl rfl rfl) ?_
       refine A0.gen rfl rfl fun b hb=>?_
       cases b
       ·have h21:=A5 h20 hb
        refine A0.op rfl rfl (A0.op rfl rfl (A0.off rfl (A0.off rfl (A0.off rfl (A0.off rfl (A0.off rfl (A0.op rfl rfl (A0.op rfl rfl (A0.off rfl (A0.off rfl (A0.off rfl ?_)))))))))))
        refine A0.off rfl (A0.off rfl (A0.off rfl (A0.off rfl (A0.op rfl rfl (A0.op rfl rfl (A0.off rfl (A0.off rfl (A0.off rfl (A0.off rfl (A0.off rfl (A0.op rfl rfl ?_)))))))))))
        refine A0.op rfl rfl (A0.done ?_)
        cases h21
        exact ⟨_,rfl,(Gh.ren0 [] .nil rfl (.b rfl .nil))⟩
       ·have h22:=A4 h20 hb
        refine A0.op rfl rfl (A0.op rfl rfl (A0.op rfl rfl (A0.op rfl rfl (A0.op rfl rfl (A0.op rfl rfl ?_)))))
        refine A0.gen rfl rfl fun b hb=>?_
        cases b
        ·have h23:=A5 h22 hb
         refine A0.op rfl rfl (A0.op rfl rfl (A0.off rfl (A0.off rfl (A0.off rfl (A0.off rfl (A0.off rfl (A0.off rfl (A0.off rfl (A0.op rfl rfl (A0.op rfl rfl (A0.off rfl ?_)))))))))))
         refine A0.off rfl (A0.off rfl (A0.off rfl (A0.off rfl (A0.op rfl rfl (A0.op rfl rfl (A0.done ?_))))))
         cases h23
         exact ⟨_,rfl,(Gh.ren0 [] .nil rfl (.b rfl .nil))⟩
        ·have h24:=A4 h22 hb
         refine A0.op rfl rfl (A0.op rfl rfl (A0.op rfl rfl ?_))
         obtain ⟨v12,e12,h25⟩:=A3 h24
         refine A0.call rfl rfl rfl (A7.val (r':=L_I v12) Em (Dj e12) (.cons (DFL.agg (.cons (.lst ekS) (.cons (.lst A1) (.cons .int (.cons (.lst A9) (.cons .int (.cons .int (.cons .int (.cons .int .nil))))))))) .nil) (ekI.fflag _).lst ⟨rfl,?_⟩)
         refine A0.op rfl rfl (A0.op rfl rfl (A0.op rfl rfl (A0.op rfl rfl ?_)))
         refine A0.gen rfl rfl fun b hb=>?_
         cases b
         ·have h26:=A5 h25 hb
          refine A0.op rfl rfl (A0.op rfl rfl (A0.off rfl (A0.off rfl (A0.off rfl (A0.off rfl (A0.off rfl (A0.op rfl rfl (A0.op rfl rfl (A0.done ?_)))))))))
          cases h26
          exact ⟨_,rfl,(Gh.ren0 [] .nil rfl (.b rfl .nil))⟩
         ·have h27:=A4 h25 hb
          refine A0.op rfl rfl (A0.op rfl rfl (A0.op rfl rfl ?_))
          obtain ⟨v13,e13,h28⟩:=A3 h27
          refine A0.call rfl rfl rfl (A7.val (r':=J9 v13) Jz (Hy e13) (.cons (DFL.agg (.cons (.lst ekS) (.cons (.lst A1) (.cons .int (.cons (.lst A9) (.cons .int (.cons .int (.cons .int (.cons .int .nil))))))))) .nil) (B4.fflag _).lst ⟨rfl,?_⟩)
          refine A0.op rfl rfl ?_
          obtain ⟨v14,e14,h29⟩:=A3 h28
          refine A0.call rfl rfl rfl (A7.val (r':=J9 v14) Ka (Jb e14) (.cons (DFL.agg (.cons (.lst ekS) (.cons (.lst A1) (.cons .int (.cons (.lst A9) (.cons .int (.cons .int (.cons .int (.cons .int .nil))))))))) .nil) (B4.fflag _).lst ⟨rfl,?_⟩)
          obtain ⟨v15,e15,h30⟩:=A3 h29
          refine A0.call rfl rfl rfl (A7.val (r':=.bool v15) Ua (Pv e15) (.cons (.lst B4) (.cons (.lst B4) .nil)) .refl ⟨rfl,?_⟩)
          refine A0.op rfl rfl (A0.op rfl rfl (A0.done ?_))
          cases h30
          exact ⟨_,rfl,(Gh.ren0 [] .nil rfl (.b rfl .nil))⟩
     ·intro y hC
      subst hC
      refine RW.ret ?_
      cases h16
      exact RRet.mk rfl .bool (by first | decide | simp)
    ·have h31:=A4 h13 hb
     refine RW.cond_t rfl (RW.sreg (rl.run 2 rfl ?_))
     obtain ⟨v16,e16,h32⟩:=A3 h31
     refine rl.call rfl rfl rfl (A7.val (r':=.bool v16) Xr (Vl e16) (.cons (DFL.agg (.cons (.lst ekS) (.cons (.lst A1) (.cons .int (.cons (.lst A9) (.cons .int (.cons .int (.cons .int (.cons .int .nil))))))))) (.cons (DFL.agg (.cons (.lst ekS) (.cons (.lst A1) (.cons .int (.cons (.lst A9) (.cons .int (.cons .int (.cons .int (.cons .int .nil))))))))) .nil)) .refl ?_)
     refine rl.run 1 rfl (rl.done (RW.ret ?_))
     cases h32
     exact RRet.mk rfl .bool (by first | decide | simp)
   ·have h33:=A4 h8 hb
    refine RW.cond_t rfl (RW.sreg (rl.run 1 rfl (rl.done (RW.ret ?_))))
    cases h33
    exact RRet.mk rfl .bool (by first | decide | simp)
 ·have h34:=A4 h1 hb
  refine rl.done (RW.cond_t rfl (RW.sreg (rl.run 1 rfl (rl.done (RW.ret ?_)))))
  cases h34
  exact RRet.mk rfl .bool (by first | decide | simp)
end Go.Proofs.YtldndhdohlfpgaaGreat.V
