/- What a call comes to. -/
import Derived.Test.YtldndhdohlfpgaaGreatXD1
namespace Go.Proofs.YtldndhdohlfpgaaGreat.V
open Go Go.Proofs Go.RowKit
set_option maxRecDepth 100000
set_option maxHeartbeats 4000000
theorem Ms {x0:TLog} {x1:Int} {r:Bool×TLog} (hF:T1 x0 x1=some r):C5 Tryz.prog 0 88 [.ptr 0 0,.j x1] [some ⟨B5 true x0,0⟩] (.bool r.1) [some ⟨B5 true r.2,0⟩]:=by
 refine C5.q Lw ?_;unfold T1 at hF
 refine RW.gh (Gh.expose (b:=0) (j:=0) rfl rfl (by decide) (ekS.fown _)) ?_
 refine RW.gh (Gh.expose (b:=0) (j:=1) rfl rfl (by decide) (B2.fown _)) ?_
 refine RW.gh (Gh.expose (b:=0) (j:=3) rfl rfl (by decide) (B3.fown _)) ?_
 refine RW.sf 1 rfl (RW.sr 3 rfl ?_);obtain ⟨v1,e1,h1⟩:=A1 hF;refine rl.call rfl rfl rfl (A6.y (r':=L_I v1) (Jb e1) ?_);refine rl.f 1 rfl (RW.seq (RW.seq ?_));obtain ⟨y2,ey2,h2⟩:=A1 h1
 refine RW.cutq (σ:=Bool) (fun y2=>[(0,.ptr 0 0),(5,L_I v1),(21,.bool y2)]) (fun y2=>[some ⟨Q2 1 2 3 x0,0⟩,some ⟨fl (encS true) x0.Disk.Sectors,1⟩,some ⟨fl (A2 true) x0.Disk.Cache,2⟩,some ⟨fl (A8 true) x0.Used,4⟩]) (fun y=>y2=y) gg ?_ ?_
 ·refine RW.reg ?_;refine rl.run 1 rfl ?_
  refine rl.gen rfl rfl fun b hb=>?_
  cases b
  ·have h3:=A4 ey2 hb;refine rl.run 4 rfl ?_
   refine rl.gen rfl rfl fun b hb=>?_
   cases b
   ·have h4:=A4 h3 hb;refine rl.f 1 rfl ?_;cases h4
    exact ⟨_,rfl,(Gh.rN [0,1,2,3])⟩
   ·have h5:=A5 h3 hb;refine rl.f 1 rfl ?_;cases h5
    exact ⟨_,rfl,(Gh.rN [0,1,2,3])⟩
  ·have h6:=A5 ey2 hb;refine rl.f 6 rfl ?_;cases h6
   exact ⟨_,rfl,(Gh.rN [0,1,2,3])⟩
 ·intro y hC
  subst hC
  cases hb:y2
  ·have h7:=A4 h2 hb;refine RW.cond_f rfl (RW.skip (RW.sr 5 rfl ?_));obtain ⟨v3,e3,h8⟩:=A1 h7;refine rl.call rfl rfl rfl (A6.y (r':=.tup [.str v3.1,.bool v3.2]) (Ay e3) ?_);refine rl.f 5 rfl (RW.sdrw (A0.op rfl rfl (A0.op rfl rfl (A0.op rfl rfl (A0.op rfl rfl (A0.op rfl rfl ?_))))));obtain ⟨v4,e4,h9⟩:=A1 h8;refine A0.op rfl (C0 (enc:=encI) (o:=false) rfl rfl rfl e4) ?_;refine A0.op rfl (H7 (off':=0) ekI rfl e4 rfl rfl rfl) ?_;refine A0.op rfl rfl ?_;obtain ⟨v5,e5,h10⟩:=A1 h9;refine A0.call rfl rfl rfl (A6.y (r':=.tup [.agg (A3 false v5.1),.bool v5.2]) (M1 e5) ⟨rfl,?_⟩);refine A0.op rfl rfl (A0.op rfl rfl (A0.op rfl rfl ?_));refine A0.chnB rfl rfl (.here (.rx rfl) (.here (.rx rfl) (.here (.rx rfl) (.here (.cl rfl rfl (A6.y (r':=.tup [.agg (A3 false v5.1),.bool v5.2]) (M1 e5) ⟨rfl,rfl⟩)) (.here (.rx rfl) (.here (.rx (H7 (off':=0) ekI rfl e4 rfl rfl rfl)) (.here (.rx (C0 (enc:=encI) (o:=false) rfl rfl rfl e4)) (.here (.rx rfl) (.here (.rx rfl) (.here (.rx rfl) (.here (.rx rfl) (.here (.rx rfl) .nil)))))))))))) ?_;refine A0.chnB rfl rfl (.here (.rx rfl) (.skip rfl (.skip rfl (.skip rfl (.skip rfl (.skip rfl (.skip rfl (.skip rfl (.skip rfl (.skip rfl (.skip rfl (.skip rfl .nil)))))))))))) ?_;refine A0.op rfl rfl (A0.done ?_);refine RW.kp [0,5,6,7,8,9] [(0,.ptr 0 0),(5,L_I v1),(6,.str v3.1),(7,.bool v3.2),(8,.ptr 4 0),(9,.bool v5.2)] [some ⟨Q2 1 2 3 x0,0⟩,some ⟨fl (encS true) x0.Disk.Sectors,1⟩,some ⟨fl (A2 true) x0.Disk.Cache,2⟩,some ⟨fl (A8 true) x0.Used,4⟩,some ⟨A3 false v5.1,0⟩] rfl rfl ?_;refine RW.seq (RW.seq ?_);obtain ⟨y6,ey6,h11⟩:=A1 h10
   refine RW.cutq (σ:=Bool) (fun y6=>[(0,.ptr 0 0),(5,L_I v1),(6,.str v3.1),(8,.ptr 1 0),(55,.bool y6)]) (fun y6=>[some ⟨Q2 2 3 4 x0,0⟩,some ⟨A3 false v5.1,0⟩,some ⟨fl (encS true) x0.Disk.Sectors,1⟩,some ⟨fl (A2 true) x0.Disk.Cache,2⟩,some ⟨fl (A8 true) x0.Used,4⟩]) (fun y=>y6=y) gg ?_ ?_
   ·refine RW.reg ?_;refine rl.run 3 rfl ?_
    cases hb:(!v3.2)
    ·have h12:=A4 ey6 hb;refine rl.run 4 rfl ?_
     cases hb:(!v5.2)
     ·have h13:=A4 h12 hb;refine rl.run 4 rfl ?_
      refine rl.gen rfl rfl fun b hb=>?_
      cases b
      ·have h14:=A4 h13 hb;refine rl.f 1 rfl ?_;cases h14
       exact ⟨_,rfl,(Gh.rN [0,4,1,2,3])⟩
      ·have h15:=A5 h13 hb;refine rl.f 1 rfl ?_;cases h15
       exact ⟨_,rfl,(Gh.rN [0,4,1,2,3])⟩
     ·have h16:=A5 h12 hb;refine rl.f 6 rfl ?_;cases h16
      exact ⟨_,rfl,(Gh.rN [0,4,1,2,3])⟩
    ·have h17:=A5 ey6 hb;refine rl.f 10 rfl ?_;cases h17
     exact ⟨_,rfl,(Gh.rN [0,4,1,2,3])⟩
   ·intro y hC
    subst hC
    cases hb:y6
    ·have h18:=A4 h11 hb;refine RW.cond_f rfl (RW.skip (RW.sr 2 rfl ?_));obtain ⟨v7,e7,h19⟩:=A1 h18;refine rl.call rfl rfl rfl (A6.z (r':=.agg (C2 5 6 v7)) (H':=[some ⟨Q2 2 3 4 x0,0⟩,some ⟨A3 false v5.1,0⟩,some ⟨fl (encS true) x0.Disk.Sectors,1⟩,some ⟨fl (A2 true) x0.Disk.Cache,2⟩,some ⟨fl (A8 true) x0.Used,4⟩,some ⟨fl (encS true) v7.Sectors,1⟩,some ⟨fl (A2 true) v7.Cache,2⟩]) (V5 e7) ?_);refine rl.f 3 rfl (RW.sdrw (A0.op rfl rfl (A0.op rfl rfl (A0.op rfl rfl (A0.op rfl rfl (A0.op rfl rfl (A0.op rfl rfl ?_)))))));obtain ⟨v8,e8,h20⟩:=A1 h19;refine A0.chnmB rfl (x_mv (o:=true) B3 rfl rfl rfl rfl rfl e8) (.skip rfl (.skip rfl (.skip rfl (.skip rfl (.skip rfl (.here (.rx rfl) .nil)))))) ?_;refine A0.opA rfl rfl (.here (.rx rfl) .nil) ?_;obtain ⟨v9,e9,h21⟩:=A1 h20;refine A0.opA rfl (C0 (enc:=encI) (o:=false) rfl rfl rfl e9) (.here (.rx (C0 (enc:=encI) (o:=false) rfl rfl rfl e9)) .nil) ?_;refine A0.opA rfl (H7 (off':=0) ekI rfl e9 rfl rfl rfl) (.here (.rx (H7 (off':=0) ekI rfl e9 rfl rfl rfl)) .nil) ?_;refine A0.opA rfl rfl (.here (.rx rfl) .nil) ?_;refine A0.opA rfl rfl (.here (.rx rfl) .nil) ?_;refine A0.opA rfl rfl (.here (.rx rfl) .nil) ?_;refine A0.opA rfl rfl (.here (.rx rfl) .nil) ?_;refine A0.opA rfl rfl (.here (.rx rfl) .nil) ?_;refine A0.opA rfl rfl (.here (.rx rfl) .nil) ?_;refine A0.opA rfl rfl (.here (.rx rfl) .nil) ?_;refine A0.litA (u:=.lst false 4 [.j v9,.j x0.NextGen,.j (v3.1.length:Int),.nils] 1) rfl rfl (Lit.mk rfl rfl) (.here (.lit rfl (Lit.mk rfl rfl)) .nil) ?_;obtain ⟨v10,e10,h22⟩:=A1 h21;refine A0.chnB rfl (Ar rfl rfl (Th B3 rfl rfl rfl e10)) (.skip rfl (.skip rfl (.skip rfl (.skip rfl (.skip rfl (.skip rfl (.skip rfl (.skip rfl (.skip rfl (.skip rfl (.skip rfl (.skip rfl (.skip rfl (.skip rfl (.skip rfl (.skip rfl (.here (.rx rfl) .nil))))))))))))))))) ?_;refine A0.op rfl rfl (A0.op rfl rfl ?_);refine A0.chn rfl rfl ?_;refine A0.done ?_;refine RW.gh (Gh.own0 (b:=8) rfl (NL.append NL.refl (NL.append (.same (.same (.same (.nils (es:=9) .nil)))) NL.refl))) ?_
     refine RW.gh (Gh.blk (b:=8) rfl (Xd (enc:=A8) e10 rfl)) ?_;refine RW.kp [0] [(0,.ptr 0 0)] [some ⟨[.sl 5 0 v7.Sectors.length,.sl 6 0 v7.Cache.length,.j x0.Segs,.sl 8 0 v10.length,.j x0.NextGen,.j x0.NextSeq,.j x0.Stamp,.j x0.NextValid],0⟩,some ⟨A3 false v5.1,0⟩,some ⟨fl (encS true) x0.Disk.Sectors,1⟩,some ⟨fl (A2 true) x0.Disk.Cache,2⟩,none,some ⟨fl (encS true) v7.Sectors,1⟩,some ⟨fl (A2 true) v7.Cache,2⟩,none,some ⟨fl (A8 true) v10,4⟩] rfl rfl ?_;refine RW.sf 8 rfl (RW.sf 1 rfl (RW.ret ?_));cases h22
     exact RRetS.m (Gh.trans (Gh.absorbq (b:=0) (j:=0) (m:=5) rfl rfl rfl (by decide) (by decide) rfl (ekS.flen true _) (ekS.fown _)) (Gh.trans (Gh.absorbq (b:=0) (j:=1) (m:=6) rfl rfl rfl (by decide) (by decide) rfl (B2.flen true _) (B2.fown _)) (Gh.trans (Gh.absorbq (b:=0) (j:=3) (m:=8) rfl rfl rfl (by decide) (by decide) rfl (B3.flen true _) (B3.fown _)) (Gh.rN [0]))))
    ·have h23:=A5 h11 hb;refine RW.cond_t rfl (RW.sf 1 rfl (RW.ret ?_));cases h23
     exact RRetS.m (Gh.trans (Gh.absorbq (b:=0) (j:=0) (m:=2) rfl rfl rfl (by decide) (by decide) rfl (ekS.flen true _) (ekS.fown _)) (Gh.trans (Gh.absorbq (b:=0) (j:=1) (m:=3) rfl rfl rfl (by decide) (by decide) rfl (B2.flen true _) (B2.fown _)) (Gh.trans (Gh.absorbq (b:=0) (j:=3) (m:=4) rfl rfl rfl (by decide) (by decide) rfl (B3.flen true _) (B3.fown _)) (Gh.rN [0]))))
  ·have h24:=A5 h2 hb;refine RW.cond_t rfl (RW.sf 1 rfl (RW.ret ?_));cases h24
   exact RRetS.m (Gh.trans (Gh.absorbq (b:=0) (j:=0) (m:=1) rfl rfl rfl (by decide) (by decide) rfl (ekS.flen true _) (ekS.fown _)) (Gh.trans (Gh.absorbq (b:=0) (j:=1) (m:=2) rfl rfl rfl (by decide) (by decide) rfl (B2.flen true _) (B2.fown _)) (Gh.trans (Gh.absorbq (b:=0) (j:=3) (m:=3) rfl rfl rfl (by decide) (by decide) rfl (B3.flen true _) (B3.fown _)) (Gh.rN [0]))))
theorem Kz {x0:TLog} {x1:TItem} {x2:Int} {r:Bool×TLog} (hF:P6 x0 x1 x2=some r):C5 Tryz.prog 0 87 [.ptr 0 0,.agg (A9 false x1),.j x2] [some ⟨B5 true x0,0⟩] (.bool r.1) [some ⟨B5 true r.2,0⟩]:=by
 refine C5.q Vb ?_;unfold P6 at hF
 refine RW.gh (Gh.expose (b:=0) (j:=0) rfl rfl (by decide) (ekS.fown _)) ?_
 refine RW.gh (Gh.expose (b:=0) (j:=1) rfl rfl (by decide) (B2.fown _)) ?_
 refine RW.gh (Gh.expose (b:=0) (j:=3) rfl rfl (by decide) (B3.fown _)) ?_
 refine RW.sf 2 rfl ?_;obtain ⟨v1,e1,h1⟩:=A1 hF;refine RW.gh (Gh.blk (b:=3) rfl (Gf B3 e1)) ?_
 refine RW.gh (Gh.expose_raw (b:=3) (j:=3) rfl rfl (by decide) (C7.fown _)) ?_
 refine RW.sdrw (A0.op rfl rfl (A0.op rfl rfl (A0.op rfl rfl (A0.op rfl rfl (A0.op rfl rfl (A0.op rfl rfl (A0.op rfl rfl (A0.op rfl rfl (A0.op rfl rfl (A0.op rfl rfl ?_))))))))));refine A0.op rfl (M7 rfl rfl rfl rfl e1) ?_;refine A0.op rfl (Mo (off':=0) (us:=(J3 5 v1)) B3 rfl rfl e1 rfl rfl rfl) ?_;refine A0.chnB rfl rfl (.here (.rx (Mo (off':=0) (us:=(J3 5 v1)) B3 rfl rfl e1 rfl rfl rfl)) (.here (.rx (M7 rfl rfl rfl rfl e1)) (.here (.rx rfl) (.here (.rx rfl) (.here (.rx rfl) (.here (.rx rfl) (.here (.rx rfl) (.here (.rx rfl) (.here (.rx rfl) (.here (.rx rfl) (.here (.rx rfl) (.here (.rx rfl) .nil)))))))))))) ?_;refine A0.chn rfl rfl ?_;refine A0.done ?_;refine RW.kp [0,2,4,7] [(0,.ptr 0 0),(2,.j x2),(4,.ptr 4 0),(7,.ptr 6 0)] [some ⟨Q2 1 2 3 x0,0⟩,some ⟨fl (encS true) x0.Disk.Sectors,1⟩,some ⟨fl (A2 true) x0.Disk.Cache,2⟩,some ⟨fl (A8 true) (x0.Used.take (w64 ((x0.Used.length:Int) - 1)).toNat)++((J3 5 v1)++fl (A8 true) (x0.Used.drop ((w64 ((x0.Used.length:Int) - 1)).toNat+1))),4⟩,some ⟨A9 false x1,0⟩,some ⟨fl (A9 true) v1.Items,9⟩,some ⟨J3 5 v1,0⟩] rfl rfl ?_;refine RW.sr 3 rfl ?_;obtain ⟨v2,e2,h2⟩:=A1 h1;refine rl.call rfl rfl rfl (A6.y (r':=.tup [.agg (C3 false v2.1),.bool v2.2]) (Qe e2) ?_);refine rl.f 6 rfl (RW.sr 1 rfl ?_);obtain ⟨v3,e3,h3⟩:=A1 h2;refine rl.call rfl rfl rfl (A6.y (r':=.tup [.str v3.1,.bool v3.2]) (Ay e3) ?_);refine rl.f 5 rfl ?_;refine RW.kp [0,2,4,7,8,9,10,11] [(0,.ptr 0 0),(2,.j x2),(4,.ptr 4 0),(7,.ptr 6 0),(8,.ptr 7 0),(9,.bool v2.2),(10,.str v3.1),(11,.bool v3.2)] [some ⟨Q2 1 2 3 x0,0⟩,some ⟨fl (encS true) x0.Disk.Sectors,1⟩,some ⟨fl (A2 true) x0.Disk.Cache,2⟩,some ⟨fl (A8 true) (x0.Used.take (w64 ((x0.Used.length:Int) - 1)).toNat)++((J3 5 v1)++fl (A8 true) (x0.Used.drop ((w64 ((x0.Used.length:Int) - 1)).toNat+1))),4⟩,some ⟨A9 false x1,0⟩,some ⟨fl (A9 true) v1.Items,9⟩,some ⟨J3 5 v1,0⟩,some ⟨C3 false v2.1,0⟩] rfl rfl ?_;refine RW.seq (RW.seq ?_);obtain ⟨y4,ey4,h4⟩:=A1 h3
 refine RW.cutq (σ:=Bool) (fun y4=>[(0,.ptr 0 0),(2,.j x2),(4,.ptr 1 0),(7,.ptr 2 0),(8,.ptr 3 0),(10,.str v3.1),(48,.bool y4)]) (fun y4=>[some ⟨Q2 4 5 6 x0,0⟩,some ⟨A9 false x1,0⟩,some ⟨J3 7 v1,0⟩,some ⟨C3 false v2.1,0⟩,some ⟨fl (encS true) x0.Disk.Sectors,1⟩,some ⟨fl (A2 true) x0.Disk.Cache,2⟩,some ⟨fl (A8 true) (x0.Used.take (w64 ((x0.Used.length:Int) - 1)).toNat)++((J3 7 v1)++fl (A8 true) (x0.Used.drop ((w64 ((x0.Used.length:Int) - 1)).toNat+1))),4⟩,some ⟨fl (A9 true) v1.Items,9⟩]) (fun y=>y4=y) gg ?_ ?_
 ·refine RW.reg ?_;refine rl.run 3 rfl ?_
  cases hb:(!v2.2)
  ·have h5:=A4 ey4 hb;refine rl.run 4 rfl ?_
   cases hb:(!v3.2)
   ·have h6:=A4 h5 hb;refine rl.run 2 rfl ?_
    refine rl.gen rfl rfl fun b hb=>?_
    cases b
    ·have h7:=A4 h6 hb;refine rl.f 1 rfl ?_;cases h7
     exact ⟨_,rfl,(Gh.rN [0,4,6,7,1,2,3,5])⟩
    ·have h8:=A5 h6 hb;refine rl.f 1 rfl ?_;cases h8
     exact ⟨_,rfl,(Gh.rN [0,4,6,7,1,2,3,5])⟩
   ·have h9:=A5 h5 hb;refine rl.f 4 rfl ?_;cases h9
    exact ⟨_,rfl,(Gh.rN [0,4,6,7,1,2,3,5])⟩
  ·have h10:=A5 ey4 hb;refine rl.f 8 rfl ?_;cases h10
   exact ⟨_,rfl,(Gh.rN [0,4,6,7,1,2,3,5])⟩
 ·intro y hC
  subst hC
  cases hb:y4
  ·have h11:=A4 h4 hb;refine RW.cond_f rfl (RW.skip (RW.seq (RW.sr 5 rfl ?_)))
   refine rl.gen rfl rfl fun b hb=>?_
   cases b
   ·have h12:=A4 h11 hb;refine rl.done (RW.cond_f rfl (RW.skip (RW.sdrw (A0.op rfl rfl (A0.op rfl rfl (A0.op rfl rfl (A0.op rfl rfl (A0.op rfl rfl (A0.op rfl rfl (A0.op rfl rfl (A0.op rfl rfl ?_)))))))))));refine A0.op rfl rfl ?_;obtain ⟨v5,e5,h13⟩:=A1 h12;refine A0.call rfl rfl rfl (A6.y (r':=.tup [.agg (A3 false v5.1),.bool v5.2]) (M1 e5) ⟨rfl,?_⟩);refine A0.op rfl rfl (A0.op rfl rfl (A0.op rfl rfl ?_));refine A0.chnB rfl rfl (.here (.rx rfl) (.here (.rx rfl) (.here (.rx rfl) (.here (.cl rfl rfl (A6.y (r':=.tup [.agg (A3 false v5.1),.bool v5.2]) (M1 e5) ⟨rfl,rfl⟩)) (.here (.rx rfl) (.here (.rx rfl) (.here (.rx rfl) (.here (.rx rfl) (.here (.rx rfl) (.here (.rx rfl) (.here (.rx rfl) (.here (.rx rfl) (.here (.rx rfl) .nil))))))))))))) ?_;refine A0.chnB rfl rfl (.here (.rx rfl) (.skip rfl (.skip rfl (.skip rfl (.skip rfl (.skip rfl (.skip rfl (.skip rfl (.skip rfl (.skip rfl (.skip rfl (.skip rfl (.skip rfl .nil))))))))))))) ?_;refine A0.op rfl rfl (A0.done ?_);refine RW.kp [0,4,7,10,12,13] [(0,.ptr 0 0),(4,.ptr 1 0),(7,.ptr 2 0),(10,.str v3.1),(12,.ptr 8 0),(13,.bool v5.2)] [some ⟨Q2 4 5 6 x0,0⟩,some ⟨A9 false x1,0⟩,some ⟨J3 7 v1,0⟩,some ⟨C3 false v2.1,0⟩,some ⟨fl (encS true) x0.Disk.Sectors,1⟩,some ⟨fl (A2 true) x0.Disk.Cache,2⟩,some ⟨fl (A8 true) (x0.Used.take (w64 ((x0.Used.length:Int) - 1)).toNat)++((J3 7 v1)++fl (A8 true) (x0.Used.drop ((w64 ((x0.Used.length:Int) - 1)).toNat+1))),4⟩,some ⟨fl (A9 true) v1.Items,9⟩,some ⟨A3 false v5.1,0⟩] rfl rfl ?_;refine RW.seq (RW.sf 2 rfl ?_)
    cases hb:(!v5.2)
    ·have h14:=A4 h13 hb;refine RW.cond_f rfl (RW.skip (RW.sr 2 rfl ?_));obtain ⟨v6,e6,h15⟩:=A1 h14;refine rl.call rfl rfl rfl (A6.z (r':=.agg (C2 9 10 v6)) (H':=[some ⟨Q2 4 5 6 x0,0⟩,some ⟨A9 false x1,0⟩,some ⟨J3 7 v1,0⟩,some ⟨C3 false v2.1,0⟩,some ⟨fl (encS true) x0.Disk.Sectors,1⟩,some ⟨fl (A2 true) x0.Disk.Cache,2⟩,some ⟨fl (A8 true) (x0.Used.take (w64 ((x0.Used.length:Int) - 1)).toNat)++((J3 7 v1)++fl (A8 true) (x0.Used.drop ((w64 ((x0.Used.length:Int) - 1)).toNat+1))),4⟩,some ⟨fl (A9 true) v1.Items,9⟩,some ⟨A3 false v5.1,0⟩,some ⟨fl (encS true) v6.Sectors,1⟩,some ⟨fl (A2 true) v6.Cache,2⟩]) (V5 e6) ?_);refine rl.f 3 rfl (RW.sf 7 rfl ?_);refine RW.kp [0,4,7] [(0,.ptr 0 0),(4,.ptr 1 0),(7,.ptr 2 0)] [some ⟨[.sl 9 0 v6.Sectors.length,.sl 10 0 v6.Cache.length,.j x0.Segs,.sl 6 0 x0.Used.length,.j x0.NextGen,.j x0.NextSeq,.j x0.Stamp,.j x0.NextValid],0⟩,some ⟨A9 false x1,0⟩,some ⟨[.j v1.No,.j v1.Gen,.j (w64 (v1.End+(v3.1.length:Int))),.sl 7 0 v1.Items.length],0⟩,some ⟨C3 false v2.1,0⟩,some ⟨fl (encS true) x0.Disk.Sectors,1⟩,some ⟨fl (A2 true) x0.Disk.Cache,2⟩,some ⟨fl (A8 true) (x0.Used.take (w64 ((x0.Used.length:Int) - 1)).toNat)++((J3 7 v1)++fl (A8 true) (x0.Used.drop ((w64 ((x0.Used.length:Int) - 1)).toNat+1))),4⟩,some ⟨fl (A9 true) v1.Items,9⟩,some ⟨A3 false v5.1,0⟩,some ⟨fl (encS true) v6.Sectors,1⟩,some ⟨fl (A2 true) v6.Cache,2⟩] rfl rfl ?_;refine RW.sdrw (A0.op rfl rfl (A0.op rfl rfl (A0.op rfl rfl ?_)));obtain ⟨v7,e7,h16⟩:=A1 h15;refine A0.chn rfl (Ar rfl rfl (Ln (m:=v1.Items) (o:=true) C7 (Q9 (m:=v1.Items) (o:=true) Cb rfl rfl) rfl (Cb.fst _ _) e7)) ?_;refine A0.opA rfl rfl (.here (.rx rfl) .nil) ?_;refine A0.litA (u:=H9 ([x1]:List TItem)) rfl rfl (Lit.mk rfl rfl) (.here (.lit rfl (Lit.mk rfl rfl)) .nil) ?_;obtain ⟨v8,e8,h17⟩:=A1 h16;refine A0.chn rfl (Ar rfl rfl (Y4 (l:=v7) (m:=([x1]:List TItem)) (o:=true) C7 rfl rfl Fm rfl (Cb.fst _ _) e8)) ?_;refine A0.op rfl rfl ?_;refine A0.chn rfl rfl ?_;refine A0.done ?_
     refine RW.gh (Gh.absorb_rawq (b:=6) (j:=3) (m:=7) rfl rfl rfl (by decide) (by decide) rfl (C7.flen true _) (C7.fown _)) ?_
     refine RW.gh (Gh.blk (b:=6) rfl (Gf B3 e1).symm) ?_;refine RW.sdrw (A0.op rfl rfl (A0.op rfl rfl (A0.op rfl rfl (A0.op rfl rfl (A0.op rfl rfl (A0.op rfl rfl (A0.op rfl rfl (A0.op rfl rfl (A0.op rfl rfl (A0.op rfl rfl (A0.op rfl rfl ?_)))))))))));obtain ⟨v9,e9,h18⟩:=A1 h17;refine A0.op rfl (M7 rfl rfl rfl rfl e9) ?_;obtain ⟨v10,e10,h19⟩:=A1 h18;refine A0.chn rfl (A2z (off':=0) B3 e9 rfl rfl rfl rfl rfl rfl rfl rfl) ?_;refine A0.done ?_
     refine RW.gh (Gh.absorb_rawq (b:=6) (j:=3) (m:=12) rfl rfl rfl (by decide) (by decide) rfl (C7.flen true _) (C7.fown _)) ?_
     refine RW.gh (Gh.blk (b:=6) rfl (A5m B3 e9 e10 rfl)) ?_;refine RW.kp [0,4] [(0,.ptr 0 0),(4,.ptr 1 0)] [some ⟨[.sl 9 0 v6.Sectors.length,.sl 10 0 v6.Cache.length,.j x0.Segs,.sl 6 0 x0.Used.length,.j x0.NextGen,.j x0.NextSeq,.j x0.Stamp,.j x0.NextValid],0⟩,some ⟨A9 false x1,0⟩,some ⟨[.j v1.No,.j v1.Gen,.j (w64 (v1.End+(v3.1.length:Int))),.sl 12 0 v8.length],0⟩,some ⟨C3 false v2.1,0⟩,some ⟨fl (encS true) x0.Disk.Sectors,1⟩,some ⟨fl (A2 true) x0.Disk.Cache,2⟩,some ⟨fl (A8 true) v10,4⟩,none,some ⟨A3 false v5.1,0⟩,some ⟨fl (encS true) v6.Sectors,1⟩,some ⟨fl (A2 true) v6.Cache,2⟩,none,none] rfl rfl ?_;refine RW.seq (RW.sdrw (A0.op rfl rfl (A0.op rfl rfl (A0.op rfl rfl (A0.op rfl rfl (A0.op rfl rfl (A0.op rfl rfl ?_)))))))
     refine A0.gen rfl rfl fun b hb=>?_
     cases b
     ·have h20:=A4 h19 hb;refine A0.done (RW.cond_f rfl (RW.skip (RW.seq (RW.sdrw (A0.op rfl rfl (A0.op rfl rfl (A0.op rfl rfl (A0.op rfl rfl (A0.op rfl rfl (A0.op rfl rfl (A0.op rfl rfl ?_)))))))))))
      refine A0.gen rfl rfl fun b hb=>?_
      cases b
      ·have h21:=A4 h20 hb;refine A0.done ?_;refine RW.kp [0,4,155] [(0,.ptr 0 0),(4,.ptr 1 0),(155,.bool false)] [some ⟨[.sl 9 0 v6.Sectors.length,.sl 10 0 v6.Cache.length,.j x0.Segs,.sl 6 0 x0.Used.length,.j x0.NextGen,.j x0.NextSeq,.j x0.Stamp,.j x0.NextValid],0⟩,some ⟨A9 false x1,0⟩,some ⟨[.j v1.No,.j v1.Gen,.j (w64 (v1.End+(v3.1.length:Int))),.sl 12 0 v8.length],0⟩,some ⟨C3 false v2.1,0⟩,some ⟨fl (encS true) x0.Disk.Sectors,1⟩,some ⟨fl (A2 true) x0.Disk.Cache,2⟩,some ⟨fl (A8 true) v10,4⟩,none,some ⟨A3 false v5.1,0⟩,some ⟨fl (encS true) v6.Sectors,1⟩,some ⟨fl (A2 true) v6.Cache,2⟩,none,none] rfl rfl ?_;refine RW.cond_f rfl (RW.skip (RW.sf 1 rfl (RW.ret ?_)));cases h21
       exact RRetS.m (Gh.trans (Gh.absorbq (b:=0) (j:=0) (m:=9) rfl rfl rfl (by decide) (by decide) rfl (ekS.flen true _) (ekS.fown _)) (Gh.trans (Gh.absorbq (b:=0) (j:=1) (m:=10) rfl rfl rfl (by decide) (by decide) rfl (B2.flen true _) (B2.fown _)) (Gh.trans (Gh.absorbq (b:=0) (j:=3) (m:=6) rfl rfl rfl (by decide) (by decide) (Co e10) (B3.flen true _) (B3.fown _)) (Gh.rN [0]))))
      ·have h22:=A5 h20 hb;refine A0.done ?_;refine RW.kp [0,4,155] [(0,.ptr 0 0),(4,.ptr 1 0),(155,.bool true)] [some ⟨[.sl 9 0 v6.Sectors.length,.sl 10 0 v6.Cache.length,.j x0.Segs,.sl 6 0 x0.Used.length,.j x0.NextGen,.j x0.NextSeq,.j x0.Stamp,.j x0.NextValid],0⟩,some ⟨A9 false x1,0⟩,some ⟨[.j v1.No,.j v1.Gen,.j (w64 (v1.End+(v3.1.length:Int))),.sl 12 0 v8.length],0⟩,some ⟨C3 false v2.1,0⟩,some ⟨fl (encS true) x0.Disk.Sectors,1⟩,some ⟨fl (A2 true) x0.Disk.Cache,2⟩,some ⟨fl (A8 true) v10,4⟩,none,some ⟨A3 false v5.1,0⟩,some ⟨fl (encS true) v6.Sectors,1⟩,some ⟨fl (A2 true) v6.Cache,2⟩,none,none] rfl rfl ?_;refine RW.cond_t rfl (RW.reg (rl.f 8 rfl (RW.sf 1 rfl (RW.ret ?_))));cases h22
       exact RRetS.m (Gh.trans (Gh.absorbq (b:=0) (j:=0) (m:=9) rfl rfl rfl (by decide) (by decide) rfl (ekS.flen true _) (ekS.fown _)) (Gh.trans (Gh.absorbq (b:=0) (j:=1) (m:=10) rfl rfl rfl (by decide) (by decide) rfl (B2.flen true _) (B2.fown _)) (Gh.trans (Gh.absorbq (b:=0) (j:=3) (m:=6) rfl rfl rfl (by decide) (by decide) (Co e10) (B3.flen true _) (B3.fown _)) (Gh.rN [0]))))
     ·have h23:=A5 h19 hb;refine A0.done (RW.cond_t rfl (RW.reg (rl.f 7 rfl (RW.seq (RW.sdrw (A0.op rfl rfl (A0.op rfl rfl (A0.op rfl rfl (A0.op rfl rfl (A0.op rfl rfl ?_))))))))));refine A0.op rfl rfl (A0.op rfl rfl ?_)
      refine A0.gen rfl rfl fun b hb=>?_
      cases b
      ·have h24:=A4 h23 hb;refine A0.done ?_;refine RW.kp [0,4,155] [(0,.ptr 0 0),(4,.ptr 1 0),(155,.bool false)] [some ⟨[.sl 9 0 v6.Sectors.length,.sl 10 0 v6.Cache.length,.j x0.Segs,.sl 6 0 x0.Used.length,.j x0.NextGen,.j (w64 (x1.Seq+1)),.j x0.Stamp,.j x0.NextValid],0⟩,some ⟨A9 false x1,0⟩,some ⟨[.j v1.No,.j v1.Gen,.j (w64 (v1.End+(v3.1.length:Int))),.sl 12 0 v8.length],0⟩,some ⟨C3 false v2.1,0⟩,some ⟨fl (encS true) x0.Disk.Sectors,1⟩,some ⟨fl (A2 true) x0.Disk.Cache,2⟩,some ⟨fl (A8 true) v10,4⟩,none,some ⟨A3 false v5.1,0⟩,some ⟨fl (encS true) v6.Sectors,1⟩,some ⟨fl (A2 true) v6.Cache,2⟩,none,none] rfl rfl ?_;refine RW.cond_f rfl (RW.skip (RW.sf 1 rfl (RW.ret ?_)));cases h24
       exact RRetS.m (Gh.trans (Gh.absorbq (b:=0) (j:=0) (m:=9) rfl rfl rfl (by decide) (by decide) rfl (ekS.flen true _) (ekS.fown _)) (Gh.trans (Gh.absorbq (b:=0) (j:=1) (m:=10) rfl rfl rfl (by decide) (by decide) rfl (B2.flen true _) (B2.fown _)) (Gh.trans (Gh.absorbq (b:=0) (j:=3) (m:=6) rfl rfl rfl (by decide) (by decide) (Co e10) (B3.flen true _) (B3.fown _)) (Gh.rN [0]))))
      ·have h25:=A5 h23 hb;refine A0.done ?_;refine RW.kp [0,4,155] [(0,.ptr 0 0),(4,.ptr 1 0),(155,.bool true)] [some ⟨[.sl 9 0 v6.Sectors.length,.sl 10 0 v6.Cache.length,.j x0.Segs,.sl 6 0 x0.Used.length,.j x0.NextGen,.j (w64 (x1.Seq+1)),.j x0.Stamp,.j x0.NextValid],0⟩,some ⟨A9 false x1,0⟩,some ⟨[.j v1.No,.j v1.Gen,.j (w64 (v1.End+(v3.1.length:Int))),.sl 12 0 v8.length],0⟩,some ⟨C3 false v2.1,0⟩,some ⟨fl (encS true) x0.Disk.Sectors,1⟩,some ⟨fl (A2 true) x0.Disk.Cache,2⟩,some ⟨fl (A8 true) v10,4⟩,none,some ⟨A3 false v5.1,0⟩,some ⟨fl (encS true) v6.Sectors,1⟩,some ⟨fl (A2 true) v6.Cache,2⟩,none,none] rfl rfl ?_;refine RW.cond_t rfl (RW.reg (rl.f 8 rfl (RW.sf 1 rfl (RW.ret ?_))));cases h25
       exact RRetS.m (Gh.trans (Gh.absorbq (b:=0) (j:=0) (m:=9) rfl rfl rfl (by decide) (by decide) rfl (ekS.flen true _) (ekS.fown _)) (Gh.trans (Gh.absorbq (b:=0) (j:=1) (m:=10) rfl rfl rfl (by decide) (by decide) rfl (B2.flen true _) (B2.fown _)) (Gh.trans (Gh.absorbq (b:=0) (j:=3) (m:=6) rfl rfl rfl (by decide) (by decide) (Co e10) (B3.flen true _) (B3.fown _)) (Gh.rN [0]))))
    ·have h26:=A5 h13 hb;refine RW.cond_t rfl (RW.sf 1 rfl ?_)
     refine RW.gh (Gh.absorb_rawq (b:=6) (j:=3) (m:=7) rfl rfl rfl (by decide) (by decide) rfl (C7.flen true _) (C7.fown _)) ?_
     refine RW.gh (Gh.blk (b:=6) rfl (Gf B3 e1).symm) ?_;refine RW.ret ?_;cases h26
     exact RRetS.m (Gh.trans (Gh.absorbq (b:=0) (j:=0) (m:=4) rfl rfl rfl (by decide) (by decide) rfl (ekS.flen true _) (ekS.fown _)) (Gh.trans (Gh.absorbq (b:=0) (j:=1) (m:=5) rfl rfl rfl (by decide) (by decide) rfl (B2.flen true _) (B2.fown _)) (Gh.trans (Gh.absorbq (b:=0) (j:=3) (m:=6) rfl rfl rfl (by decide) (by decide) rfl (B3.flen true _) (B3.fown _)) (Gh.rN [0]))))
   ·have h27:=A5 h11 hb;refine rl.done (RW.cond_t rfl (RW.seq ?_))
    refine RW.gh (Gh.absorb_rawq (b:=6) (j:=3) (m:=7) rfl rfl rfl (by decide) (by decide) rfl (C7.flen true _) (C7.fown _)) ?_
    refine RW.gh (Gh.blk (b:=6) rfl (Gf B3 e1).symm) ?_
    refine RW.gh (Gh.absorbq (b:=0) (j:=0) (m:=4) rfl rfl rfl (by decide) (by decide) rfl (ekS.flen true _) (ekS.fown _)) ?_
    refine RW.gh (Gh.absorbq (b:=0) (j:=1) (m:=5) rfl rfl rfl (by decide) (by decide) rfl (B2.flen true _) (B2.fown _)) ?_
    refine RW.gh (Gh.absorbq (b:=0) (j:=3) (m:=6) rfl rfl rfl (by decide) (by decide) rfl (B3.flen true _) (B3.fown _)) ?_
    refine RW.sr 2 rfl ?_;obtain ⟨v11,e11,h28⟩:=A1 h27;refine rl.call rfl rfl rfl (A6.eW (r0:=.bool v11.1) (H':=[some ⟨B5 true v11.2,0⟩,some ⟨A9 false x1,0⟩,some ⟨J3 7 v1,0⟩,some ⟨C3 false v2.1,0⟩,none,none,none,none]) [⟨B5 true x0,0⟩] [⟨B5 true v11.2,0⟩] [0] (Ms e11) ?_)
    cases hb:v11.1
    ·have h29:=A4 h28 hb;refine rl.f 1 rfl ?_
     refine RW.gh (Gh.expose (b:=0) (j:=0) rfl rfl (by decide) (ekS.fown _)) ?_
     refine RW.gh (Gh.expose (b:=0) (j:=1) rfl rfl (by decide) (B2.fown _)) ?_
     refine RW.gh (Gh.expose (b:=0) (j:=3) rfl rfl (by decide) (B3.fown _)) ?_
     refine RW.kp [0,4,7,8,58] [(0,.ptr 0 0),(4,.ptr 1 0),(7,.ptr 2 0),(8,.ptr 3 0),(58,.bool true)] [some ⟨Q2 8 9 10 v11.2,0⟩,some ⟨A9 false x1,0⟩,some ⟨J3 7 v1,0⟩,some ⟨C3 false v2.1,0⟩,none,none,none,none,some ⟨fl (encS true) v11.2.Disk.Sectors,1⟩,some ⟨fl (A2 true) v11.2.Disk.Cache,2⟩,some ⟨fl (A8 true) v11.2.Used,4⟩] rfl rfl ?_;refine RW.cond_t rfl (RW.sf 1 rfl (RW.ret ?_));cases h29
     exact RRetS.m (Gh.trans (Gh.absorbq (b:=0) (j:=0) (m:=8) rfl rfl rfl (by decide) (by decide) rfl (ekS.flen true _) (ekS.fown _)) (Gh.trans (Gh.absorbq (b:=0) (j:=1) (m:=9) rfl rfl rfl (by decide) (by decide) rfl (B2.flen true _) (B2.fown _)) (Gh.trans (Gh.absorbq (b:=0) (j:=3) (m:=10) rfl rfl rfl (by decide) (by decide) rfl (B3.flen true _) (B3.fown _)) (Gh.rN [0]))))
    ·have h30:=A5 h28 hb;refine rl.f 1 rfl ?_
     refine RW.gh (Gh.expose (b:=0) (j:=0) rfl rfl (by decide) (ekS.fown _)) ?_
     refine RW.gh (Gh.expose (b:=0) (j:=1) rfl rfl (by decide) (B2.fown _)) ?_
     refine RW.gh (Gh.expose (b:=0) (j:=3) rfl rfl (by decide) (B3.fown _)) ?_
     refine RW.kp [0,4,7,8,58] [(0,.ptr 0 0),(4,.ptr 1 0),(7,.ptr 2 0),(8,.ptr 3 0),(58,.bool false)] [some ⟨Q2 8 9 10 v11.2,0⟩,some ⟨A9 false x1,0⟩,some ⟨J3 7 v1,0⟩,some ⟨C3 false v2.1,0⟩,none,none,none,none,some ⟨fl (encS true) v11.2.Disk.Sectors,1⟩,some ⟨fl (A2 true) v11.2.Disk.Cache,2⟩,some ⟨fl (A8 true) v11.2.Used,4⟩] rfl rfl ?_;refine RW.cond_f rfl (RW.skip ?_);obtain ⟨v12,e12,h31⟩:=A1 h30;refine RW.gh (Gh.blk (b:=10) rfl (Gf B3 e12)) ?_
     refine RW.gh (Gh.expose_raw (b:=10) (j:=3) rfl rfl (by decide) (C7.fown _)) ?_
     refine RW.sdrw (A0.op rfl rfl (A0.op rfl rfl (A0.op rfl rfl (A0.op rfl rfl (A0.op rfl rfl (A0.op rfl rfl (A0.op rfl rfl (A0.op rfl rfl (A0.op rfl rfl (A0.op rfl rfl ?_))))))))));refine A0.op rfl (M7 rfl rfl rfl rfl e12) ?_;refine A0.op rfl (Mo (off':=0) (us:=(J3 11 v12)) B3 rfl rfl e12 rfl rfl rfl) ?_;refine A0.chn rfl rfl ?_;refine A0.done ?_;refine RW.kp [0,4,7,8] [(0,.ptr 0 0),(4,.ptr 1 0),(7,.ptr 2 0),(8,.ptr 3 0)] [some ⟨Q2 8 9 10 v11.2,0⟩,some ⟨A9 false x1,0⟩,some ⟨J3 11 v12,0⟩,some ⟨C3 false v2.1,0⟩,none,none,none,none,some ⟨fl (encS true) v11.2.Disk.Sectors,1⟩,some ⟨fl (A2 true) v11.2.Disk.Cache,2⟩,some ⟨fl (A8 true) (v11.2.Used.take (w64 ((v11.2.Used.length:Int) - 1)).toNat)++((J3 11 v12)++fl (A8 true) (v11.2.Used.drop ((w64 ((v11.2.Used.length:Int) - 1)).toNat+1))),4⟩,some ⟨fl (A9 true) v12.Items,9⟩] rfl rfl ?_;refine RW.sf 4 rfl (RW.sr 1 rfl ?_);obtain ⟨v13,e13,h32⟩:=A1 h31;refine rl.call rfl rfl rfl (A6.y (r':=.tup [.str v13.1,.bool v13.2]) (Ay e13) ?_);refine rl.f 5 rfl (RW.seq ?_);obtain ⟨y14,ey14,h33⟩:=A1 h32
     refine RW.cutq (σ:=Bool) (fun y14=>[(0,.ptr 0 0),(4,.ptr 1 0),(7,.ptr 2 0),(10,.str v13.1),(88,.bool y14)]) (fun y14=>[some ⟨Q2 3 4 5 v11.2,0⟩,some ⟨A9 false x1,0⟩,some ⟨J3 6 v12,0⟩,some ⟨fl (encS true) v11.2.Disk.Sectors,1⟩,some ⟨fl (A2 true) v11.2.Disk.Cache,2⟩,some ⟨fl (A8 true) (v11.2.Used.take (w64 ((v11.2.Used.length:Int) - 1)).toNat)++((J3 6 v12)++fl (A8 true) (v11.2.Used.drop ((w64 ((v11.2.Used.length:Int) - 1)).toNat+1))),4⟩,some ⟨fl (A9 true) v12.Items,9⟩]) (fun y=>y14=y) gg ?_ ?_
     ·refine RW.reg ?_;refine rl.run 3 rfl ?_
      cases hb:(!v13.2)
      ·have h34:=A4 ey14 hb;refine rl.run 5 rfl ?_
       refine rl.gen rfl rfl fun b hb=>?_
       cases b
       ·have h35:=A4 h34 hb;refine rl.f 1 rfl ?_;cases h35
        exact ⟨_,rfl,(Gh.rN [0,1,2,8,9,10,11])⟩
       ·have h36:=A5 h34 hb;refine rl.f 1 rfl ?_;cases h36
        exact ⟨_,rfl,(Gh.rN [0,1,2,8,9,10,11])⟩
      ·have h37:=A5 ey14 hb;refine rl.f 7 rfl ?_;cases h37
       exact ⟨_,rfl,(Gh.rN [0,1,2,8,9,10,11])⟩
     ·intro y hC
      subst hC
      cases hb:y14
      ·have h38:=A4 h33 hb;refine RW.cond_f rfl (RW.skip (RW.sdrw (A0.op rfl rfl (A0.op rfl rfl (A0.op rfl rfl (A0.op rfl rfl (A0.op rfl rfl (A0.op rfl rfl (A0.op rfl rfl (A0.op rfl rfl (A0.op rfl rfl ?_)))))))))));obtain ⟨v15,e15,h39⟩:=A1 h38;refine A0.call rfl rfl rfl (A6.y (r':=.tup [.agg (A3 false v15.1),.bool v15.2]) (M1 e15) ⟨rfl,?_⟩);refine A0.op rfl rfl (A0.op rfl rfl (A0.op rfl rfl ?_));refine A0.chnB rfl rfl (.here (.rx rfl) (.here (.rx rfl) (.here (.rx rfl) (.here (.cl rfl rfl (A6.y (r':=.tup [.agg (A3 false v15.1),.bool v15.2]) (M1 e15) ⟨rfl,rfl⟩)) (.here (.rx rfl) (.here (.rx rfl) (.here (.rx rfl) (.here (.rx rfl) (.here (.rx rfl) (.here (.rx rfl) (.here (.rx rfl) (.here (.rx rfl) (.here (.rx rfl) .nil))))))))))))) ?_;refine A0.chnB rfl rfl (.here (.rx rfl) (.skip rfl (.skip rfl (.skip rfl (.skip rfl (.skip rfl (.skip rfl (.skip rfl (.skip rfl (.skip rfl (.skip rfl (.skip rfl (.skip rfl .nil))))))))))))) ?_;refine A0.op rfl rfl (A0.done ?_);refine RW.kp [0,4,7,10,12,13] [(0,.ptr 0 0),(4,.ptr 1 0),(7,.ptr 2 0),(10,.str v13.1),(12,.ptr 7 0),(13,.bool v15.2)] [some ⟨Q2 3 4 5 v11.2,0⟩,some ⟨A9 false x1,0⟩,some ⟨J3 6 v12,0⟩,some ⟨fl (encS true) v11.2.Disk.Sectors,1⟩,some ⟨fl (A2 true) v11.2.Disk.Cache,2⟩,some ⟨fl (A8 true) (v11.2.Used.take (w64 ((v11.2.Used.length:Int) - 1)).toNat)++((J3 6 v12)++fl (A8 true) (v11.2.Used.drop ((w64 ((v11.2.Used.length:Int) - 1)).toNat+1))),4⟩,some ⟨fl (A9 true) v12.Items,9⟩,some ⟨A3 false v15.1,0⟩] rfl rfl ?_;refine RW.seq (RW.sf 2 rfl ?_)
       cases hb:(!v15.2)
       ·have h40:=A4 h39 hb;refine RW.cond_f rfl (RW.skip (RW.sr 2 rfl ?_));obtain ⟨v16,e16,h41⟩:=A1 h40;refine rl.call rfl rfl rfl (A6.z (r':=.agg (C2 8 9 v16)) (H':=[some ⟨Q2 3 4 5 v11.2,0⟩,some ⟨A9 false x1,0⟩,some ⟨J3 6 v12,0⟩,some ⟨fl (encS true) v11.2.Disk.Sectors,1⟩,some ⟨fl (A2 true) v11.2.Disk.Cache,2⟩,some ⟨fl (A8 true) (v11.2.Used.take (w64 ((v11.2.Used.length:Int) - 1)).toNat)++((J3 6 v12)++fl (A8 true) (v11.2.Used.drop ((w64 ((v11.2.Used.length:Int) - 1)).toNat+1))),4⟩,some ⟨fl (A9 true) v12.Items,9⟩,some ⟨A3 false v15.1,0⟩,some ⟨fl (encS true) v16.Sectors,1⟩,some ⟨fl (A2 true) v16.Cache,2⟩]) (V5 e16) ?_);refine rl.f 3 rfl (RW.sf 7 rfl ?_);refine RW.kp [0,4,7] [(0,.ptr 0 0),(4,.ptr 1 0),(7,.ptr 2 0)] [some ⟨[.sl 8 0 v16.Sectors.length,.sl 9 0 v16.Cache.length,.j v11.2.Segs,.sl 5 0 v11.2.Used.length,.j v11.2.NextGen,.j v11.2.NextSeq,.j v11.2.Stamp,.j v11.2.NextValid],0⟩,some ⟨A9 false x1,0⟩,some ⟨[.j v12.No,.j v12.Gen,.j (w64 (v12.End+(v13.1.length:Int))),.sl 6 0 v12.Items.length],0⟩,some ⟨fl (encS true) v11.2.Disk.Sectors,1⟩,some ⟨fl (A2 true) v11.2.Disk.Cache,2⟩,some ⟨fl (A8 true) (v11.2.Used.take (w64 ((v11.2.Used.length:Int) - 1)).toNat)++((J3 6 v12)++fl (A8 true) (v11.2.Used.drop ((w64 ((v11.2.Used.length:Int) - 1)).toNat+1))),4⟩,some ⟨fl (A9 true) v12.Items,9⟩,some ⟨A3 false v15.1,0⟩,some ⟨fl (encS true) v16.Sectors,1⟩,some ⟨fl (A2 true) v16.Cache,2⟩] rfl rfl ?_;refine RW.sdrw (A0.op rfl rfl (A0.op rfl rfl (A0.op rfl rfl ?_)));obtain ⟨v17,e17,h42⟩:=A1 h41;refine A0.chn rfl (Ar rfl rfl (Ln (m:=v12.Items) (o:=true) C7 (Q9 (m:=v12.Items) (o:=true) Cb rfl rfl) rfl (Cb.fst _ _) e17)) ?_;refine A0.opA rfl rfl (.here (.rx rfl) .nil) ?_;refine A0.litA (u:=H9 ([x1]:List TItem)) rfl rfl (Lit.mk rfl rfl) (.here (.lit rfl (Lit.mk rfl rfl)) .nil) ?_;obtain ⟨v18,e18,h43⟩:=A1 h42;refine A0.chn rfl (Ar rfl rfl (Y4 (l:=v17) (m:=([x1]:List TItem)) (o:=true) C7 rfl rfl Fm rfl (Cb.fst _ _) e18)) ?_;refine A0.op rfl rfl ?_;refine A0.chn rfl rfl ?_;refine A0.done ?_
        refine RW.gh (Gh.absorb_rawq (b:=5) (j:=3) (m:=6) rfl rfl rfl (by decide) (by decide) rfl (C7.flen true _) (C7.fown _)) ?_
        refine RW.gh (Gh.blk (b:=5) rfl (Gf B3 e12).symm) ?_;refine RW.sdrw (A0.op rfl rfl (A0.op rfl rfl (A0.op rfl rfl (A0.op rfl rfl (A0.op rfl rfl (A0.op rfl rfl (A0.op rfl rfl (A0.op rfl rfl (A0.op rfl rfl (A0.op rfl rfl (A0.op rfl rfl ?_)))))))))));obtain ⟨v19,e19,h44⟩:=A1 h43;refine A0.op rfl (M7 rfl rfl rfl rfl e19) ?_;obtain ⟨v20,e20,h45⟩:=A1 h44;refine A0.chn rfl (A2z (off':=0) B3 e19 rfl rfl rfl rfl rfl rfl rfl rfl) ?_;refine A0.done ?_
        refine RW.gh (Gh.absorb_rawq (b:=5) (j:=3) (m:=11) rfl rfl rfl (by decide) (by decide) rfl (C7.flen true _) (C7.fown _)) ?_
        refine RW.gh (Gh.blk (b:=5) rfl (A5m B3 e19 e20 rfl)) ?_;refine RW.kp [0,4] [(0,.ptr 0 0),(4,.ptr 1 0)] [some ⟨[.sl 8 0 v16.Sectors.length,.sl 9 0 v16.Cache.length,.j v11.2.Segs,.sl 5 0 v11.2.Used.length,.j v11.2.NextGen,.j v11.2.NextSeq,.j v11.2.Stamp,.j v11.2.NextValid],0⟩,some ⟨A9 false x1,0⟩,some ⟨[.j v12.No,.j v12.Gen,.j (w64 (v12.End+(v13.1.length:Int))),.sl 11 0 v18.length],0⟩,some ⟨fl (encS true) v11.2.Disk.Sectors,1⟩,some ⟨fl (A2 true) v11.2.Disk.Cache,2⟩,some ⟨fl (A8 true) v20,4⟩,none,some ⟨A3 false v15.1,0⟩,some ⟨fl (encS true) v16.Sectors,1⟩,some ⟨fl (A2 true) v16.Cache,2⟩,none,none] rfl rfl ?_;refine RW.seq (RW.sdrw (A0.op rfl rfl (A0.op rfl rfl (A0.op rfl rfl (A0.op rfl rfl (A0.op rfl rfl (A0.op rfl rfl ?_)))))))
        refine A0.gen rfl rfl fun b hb=>?_
        cases b
        ·have h46:=A4 h45 hb;refine A0.done (RW.cond_f rfl (RW.skip (RW.seq (RW.sdrw (A0.op rfl rfl (A0.op rfl rfl (A0.op rfl rfl (A0.op rfl rfl (A0.op rfl rfl (A0.op rfl rfl (A0.op rfl rfl ?_)))))))))))
         refine A0.gen rfl rfl fun b hb=>?_
         cases b
         ·have h47:=A4 h46 hb;refine A0.done ?_;refine RW.kp [0,4,155] [(0,.ptr 0 0),(4,.ptr 1 0),(155,.bool false)] [some ⟨[.sl 8 0 v16.Sectors.length,.sl 9 0 v16.Cache.length,.j v11.2.Segs,.sl 5 0 v11.2.Used.length,.j v11.2.NextGen,.j v11.2.NextSeq,.j v11.2.Stamp,.j v11.2.NextValid],0⟩,some ⟨A9 false x1,0⟩,some ⟨[.j v12.No,.j v12.Gen,.j (w64 (v12.End+(v13.1.length:Int))),.sl 11 0 v18.length],0⟩,some ⟨fl (encS true) v11.2.Disk.Sectors,1⟩,some ⟨fl (A2 true) v11.2.Disk.Cache,2⟩,some ⟨fl (A8 true) v20,4⟩,none,some ⟨A3 false v15.1,0⟩,some ⟨fl (encS true) v16.Sectors,1⟩,some ⟨fl (A2 true) v16.Cache,2⟩,none,none] rfl rfl ?_;refine RW.cond_f rfl (RW.skip (RW.sf 1 rfl (RW.ret ?_)));cases h47
          exact RRetS.m (Gh.trans (Gh.absorbq (b:=0) (j:=0) (m:=8) rfl rfl rfl (by decide) (by decide) rfl (ekS.flen true _) (ekS.fown _)) (Gh.trans (Gh.absorbq (b:=0) (j:=1) (m:=9) rfl rfl rfl (by decide) (by decide) rfl (B2.flen true _) (B2.fown _)) (Gh.trans (Gh.absorbq (b:=0) (j:=3) (m:=5) rfl rfl rfl (by decide) (by decide) (Co e20) (B3.flen true _) (B3.fown _)) (Gh.rN [0]))))
         ·have h48:=A5 h46 hb;refine A0.done ?_;refine RW.kp [0,4,155] [(0,.ptr 0 0),(4,.ptr 1 0),(155,.bool true)] [some ⟨[.sl 8 0 v16.Sectors.length,.sl 9 0 v16.Cache.length,.j v11.2.Segs,.sl 5 0 v11.2.Used.length,.j v11.2.NextGen,.j v11.2.NextSeq,.j v11.2.Stamp,.j v11.2.NextValid],0⟩,some ⟨A9 false x1,0⟩,some ⟨[.j v12.No,.j v12.Gen,.j (w64 (v12.End+(v13.1.length:Int))),.sl 11 0 v18.length],0⟩,some ⟨fl (encS true) v11.2.Disk.Sectors,1⟩,some ⟨fl (A2 true) v11.2.Disk.Cache,2⟩,some ⟨fl (A8 true) v20,4⟩,none,some ⟨A3 false v15.1,0⟩,some ⟨fl (encS true) v16.Sectors,1⟩,some ⟨fl (A2 true) v16.Cache,2⟩,none,none] rfl rfl ?_;refine RW.cond_t rfl (RW.reg (rl.f 8 rfl (RW.sf 1 rfl (RW.ret ?_))));cases h48
          exact RRetS.m (Gh.trans (Gh.absorbq (b:=0) (j:=0) (m:=8) rfl rfl rfl (by decide) (by decide) rfl (ekS.flen true _) (ekS.fown _)) (Gh.trans (Gh.absorbq (b:=0) (j:=1) (m:=9) rfl rfl rfl (by decide) (by decide) rfl (B2.flen true _) (B2.fown _)) (Gh.trans (Gh.absorbq (b:=0) (j:=3) (m:=5) rfl rfl rfl (by decide) (by decide) (Co e20) (B3.flen true _) (B3.fown _)) (Gh.rN [0]))))
        ·have h49:=A5 h45 hb;refine A0.done (RW.cond_t rfl (RW.reg (rl.f 7 rfl (RW.seq (RW.sdrw (A0.op rfl rfl (A0.op rfl rfl (A0.op rfl rfl (A0.op rfl rfl (A0.op rfl rfl ?_))))))))));refine A0.op rfl rfl (A0.op rfl rfl ?_)
         refine A0.gen rfl rfl fun b hb=>?_
         cases b
         ·have h50:=A4 h49 hb;refine A0.done ?_;refine RW.kp [0,4,155] [(0,.ptr 0 0),(4,.ptr 1 0),(155,.bool false)] [some ⟨[.sl 8 0 v16.Sectors.length,.sl 9 0 v16.Cache.length,.j v11.2.Segs,.sl 5 0 v11.2.Used.length,.j v11.2.NextGen,.j (w64 (x1.Seq+1)),.j v11.2.Stamp,.j v11.2.NextValid],0⟩,some ⟨A9 false x1,0⟩,some ⟨[.j v12.No,.j v12.Gen,.j (w64 (v12.End+(v13.1.length:Int))),.sl 11 0 v18.length],0⟩,some ⟨fl (encS true) v11.2.Disk.Sectors,1⟩,some ⟨fl (A2 true) v11.2.Disk.Cache,2⟩,some ⟨fl (A8 true) v20,4⟩,none,some ⟨A3 false v15.1,0⟩,some ⟨fl (encS true) v16.Sectors,1⟩,some ⟨fl (A2 true) v16.Cache,2⟩,none,none] rfl rfl ?_;refine RW.cond_f rfl (RW.skip (RW.sf 1 rfl (RW.ret ?_)));cases h50
          exact RRetS.m (Gh.trans (Gh.absorbq (b:=0) (j:=0) (m:=8) rfl rfl rfl (by decide) (by decide) rfl (ekS.flen true _) (ekS.fown _)) (Gh.trans (Gh.absorbq (b:=0) (j:=1) (m:=9) rfl rfl rfl (by decide) (by decide) rfl (B2.flen true _) (B2.fown _)) (Gh.trans (Gh.absorbq (b:=0) (j:=3) (m:=5) rfl rfl rfl (by decide) (by decide) (Co e20) (B3.flen true _) (B3.fown _)) (Gh.rN [0]))))
         ·have h51:=A5 h49 hb;refine A0.done ?_;refine RW.kp [0,4,155] [(0,.ptr 0 0),(4,.ptr 1 0),(155,.bool true)] [some ⟨[.sl 8 0 v16.Sectors.length,.sl 9 0 v16.Cache.length,.j v11.2.Segs,.sl 5 0 v11.2.Used.length,.j v11.2.NextGen,.j (w64 (x1.Seq+1)),.j v11.2.Stamp,.j v11.2.NextValid],0⟩,some ⟨A9 false x1,0⟩,some ⟨[.j v12.No,.j v12.Gen,.j (w64 (v12.End+(v13.1.length:Int))),.sl 11 0 v18.length],0⟩,some ⟨fl (encS true) v11.2.Disk.Sectors,1⟩,some ⟨fl (A2 true) v11.2.Disk.Cache,2⟩,some ⟨fl (A8 true) v20,4⟩,none,some ⟨A3 false v15.1,0⟩,some ⟨fl (encS true) v16.Sectors,1⟩,some ⟨fl (A2 true) v16.Cache,2⟩,none,none] rfl rfl ?_;refine RW.cond_t rfl (RW.reg (rl.f 8 rfl (RW.sf 1 rfl (RW.ret ?_))));cases h51
          exact RRetS.m (Gh.trans (Gh.absorbq (b:=0) (j:=0) (m:=8) rfl rfl rfl (by decide) (by decide) rfl (ekS.flen true _) (ekS.fown _)) (Gh.trans (Gh.absorbq (b:=0) (j:=1) (m:=9) rfl rfl rfl (by decide) (by decide) rfl (B2.flen true _) (B2.fown _)) (Gh.trans (Gh.absorbq (b:=0) (j:=3) (m:=5) rfl rfl rfl (by decide) (by decide) (Co e20) (B3.flen true _) (B3.fown _)) (Gh.rN [0]))))
       ·have h52:=A5 h39 hb;refine RW.cond_t rfl (RW.sf 1 rfl ?_)
        refine RW.gh (Gh.absorb_rawq (b:=5) (j:=3) (m:=6) rfl rfl rfl (by decide) (by decide) rfl (C7.flen true _) (C7.fown _)) ?_
        refine RW.gh (Gh.blk (b:=5) rfl (Gf B3 e12).symm) ?_;refine RW.ret ?_;cases h52
        exact RRetS.m (Gh.trans (Gh.absorbq (b:=0) (j:=0) (m:=3) rfl rfl rfl (by decide) (by decide) rfl (ekS.flen true _) (ekS.fown _)) (Gh.trans (Gh.absorbq (b:=0) (j:=1) (m:=4) rfl rfl rfl (by decide) (by decide) rfl (B2.flen true _) (B2.fown _)) (Gh.trans (Gh.absorbq (b:=0) (j:=3) (m:=5) rfl rfl rfl (by decide) (by decide) rfl (B3.flen true _) (B3.fown _)) (Gh.rN [0]))))
      ·have h53:=A5 h33 hb;refine RW.cond_t rfl (RW.sf 1 rfl ?_)
       refine RW.gh (Gh.absorb_rawq (b:=5) (j:=3) (m:=6) rfl rfl rfl (by decide) (by decide) rfl (C7.flen true _) (C7.fown _)) ?_
       refine RW.gh (Gh.blk (b:=5) rfl (Gf B3 e12).symm) ?_;refine RW.ret ?_;cases h53
       exact RRetS.m (Gh.trans (Gh.absorbq (b:=0) (j:=0) (m:=3) rfl rfl rfl (by decide) (by decide) rfl (ekS.flen true _) (ekS.fown _)) (Gh.trans (Gh.absorbq (b:=0) (j:=1) (m:=4) rfl rfl rfl (by decide) (by decide) rfl (B2.flen true _) (B2.fown _)) (Gh.trans (Gh.absorbq (b:=0) (j:=3) (m:=5) rfl rfl rfl (by decide) (by decide) rfl (B3.flen true _) (B3.fown _)) (Gh.rN [0]))))
  ·have h54:=A5 h4 hb;refine RW.cond_t rfl (RW.sf 1 rfl ?_)
   refine RW.gh (Gh.absorb_rawq (b:=6) (j:=3) (m:=7) rfl rfl rfl (by decide) (by decide) rfl (C7.flen true _) (C7.fown _)) ?_
   refine RW.gh (Gh.blk (b:=6) rfl (Gf B3 e1).symm) ?_;refine RW.ret ?_;cases h54
   exact RRetS.m (Gh.trans (Gh.absorbq (b:=0) (j:=0) (m:=4) rfl rfl rfl (by decide) (by decide) rfl (ekS.flen true _) (ekS.fown _)) (Gh.trans (Gh.absorbq (b:=0) (j:=1) (m:=5) rfl rfl rfl (by decide) (by decide) rfl (B2.flen true _) (B2.fown _)) (Gh.trans (Gh.absorbq (b:=0) (j:=3) (m:=6) rfl rfl rfl (by decide) (by decide) rfl (B3.flen true _) (B3.fown _)) (Gh.rN [0]))))
theorem Qp {x0:TL01Cur} {B0_ o0_:Nat} {r:TLog×TL01Cur} (hF:Ba x0=some r):C5 Tryz.prog 0 46 [.ptr 0 0] [some ⟨[pvB B0_ o0_ x0.mB,.j x0.mI,.j x0.mH],0⟩] (.agg (Q2 1 2 3 r.1)) [some ⟨[pvB B0_ o0_ x0.mB,.j r.2.mI,.j r.2.mH],0⟩,some ⟨fl (encS true) r.1.Disk.Sectors,1⟩,some ⟨fl (A2 true) r.1.Disk.Cache,2⟩,some ⟨fl (A8 true) r.1.Used,4⟩]:=by
 refine C5.p A06 ?_;unfold Ba at hF;refine RW.sf 1 rfl (RW.sr 1 rfl ?_);obtain ⟨v1,e1,h1⟩:=A1 hF;refine rl.call rfl rfl rfl (A6.eN (r0:=.j v1.1) (H':=[some ⟨[pvB B0_ o0_ x0.mB,.j v1.2.mI,.j v1.2.mH],0⟩,some ⟨[.nils,.nils,.j 0,.nils,.j 0,.j 0,.j 0,.j 0],0⟩]) [⟨[pvB B0_ o0_ x0.mB,.j x0.mI,.j x0.mH],0⟩] [⟨[pvB B0_ o0_ x0.mB,.j v1.2.mI,.j v1.2.mH],0⟩] [] [0] [pvB B0_ o0_ x0.mB] (F3 e1) ?_);refine rl.run 1 rfl ?_;obtain ⟨v2,e2,h2⟩:=A1 h1;refine rl.call rfl rfl rfl (A6.z (r':=.tup [.agg (Q2 2 3 4 v2.1),.bool v2.2]) (H':=[some ⟨[pvB B0_ o0_ x0.mB,.j v1.2.mI,.j v1.2.mH],0⟩,some ⟨[.nils,.nils,.j 0,.nils,.j 0,.j 0,.j 0,.j 0],0⟩,some ⟨fl (encS true) v2.1.Disk.Sectors,1⟩,some ⟨fl (A2 true) v2.1.Disk.Cache,2⟩,some ⟨fl (A8 true) v2.1.Used,4⟩]) (Mu e2) ?_);refine rl.f 6 rfl (RW.seq (RW.sf 1 rfl ?_));obtain ⟨y9,ey9,h4⟩:=A1 h2
 refine RW.cutq (σ:=Int×Int×Int×Int×Int×Int×Int×(List (List UInt8))×(List TWrite)×(List TSeg)) (fun y4=>[(2,.ptr 1 0),(3,.ptr 2 0)]) (fun y4=>[some ⟨[pvB B0_ o0_ x0.mB,.j y4.1,.j y4.2.1],0⟩,some ⟨[.nils,.nils,.j 0,.nils,.j 0,.j 0,.j 0,.j 0],0⟩,some ⟨[.sl 3 0 y4.2.2.2.2.2.2.2.1.length,.sl 4 0 y4.2.2.2.2.2.2.2.2.1.length,.j y4.2.2.1,.sl 5 0 y4.2.2.2.2.2.2.2.2.2.length,.j y4.2.2.2.1,.j y4.2.2.2.2.1,.j y4.2.2.2.2.2.1,.j y4.2.2.2.2.2.2.1],0⟩,some ⟨fl (encS true) y4.2.2.2.2.2.2.2.1,1⟩,some ⟨fl (A2 true) y4.2.2.2.2.2.2.2.2.1,2⟩,some ⟨fl (A8 true) y4.2.2.2.2.2.2.2.2.2,4⟩]) (fun y=>y9=y) gg ?_ ?_
 ·refine RW.blk ?_
  refine RW.iter (σ:=Int×Int×Int×Int×Int×Int×Int×Int×(List (List UInt8))×(List TWrite)×(List TSeg)) ey9 (fun s3=>[(0,.ptr 0 0),(2,.ptr 1 0),(3,.ptr 2 0),(5,.j s3.1)]) (fun s3=>[some ⟨[pvB B0_ o0_ x0.mB,.j s3.2.1,.j s3.2.2.1],0⟩,some ⟨[.nils,.nils,.j 0,.nils,.j 0,.j 0,.j 0,.j 0],0⟩,some ⟨[.sl 3 0 s3.2.2.2.2.2.2.2.2.1.length,.sl 4 0 s3.2.2.2.2.2.2.2.2.2.1.length,.j s3.2.2.2.1,.sl 5 0 s3.2.2.2.2.2.2.2.2.2.2.length,.j s3.2.2.2.2.1,.j s3.2.2.2.2.2.1,.j s3.2.2.2.2.2.2.1,.j s3.2.2.2.2.2.2.2.1],0⟩,some ⟨fl (encS true) s3.2.2.2.2.2.2.2.2.1,1⟩,some ⟨fl (A2 true) s3.2.2.2.2.2.2.2.2.2.1,2⟩,some ⟨fl (A8 true) s3.2.2.2.2.2.2.2.2.2.2,4⟩]) (Gh.rN [0,1,5,2,3,4]) (fun s3 B o hS3 hB3 hE3=>?_)
  unfold X5 at hS3;refine RW.seq (RW.sr 2 rfl ?_);obtain ⟨v5,e5,h5⟩:=A1 hS3;refine rl.call rfl rfl rfl (A6.eN (r0:=.j v5.1) (H':=[some ⟨[pvB B0_ o0_ x0.mB,.j v5.2.mI,.j v5.2.mH],0⟩,some ⟨[.nils,.nils,.j 0,.nils,.j 0,.j 0,.j 0,.j 0],0⟩,some ⟨[.sl 3 0 s3.2.2.2.2.2.2.2.2.1.length,.sl 4 0 s3.2.2.2.2.2.2.2.2.2.1.length,.j s3.2.2.2.1,.sl 5 0 s3.2.2.2.2.2.2.2.2.2.2.length,.j s3.2.2.2.2.1,.j s3.2.2.2.2.2.1,.j s3.2.2.2.2.2.2.1,.j s3.2.2.2.2.2.2.2.1],0⟩,some ⟨fl (encS true) s3.2.2.2.2.2.2.2.2.1,1⟩,some ⟨fl (A2 true) s3.2.2.2.2.2.2.2.2.2.1,2⟩,some ⟨fl (A8 true) s3.2.2.2.2.2.2.2.2.2.2,4⟩]) [⟨[pvB B0_ o0_ x0.mB,.j s3.2.1,.j s3.2.2.1],0⟩] [⟨[pvB B0_ o0_ x0.mB,.j v5.2.mI,.j v5.2.mH],0⟩] [] [0] [pvB B0_ o0_ x0.mB] (F3 e5) ?_)
  refine rl.gen rfl rfl fun b hb=>?_
  cases b
  ·have h6:=A4 h5 hb;refine rl.done (RW.cond_f rfl (RW.exit (C4 ?_)));cases h6
   exact ⟨_,(hE3 _ rfl).symm,(Gh.rN [0,1,2,3,4,5])⟩
  ·have h7:=A5 h5 hb;refine rl.done (RW.cond_t rfl (RW.skip (RW.seq (RW.blk ?_))));refine RW.sdrwF [⟨[.j 0,.j 0,.j 0,.j 0,.j 0,.j 0,.str [],.str [],.str []],0⟩] ?_;refine A0.op rfl rfl (A0.op rfl rfl (A0.op rfl rfl ?_));obtain ⟨v6,e6,h8⟩:=A1 h7;refine A0.ccallB rfl rfl rfl (A6.eN (r0:=.agg (G6 false v6.1)) (H':=[some ⟨[pvB B0_ o0_ x0.mB,.j v6.2.mI,.j v6.2.mH],0⟩,some ⟨[.nils,.nils,.j 0,.nils,.j 0,.j 0,.j 0,.j 0],0⟩,some ⟨[.sl 3 0 s3.2.2.2.2.2.2.2.2.1.length,.sl 4 0 s3.2.2.2.2.2.2.2.2.2.1.length,.j s3.2.2.2.1,.sl 5 0 s3.2.2.2.2.2.2.2.2.2.2.length,.j s3.2.2.2.2.1,.j s3.2.2.2.2.2.1,.j s3.2.2.2.2.2.2.1,.j s3.2.2.2.2.2.2.2.1],0⟩,some ⟨fl (encS true) s3.2.2.2.2.2.2.2.2.1,1⟩,some ⟨fl (A2 true) s3.2.2.2.2.2.2.2.2.2.1,2⟩,some ⟨fl (A8 true) s3.2.2.2.2.2.2.2.2.2.2,4⟩,some ⟨[.j 0,.j 0,.j 0,.j 0,.j 0,.j 0,.str [],.str [],.str []],0⟩]) [⟨[pvB B0_ o0_ x0.mB,.j v5.2.mI,.j v5.2.mH],0⟩] [⟨[pvB B0_ o0_ x0.mB,.j v6.2.mI,.j v6.2.mH],0⟩] [] [0] [pvB B0_ o0_ x0.mB] (Rk e6) ⟨(.skip rfl (.here (.rx rfl) (.here (.rx rfl) .nil))),?_⟩);refine A0.op rfl rfl ?_;refine A0.flt rfl (.cons rfl .nil) ?_;refine A0.chn rfl rfl ?_;refine A0.done (RW.sr 2 rfl ?_);obtain ⟨v7,e7,h9⟩:=A1 h8;refine rl.call rfl rfl rfl (A6.y (r':=.bool v7) (Vr e7) ?_)
   cases hb:v7
   ·have h10:=A4 h9 hb;refine rl.done ?_;refine RW.kp [0,2,3,5,6,27] [(0,.ptr 0 0),(2,.ptr 1 0),(3,.ptr 2 0),(5,.j s3.1),(6,.ptr 6 0),(27,.bool false)] [some ⟨[pvB B0_ o0_ x0.mB,.j v6.2.mI,.j v6.2.mH],0⟩,some ⟨[.nils,.nils,.j 0,.nils,.j 0,.j 0,.j 0,.j 0],0⟩,some ⟨[.sl 3 0 s3.2.2.2.2.2.2.2.2.1.length,.sl 4 0 s3.2.2.2.2.2.2.2.2.2.1.length,.j s3.2.2.2.1,.sl 5 0 s3.2.2.2.2.2.2.2.2.2.2.length,.j s3.2.2.2.2.1,.j s3.2.2.2.2.2.1,.j s3.2.2.2.2.2.2.1,.j s3.2.2.2.2.2.2.2.1],0⟩,some ⟨fl (encS true) s3.2.2.2.2.2.2.2.2.1,1⟩,some ⟨fl (A2 true) s3.2.2.2.2.2.2.2.2.2.1,2⟩,some ⟨fl (A8 true) s3.2.2.2.2.2.2.2.2.2.2,4⟩,some ⟨[.j s3.2.2.2.2.2.1,.j v6.1.Kind,.j v6.1.Valid,.j v6.1.Uid,.j v6.1.Next,.j v6.1.Flags,.str v6.1.User,.str v6.1.Name,.str v6.1.Text],0⟩] rfl rfl ?_;refine RW.cond_f rfl (RW.skip (RW.reg (rl.f 3 rfl ?_)));cases h10
    exact hB3 _ rfl _ _ (Gh.rN [0,1,2,3,4,5])
   ·have h11:=A5 h9 hb;refine rl.done ?_;refine RW.kp [0,2,3,5,6,27] [(0,.ptr 0 0),(2,.ptr 1 0),(3,.ptr 2 0),(5,.j s3.1),(6,.ptr 6 0),(27,.bool true)] [some ⟨[pvB B0_ o0_ x0.mB,.j v6.2.mI,.j v6.2.mH],0⟩,some ⟨[.nils,.nils,.j 0,.nils,.j 0,.j 0,.j 0,.j 0],0⟩,some ⟨[.sl 3 0 s3.2.2.2.2.2.2.2.2.1.length,.sl 4 0 s3.2.2.2.2.2.2.2.2.2.1.length,.j s3.2.2.2.1,.sl 5 0 s3.2.2.2.2.2.2.2.2.2.2.length,.j s3.2.2.2.2.1,.j s3.2.2.2.2.2.1,.j s3.2.2.2.2.2.2.1,.j s3.2.2.2.2.2.2.2.1],0⟩,some ⟨fl (encS true) s3.2.2.2.2.2.2.2.2.1,1⟩,some ⟨fl (A2 true) s3.2.2.2.2.2.2.2.2.2.1,2⟩,some ⟨fl (A8 true) s3.2.2.2.2.2.2.2.2.2.2,4⟩,some ⟨[.j s3.2.2.2.2.2.1,.j v6.1.Kind,.j v6.1.Valid,.j v6.1.Uid,.j v6.1.Next,.j v6.1.Flags,.str v6.1.User,.str v6.1.Name,.str v6.1.Text],0⟩] rfl rfl ?_;refine RW.cond_t rfl ?_
    refine RW.gh (Gh.absorbq (b:=2) (j:=0) (m:=3) rfl rfl rfl (by decide) (by decide) rfl (ekS.flen true _) (ekS.fown _)) ?_
    refine RW.gh (Gh.absorbq (b:=2) (j:=1) (m:=4) rfl rfl rfl (by decide) (by decide) rfl (B2.flen true _) (B2.fown _)) ?_
    refine RW.gh (Gh.absorbq (b:=2) (j:=3) (m:=5) rfl rfl rfl (by decide) (by decide) rfl (B3.flen true _) (B3.fown _)) ?_
    refine RW.reg (rl.run 1 rfl ?_);obtain ⟨v8,e8,h12⟩:=A1 h11;refine rl.call rfl rfl rfl (A6.eW (r0:=.bool v8.1) (H':=[some ⟨[pvB B0_ o0_ x0.mB,.j v6.2.mI,.j v6.2.mH],0⟩,some ⟨[.nils,.nils,.j 0,.nils,.j 0,.j 0,.j 0,.j 0],0⟩,some ⟨B5 true v8.2,0⟩,none,none,none,some ⟨[.j s3.2.2.2.2.2.1,.j v6.1.Kind,.j v6.1.Valid,.j v6.1.Uid,.j v6.1.Next,.j v6.1.Flags,.str v6.1.User,.str v6.1.Name,.str v6.1.Text],0⟩]) [⟨[.lst true 1 (fl (encS true) s3.2.2.2.2.2.2.2.2.1) s3.2.2.2.2.2.2.2.2.1.length,.lst true 2 (fl (A2 true) s3.2.2.2.2.2.2.2.2.2.1) s3.2.2.2.2.2.2.2.2.2.1.length,.j s3.2.2.2.1,.lst true 4 (fl (A8 true) s3.2.2.2.2.2.2.2.2.2.2) s3.2.2.2.2.2.2.2.2.2.2.length,.j s3.2.2.2.2.1,.j s3.2.2.2.2.2.1,.j s3.2.2.2.2.2.2.1,.j s3.2.2.2.2.2.2.2.1],0⟩] [⟨B5 true v8.2,0⟩] [2] (Kz e8) ?_);refine rl.done ?_
    refine RW.gh (Gh.expose (b:=2) (j:=0) rfl rfl (by decide) (ekS.fown _)) ?_
    refine RW.gh (Gh.expose (b:=2) (j:=1) rfl rfl (by decide) (B2.fown _)) ?_
    refine RW.gh (Gh.expose (b:=2) (j:=3) rfl rfl (by decide) (B3.fown _)) ?_
    refine RW.reg (rl.f 3 rfl ?_);cases h12
    exact hB3 _ rfl _ _ (Gh.rN [0,1,2,7,8,9])
 ·intro y4 hC
  subst hC;refine RW.sf 2 rfl (RW.ret ?_);cases h4
  exact RRetM.m [0,3,4,5] Gh.refl
theorem Rf {x0:List Int} {B0_ o0_:Nat} {r:TL01Cur} (hF:Bd x0=some r):C5 Tryz.prog 0 47 [pvB B0_ o0_ x0] [] (.ptr 0 0) [some ⟨[pvB B0_ o0_ x0,.j r.mI,.j r.mH],0⟩]:=by
 refine C5.p A07 ?_;unfold Bd at hF;refine RW.sf 1 rfl (RW.sf 4 rfl (RW.seq (RW.sf 1 rfl ?_)));obtain ⟨y5,ey5,h2⟩:=A1 hF
 refine RW.cutq (σ:=Int) (fun y2=>[(0,pvB B0_ o0_ x0),(3,.j y2)]) (fun y2=>[]) (fun y=>y5=y) gg ?_ ?_
 ·refine RW.blk ?_
  refine RW.iter (σ:=Int×Int) ey5 (fun s1=>[(0,pvB B0_ o0_ x0),(3,.j s1.1),(4,.j s1.2)]) (fun s1=>[]) (Gh.y0 []) (fun s1 B o hS1 hB1 hE1=>?_)
  unfold Bt at hS1;refine RW.seq (RW.seq ?_);obtain ⟨y3,ey3,h3⟩:=A1 hS1
  refine RW.cutq (σ:=Bool) (fun y3=>[(0,pvB B0_ o0_ x0),(3,.j s1.1),(4,.j s1.2),(15,.bool y3)]) (fun y3=>[]) (fun y=>y3=y) gg ?_ ?_
  ·refine RW.reg ?_;refine rl.run 3 rfl ?_
   refine rl.gen rfl rfl fun b hb=>?_
   cases b
   ·have h4:=A4 ey3 hb;refine rl.f 4 rfl ?_;cases h4
    exact ⟨_,rfl,(Gh.y0 [])⟩
   ·have h5:=A5 ey3 hb;refine rl.run 2 rfl ?_
    refine rl.gen rfl rfl fun b hb=>?_
    cases b
    ·have h6:=A4 h5 hb;refine rl.f 1 rfl ?_;cases h6
     exact ⟨_,rfl,(Gh.y0 [])⟩
    ·have h7:=A5 h5 hb;refine rl.f 1 rfl ?_;cases h7
     exact ⟨_,rfl,(Gh.y0 [])⟩
  ·intro y hC
   subst hC
   cases hb:y3
   ·have h8:=A4 h3 hb;refine RW.cond_f rfl (RW.exit (C4 ?_));cases h8
    exact ⟨_,(hE1 _ rfl).symm,(Gh.y0 [])⟩
   ·have h9:=A5 h3 hb;refine RW.cond_t rfl (RW.skip (RW.seq (RW.blk (RW.reg (rl.run 4 rfl ?_)))));obtain ⟨v4,e4,h10⟩:=A1 h9;refine rl.op (A8w (enc:=encB) (o:=false) rfl rfl rfl e4) ?_;refine rl.op (H7 (off':=0) ekB rfl e4 rfl rfl rfl) ?_;refine rl.f 5 rfl (RW.reg (rl.f 3 rfl ?_));cases h10
    exact hB1 _ rfl _ _ (Gh.y0 [])
 ·intro y2 hC
  subst hC;refine RW.sf 5 rfl (RW.ret ?_);cases h2
  exact RRetM.m [0] Gh.refl
theorem Uy {x0:List Int} {r:TLog} (hF:Cl x0=some r):A7 Tryz.prog 9 [L_B x0] (.agg (B5 true r)):=by
 refine A7.q Zs ?_;unfold Cl at hF;refine RW.sf 1 rfl ?_
 refine RW.pin 0 rfl fun B1 o1=>?_
 refine RW.sr 1 rfl ?_;obtain ⟨v2,e2,h1⟩:=A1 hF;refine rl.call rfl rfl rfl (A6.eN (r0:=.ptr 1 0) (H':=[some ⟨[.nils,.nils,.j 0,.nils,.j 0,.j 0,.j 0,.j 0],0⟩,some ⟨[pvB B1 o1 x0,.j v2.mI,.j v2.mH],0⟩]) [] [] [⟨[pvB B1 o1 x0,.j v2.mI,.j v2.mH],0⟩] [] [pvB B1 o1 x0] (Rf e2) ?_);obtain ⟨v3,e3,h2⟩:=A1 h1;refine rl.call rfl rfl rfl (A6.eN (r0:=.agg (Q2 2 3 4 v3.1)) (H':=[some ⟨[.nils,.nils,.j 0,.nils,.j 0,.j 0,.j 0,.j 0],0⟩,some ⟨[pvB B1 o1 x0,.j v3.2.mI,.j v3.2.mH],0⟩,some ⟨fl (encS true) v3.1.Disk.Sectors,1⟩,some ⟨fl (A2 true) v3.1.Disk.Cache,2⟩,some ⟨fl (A8 true) v3.1.Used,4⟩]) [⟨[pvB B1 o1 x0,.j v2.mI,.j v2.mH],0⟩] [⟨[pvB B1 o1 x0,.j v3.2.mI,.j v3.2.mH],0⟩] [⟨fl (encS true) v3.1.Disk.Sectors,1⟩,⟨fl (A2 true) v3.1.Disk.Cache,2⟩,⟨fl (A8 true) v3.1.Used,4⟩] [1] [pvB B1 o1 x0] (Qp e3) ?_);refine rl.f 1 rfl (RW.ret ?_);cases h2
 exact RRet.y
theorem My {x0:List Int} {r:Bool} (hF:Bs x0=some r):A7 Tryz.prog 4 [L_B x0] (.bool r):=by
 refine A7.q Ti ?_;unfold Bs at hF;refine RW.sf 1 rfl (RW.seq (RW.sr 1 rfl ?_));obtain ⟨v1,e1,h1⟩:=A1 hF;refine rl.call rfl rfl rfl (A6.y (r':=.bool v1) (A1l e1) ?_)
 cases hb:v1
 ·have h2:=A4 h1 hb;refine rl.done (RW.cond_f rfl (RW.skip (RW.sr 1 rfl ?_)));obtain ⟨v2,e2,h3⟩:=A1 h2;refine rl.call rfl rfl rfl (A6.y (r':=.agg (B5 false v2)) (Uy e2) ?_);refine rl.f 2 rfl (RW.sr 2 rfl ?_);obtain ⟨v3,e3,h4⟩:=A1 h3;refine rl.call rfl rfl rfl (A6.y (r':=.tup [.agg (B5 false v3.1),.bool v3.2]) (Gk e3) ?_);refine rl.f 6 rfl ?_;refine RW.kp [3,4,5] [(3,.ptr 0 0),(4,.ptr 1 0),(5,.bool v3.2)] [some ⟨B5 false v2,0⟩,some ⟨B5 false v3.1,0⟩] rfl rfl ?_;refine RW.sdrw (A0.op rfl rfl (A0.op rfl rfl (A0.op rfl rfl ?_)));obtain ⟨v4,e4,h5⟩:=A1 h4;refine A0.call rfl rfl rfl (A6.y (r':=.agg (B7 false v4)) (Fh e4) ⟨rfl,?_⟩);obtain ⟨v5,e5,h6⟩:=A1 h5;refine A0.call rfl rfl rfl (A6.y (r':=.tup [.agg (A3 false v5.1),.bool v5.2]) (Gr e5) ⟨rfl,?_⟩);refine A0.op rfl rfl (A0.op rfl rfl (A0.op rfl rfl ?_));refine A0.chnB rfl rfl (.here (.rx rfl) (.here (.rx rfl) (.here (.rx rfl) (.here (.cl rfl rfl (A6.y (r':=.tup [.agg (A3 false v5.1),.bool v5.2]) (Gr e5) ⟨rfl,rfl⟩)) (.here (.cl rfl rfl (A6.y (r':=.agg (B7 false v4)) (Fh e4) ⟨rfl,rfl⟩)) (.here (.rx rfl) (.here (.rx rfl) (.here (.rx rfl) .nil)))))))) ?_;refine A0.chnB rfl rfl (.here (.rx rfl) (.skip rfl (.skip rfl (.skip rfl (.skip rfl (.skip rfl (.skip rfl (.skip rfl .nil)))))))) ?_;refine A0.op rfl rfl (A0.done (RW.sr 1 rfl ?_));obtain ⟨v6,e6,h7⟩:=A1 h6;refine rl.call rfl rfl rfl (A6.y (r':=.tup [.agg (B5 false v6.1),.bool v6.2]) (Gk e6) ?_);refine rl.f 6 rfl ?_;refine RW.kp [3,4,5,7,8,9] [(3,.ptr 0 0),(4,.ptr 1 0),(5,.bool v3.2),(7,.bool v5.2),(8,.ptr 3 0),(9,.bool v6.2)] [some ⟨B5 false v2,0⟩,some ⟨B5 false v3.1,0⟩,some ⟨A3 false v5.1,0⟩,some ⟨B5 false v6.1,0⟩] rfl rfl ?_;refine RW.seq (RW.sf 1 rfl ?_);obtain ⟨y16,ey16,h9⟩:=A1 h7
  refine RW.cutq (σ:=Unit) (fun y8=>[(3,.ptr 0 0),(4,.ptr 1 0),(5,.bool v3.2),(7,.bool v5.2),(8,.ptr 2 0),(9,.bool v6.2)]) (fun y8=>[some ⟨B5 false v2,0⟩,some ⟨B5 false v3.1,0⟩,some ⟨B5 false v6.1,0⟩]) (fun y=>y16=.inr y) gg ?_ ?_
  ·refine RW.blk ?_
   refine RW.iter (σ:=Int) ey16 (fun s7=>[(3,.ptr 0 0),(4,.ptr 1 0),(5,.bool v3.2),(7,.bool v5.2),(8,.ptr 2 0),(9,.bool v6.2),(10,.j s7)]) (fun s7=>[some ⟨B5 false v2,0⟩,some ⟨B5 false v3.1,0⟩,some ⟨B5 false v6.1,0⟩]) (Gh.y0 [0,1,3]) (fun s7 B o hS8 hB8 hE8=>?_)
   unfold T6 at hS8;refine RW.seq (RW.sr 4 rfl ?_)
   refine rl.gen rfl rfl fun b hb=>?_
   cases b
   ·have h10:=A4 hS8 hb;refine rl.done (RW.cond_f rfl (RW.exit (C4 ?_)));cases h10
    exact ⟨_,(hE8 _ rfl).symm,(Gh.y0 [0,1,2])⟩
   ·have h11:=A5 hS8 hb;refine rl.done (RW.cond_t rfl (RW.skip (RW.seq (RW.blk (RW.sdrw (A0.op rfl rfl (A0.op rfl rfl (A0.op rfl rfl (A0.op rfl rfl (A0.op rfl rfl ?_))))))))));obtain ⟨v9,e9,h12⟩:=A1 h11;refine A0.op rfl (C0 (enc:=A8) (o:=false) rfl rfl rfl e9) ?_;refine A0.op rfl rfl ?_;refine A0.op rfl (H7 (off':=0) B3 rfl e9 rfl rfl rfl) ?_;obtain ⟨v10,e10,h13⟩:=A1 h12;refine A0.call rfl rfl rfl (A6.y (r':=.agg (A8 false v10)) (Eu e10) ⟨rfl,?_⟩);refine A0.chnB rfl rfl (.here (.cl rfl rfl (A6.y (r':=.agg (A8 false v10)) (Eu e10) ⟨rfl,rfl⟩)) (.here (.rx (H7 (off':=0) B3 rfl e9 rfl rfl rfl)) (.here (.rx rfl) (.here (.rx (C0 (enc:=A8) (o:=false) rfl rfl rfl e9)) (.here (.rx rfl) (.here (.rx rfl) (.here (.rx rfl) (.here (.rx rfl) (.here (.rx rfl) .nil))))))))) ?_;refine A0.chn rfl rfl ?_;refine A0.done ?_;refine RW.kp [3,4,5,7,8,9,10,11] [(3,.ptr 0 0),(4,.ptr 1 0),(5,.bool v3.2),(7,.bool v5.2),(8,.ptr 2 0),(9,.bool v6.2),(10,.j s7),(11,.ptr 3 0)] [some ⟨B5 false v2,0⟩,some ⟨B5 false v3.1,0⟩,some ⟨B5 false v6.1,0⟩,some ⟨A8 false v10,0⟩] rfl rfl ?_;refine RW.seq ?_;obtain ⟨y11,ey11,h14⟩:=A1 h13
    refine RW.cutq (σ:=Bool) (fun y11=>[(3,.ptr 0 0),(4,.ptr 1 0),(5,.bool v3.2),(7,.bool v5.2),(8,.ptr 2 0),(9,.bool v6.2),(10,.j s7),(82,.bool y11)]) (fun y11=>[some ⟨B5 false v2,0⟩,some ⟨B5 false v3.1,0⟩,some ⟨B5 false v6.1,0⟩]) (fun y=>y11=y) gg ?_ ?_
    ·refine RW.drw ?_;refine A0.op rfl rfl (A0.op rfl rfl (A0.op rfl rfl (A0.op rfl rfl (A0.op rfl rfl ?_))));obtain ⟨v12,e12,h15⟩:=A1 ey11;refine A0.op rfl (C0 (enc:=A8) (o:=false) rfl rfl rfl e12) ?_;refine A0.op rfl rfl ?_;refine A0.op rfl (H7 (off':=1) B3 rfl e12 rfl rfl rfl) ?_
     refine A0.gen rfl rfl fun b hb=>?_
     cases b
     ·have h16:=A4 h15 hb;refine A0.op rfl rfl (A0.op rfl rfl (A0.op rfl rfl (A0.op rfl rfl (A0.op rfl rfl (A0.op rfl rfl ?_)))));obtain ⟨v13,e13,h17⟩:=A1 h16;refine A0.op rfl (C0 (enc:=A8) (o:=false) rfl rfl rfl e13) ?_;refine A0.op rfl rfl ?_;refine A0.op rfl (H7 (off':=2) B3 rfl e13 rfl rfl rfl) ?_
      refine A0.gen rfl rfl fun b hb=>?_
      cases b
      ·have h18:=A4 h17 hb;refine A0.op rfl rfl (A0.op rfl rfl (A0.op rfl rfl (A0.op rfl rfl (A0.op rfl rfl (A0.op rfl rfl (A0.op rfl rfl ?_))))));obtain ⟨v14,e14,h19⟩:=A1 h18;refine A0.op rfl (C0 (enc:=A8) (o:=false) rfl rfl rfl e14) ?_;refine A0.op rfl rfl ?_;refine A0.op rfl (H7 (off':=3) B3 rfl e14 rfl rfl rfl) ?_;obtain ⟨v15,e15,h20⟩:=A1 h19;refine A0.call rfl rfl rfl (A6.y (r':=.bool v15) (Qa e15) ⟨rfl,?_⟩)
       cases hb:v15
       ·have h21:=A4 h20 hb;refine A0.op rfl rfl (A0.op rfl rfl (A0.done ?_));cases h21
        exact ⟨_,rfl,(Gh.y0 [0,1,2])⟩
       ·have h22:=A5 h20 hb;refine A0.op rfl rfl (A0.op rfl rfl (A0.done ?_));cases h22
        exact ⟨_,rfl,(Gh.y0 [0,1,2])⟩
      ·have h23:=A5 h17 hb;refine A0.op rfl rfl (A0.op rfl rfl (A0.off rfl (A0.off rfl (A0.off rfl (A0.off rfl (A0.off rfl (A0.off rfl (A0.off rfl (A0.off rfl (A0.off rfl (A0.off rfl ?_)))))))))));refine A0.op rfl rfl (A0.done ?_);cases h23
       exact ⟨_,rfl,(Gh.y0 [0,1,2])⟩
     ·have h24:=A5 h15 hb;refine A0.op rfl rfl (A0.off rfl (A0.off rfl (A0.off rfl (A0.off rfl (A0.off rfl (A0.off rfl (A0.off rfl (A0.off rfl (A0.off rfl (A0.op rfl rfl (A0.op rfl rfl ?_)))))))))));refine A0.off rfl (A0.off rfl (A0.off rfl (A0.off rfl (A0.off rfl (A0.off rfl (A0.off rfl (A0.off rfl (A0.off rfl (A0.off rfl (A0.op rfl rfl (A0.done ?_)))))))))));cases h24
      exact ⟨_,rfl,(Gh.y0 [0,1,2])⟩
    ·intro y hC
     subst hC
     cases hb:y11
     ·have h25:=A4 h14 hb;refine RW.cond_f rfl (RW.skip (RW.reg (rl.f 3 rfl ?_)));cases h25
      exact hB8 _ rfl _ _ (Gh.y0 [0,1,2])
     ·have h26:=A5 h14 hb;refine RW.cond_t rfl (RW.sf 1 rfl (RW.ret ?_));cases h26;have h27:=elimL h9 (hE8 _ rfl);cases h27
      exact RRet.y
  ·intro y8 hC
   have h9:=elimR h9 hC;refine RW.seq ?_;obtain ⟨y17,ey17,h28⟩:=A1 h9
   refine RW.cutq (σ:=Bool) (fun y17=>[(2,.bool y17)]) (fun y17=>[]) (fun y=>y17=y) gg ?_ ?_
   ·refine RW.reg ?_;refine rl.run 2 rfl ?_
    cases hb:v3.2
    ·have h29:=A4 ey17 hb;refine rl.f 24 rfl ?_;cases h29
     exact ⟨_,rfl,(Gh.y0 [])⟩
    ·have h30:=A5 ey17 hb;refine rl.run 2 rfl ?_;obtain ⟨v18,e18,h31⟩:=A1 h30;refine rl.call rfl rfl rfl (A6.y (r':=.bool v18) (Jq e18) ?_)
     cases hb:v18
     ·have h32:=A4 h31 hb;refine rl.f 21 rfl ?_;cases h32
      exact ⟨_,rfl,(Gh.y0 [])⟩
     ·have h33:=A5 h31 hb;refine rl.run 5 rfl ?_
      cases hb:v5.2
      ·have h34:=A4 h33 hb;refine rl.f 16 rfl ?_;cases h34
       exact ⟨_,rfl,(Gh.y0 [])⟩
      ·have h35:=A5 h33 hb;refine rl.run 3 rfl ?_
       cases hb:v6.2
       ·have h36:=A4 h35 hb;refine rl.f 13 rfl ?_;cases h36
        exact ⟨_,rfl,(Gh.y0 [])⟩
       ·have h37:=A5 h35 hb;refine rl.run 2 rfl ?_;obtain ⟨v19,e19,h38⟩:=A1 h37;refine rl.call rfl rfl rfl (A6.y (r':=.bool v19) (Jq e19) ?_)
        cases hb:v19
        ·have h39:=A4 h38 hb;refine rl.f 10 rfl ?_;cases h39
         exact ⟨_,rfl,(Gh.y0 [])⟩
        ·have h40:=A5 h38 hb;refine rl.f 10 rfl ?_;cases h40
         exact ⟨_,rfl,(Gh.y0 [])⟩
   ·intro y hC
    subst hC;refine RW.ret ?_;cases h28
    exact RRet.y
 ·have h41:=A5 h1 hb;refine rl.done (RW.cond_t rfl (RW.sf 1 rfl (RW.ret ?_)));cases h41
  exact RRet.y
end Go.Proofs.YtldndhdohlfpgaaGreat.V
