/- What a call comes to. -/
import Derived.Test.YtldndhdohlfpgaaGreatXD1
namespace Go.Proofs.YtldndhdohlfpgaaGreat.V
open Go Go.Proofs Go.RowKit
set_option maxRecDepth 100000
set_option maxHeartbeats 4000000
theorem Fk {x0:TLog} {x1:TItem} {x2:Int} {r:Bool×TLog} (hF:F9 x0 x1 x2=some r):C5 Tryz.prog 0 87 [.ptr 0 0,.agg (A8 false x1),.j x2] [some ⟨A9 true x0,0⟩] (.bool r.1) [some ⟨A9 true r.2,0⟩]:=by
 refine C5.q Vr ?_;unfold F9 at hF
 refine RW.gh (Gh.expose (b:=0) (j:=0) rfl rfl (by decide) (ekS.fown _)) ?_
 refine RW.gh (Gh.expose (b:=0) (j:=1) rfl rfl (by decide) (B4.fown _)) ?_
 refine RW.gh (Gh.expose (b:=0) (j:=3) rfl rfl (by decide) (B3.fown _)) ?_
 refine RW.sf 2 rfl ?_;obtain ⟨v1,e1,h1⟩:=A2 hF;refine RW.gh (Gh.blk (b:=3) rfl (Fc B3 e1)) ?_
 refine RW.gh (Gh.expose_raw (b:=3) (j:=3) rfl rfl (by decide) (C2.fown _)) ?_
 refine RW.sdrw (A0.op rfl rfl (A0.op rfl rfl (A0.op rfl rfl (A0.op rfl rfl (A0.op rfl rfl (A0.op rfl rfl (A0.op rfl rfl (A0.op rfl rfl (A0.op rfl rfl (A0.op rfl rfl ?_))))))))));refine A0.op rfl (P9 rfl rfl rfl rfl e1) ?_;refine A0.op rfl (Vi (off':=0) (us:=(H4 5 v1)) B3 rfl rfl e1 rfl rfl rfl) ?_;refine A0.chnB rfl rfl (.here (.rx (Vi (off':=0) (us:=(H4 5 v1)) B3 rfl rfl e1 rfl rfl rfl)) (.here (.rx (P9 rfl rfl rfl rfl e1)) (.here (.rx rfl) (.here (.rx rfl) (.here (.rx rfl) (.here (.rx rfl) (.here (.rx rfl) (.here (.rx rfl) (.here (.rx rfl) (.here (.rx rfl) (.here (.rx rfl) (.here (.rx rfl) .nil)))))))))))) ?_;refine A0.chn rfl rfl ?_;refine A0.done ?_;refine RW.kp [0,2,4,7] [(0,.ptr 0 0),(2,.j x2),(4,.ptr 4 0),(7,.ptr 6 0)] [some ⟨B6 1 2 3 x0,0⟩,some ⟨fl (encS true) x0.Disk.Sectors,1⟩,some ⟨fl (A1 true) x0.Disk.Cache,2⟩,some ⟨fl (A3 true) (x0.Used.take (w64 ((x0.Used.length:Int) - 1)).toNat)++((H4 5 v1)++fl (A3 true) (x0.Used.drop ((w64 ((x0.Used.length:Int) - 1)).toNat+1))),4⟩,some ⟨A8 false x1,0⟩,some ⟨fl (A8 true) v1.Items,9⟩,some ⟨H4 5 v1,0⟩] rfl rfl ?_;refine RW.sr 3 rfl ?_;obtain ⟨v2,e2,h2⟩:=A2 h1;refine rl.call rfl rfl rfl (A7.y (r':=.tup [.agg (B5 false v2.1),.bool v2.2]) (Pt e2) ?_);refine rl.f 6 rfl (RW.sr 1 rfl ?_);obtain ⟨v3,e3,h3⟩:=A2 h2;refine rl.call rfl rfl rfl (A7.y (r':=.tup [.str v3.1,.bool v3.2]) (W1 e3) ?_);refine rl.f 5 rfl ?_;refine RW.kp [0,2,4,7,8,9,10,11] [(0,.ptr 0 0),(2,.j x2),(4,.ptr 4 0),(7,.ptr 6 0),(8,.ptr 7 0),(9,.bool v2.2),(10,.str v3.1),(11,.bool v3.2)] [some ⟨B6 1 2 3 x0,0⟩,some ⟨fl (encS true) x0.Disk.Sectors,1⟩,some ⟨fl (A1 true) x0.Disk.Cache,2⟩,some ⟨fl (A3 true) (x0.Used.take (w64 ((x0.Used.length:Int) - 1)).toNat)++((H4 5 v1)++fl (A3 true) (x0.Used.drop ((w64 ((x0.Used.length:Int) - 1)).toNat+1))),4⟩,some ⟨A8 false x1,0⟩,some ⟨fl (A8 true) v1.Items,9⟩,some ⟨H4 5 v1,0⟩,some ⟨B5 false v2.1,0⟩] rfl rfl ?_;refine RW.seq (RW.seq ?_);obtain ⟨y4,ey4,h4⟩:=A2 h3
 refine RW.cutq (σ:=Bool) (fun y4=>[(0,.ptr 0 0),(2,.j x2),(4,.ptr 1 0),(7,.ptr 2 0),(8,.ptr 3 0),(10,.str v3.1),(48,.bool y4)]) (fun y4=>[some ⟨B6 4 5 6 x0,0⟩,some ⟨A8 false x1,0⟩,some ⟨H4 7 v1,0⟩,some ⟨B5 false v2.1,0⟩,some ⟨fl (encS true) x0.Disk.Sectors,1⟩,some ⟨fl (A1 true) x0.Disk.Cache,2⟩,some ⟨fl (A3 true) (x0.Used.take (w64 ((x0.Used.length:Int) - 1)).toNat)++((H4 7 v1)++fl (A3 true) (x0.Used.drop ((w64 ((x0.Used.length:Int) - 1)).toNat+1))),4⟩,some ⟨fl (A8 true) v1.Items,9⟩]) (fun y=>y4=y) gg ?_ ?_
 ·refine RW.reg ?_;refine rl.run 3 rfl ?_
  cases hb:(!v2.2)
  ·have h5:=A5 ey4 hb;refine rl.run 4 rfl ?_
   cases hb:(!v3.2)
   ·have h6:=A5 h5 hb;refine rl.run 2 rfl ?_
    refine rl.gen rfl rfl fun b hb=>?_
    cases b
    ·have h7:=A5 h6 hb;refine rl.f 1 rfl ?_;cases h7
     exact ⟨_,rfl,(Gh.rN [0,4,6,7,1,2,3,5])⟩
    ·have h8:=A4 h6 hb;refine rl.f 1 rfl ?_;cases h8
     exact ⟨_,rfl,(Gh.rN [0,4,6,7,1,2,3,5])⟩
   ·have h9:=A4 h5 hb;refine rl.f 4 rfl ?_;cases h9
    exact ⟨_,rfl,(Gh.rN [0,4,6,7,1,2,3,5])⟩
  ·have h10:=A4 ey4 hb;refine rl.f 8 rfl ?_;cases h10
   exact ⟨_,rfl,(Gh.rN [0,4,6,7,1,2,3,5])⟩
 ·intro y hC
  subst hC
  cases hb:y4
  ·have h11:=A5 h4 hb;refine RW.cond_f rfl (RW.skip (RW.seq (RW.sr 5 rfl ?_)))
   refine rl.gen rfl rfl fun b hb=>?_
   cases b
   ·have h12:=A5 h11 hb;refine rl.done (RW.cond_f rfl (RW.skip (RW.sdrw (A0.op rfl rfl (A0.op rfl rfl (A0.op rfl rfl (A0.op rfl rfl (A0.op rfl rfl (A0.op rfl rfl (A0.op rfl rfl (A0.op rfl rfl ?_)))))))))));refine A0.op rfl rfl ?_;obtain ⟨v5,e5,h13⟩:=A2 h12;refine A0.call rfl rfl rfl (A7.y (r':=.tup [.agg (A6 false v5.1),.bool v5.2]) (L5 e5) ⟨rfl,?_⟩);refine A0.op rfl rfl (A0.op rfl rfl (A0.op rfl rfl ?_));refine A0.chnB rfl rfl (.here (.rx rfl) (.here (.rx rfl) (.here (.rx rfl) (.here (.cl rfl rfl (A7.y (r':=.tup [.agg (A6 false v5.1),.bool v5.2]) (L5 e5) ⟨rfl,rfl⟩)) (.here (.rx rfl) (.here (.rx rfl) (.here (.rx rfl) (.here (.rx rfl) (.here (.rx rfl) (.here (.rx rfl) (.here (.rx rfl) (.here (.rx rfl) (.here (.rx rfl) .nil))))))))))))) ?_;refine A0.chnB rfl rfl (.here (.rx rfl) (.skip rfl (.skip rfl (.skip rfl (.skip rfl (.skip rfl (.skip rfl (.skip rfl (.skip rfl (.skip rfl (.skip rfl (.skip rfl (.skip rfl .nil))))))))))))) ?_;refine A0.op rfl rfl (A0.done ?_);refine RW.kp [0,4,7,10,12,13] [(0,.ptr 0 0),(4,.ptr 1 0),(7,.ptr 2 0),(10,.str v3.1),(12,.ptr 8 0),(13,.bool v5.2)] [some ⟨B6 4 5 6 x0,0⟩,some ⟨A8 false x1,0⟩,some ⟨H4 7 v1,0⟩,some ⟨B5 false v2.1,0⟩,some ⟨fl (encS true) x0.Disk.Sectors,1⟩,some ⟨fl (A1 true) x0.Disk.Cache,2⟩,some ⟨fl (A3 true) (x0.Used.take (w64 ((x0.Used.length:Int) - 1)).toNat)++((H4 7 v1)++fl (A3 true) (x0.Used.drop ((w64 ((x0.Used.length:Int) - 1)).toNat+1))),4⟩,some ⟨fl (A8 true) v1.Items,9⟩,some ⟨A6 false v5.1,0⟩] rfl rfl ?_;refine RW.seq (RW.sf 2 rfl ?_)
    cases hb:(!v5.2)
    ·have h14:=A5 h13 hb;refine RW.cond_f rfl (RW.skip (RW.sr 2 rfl ?_));obtain ⟨v6,e6,h15⟩:=A2 h14;refine rl.call rfl rfl rfl (A7.z (r':=.agg (C3 9 10 v6)) (H':=[some ⟨B6 4 5 6 x0,0⟩,some ⟨A8 false x1,0⟩,some ⟨H4 7 v1,0⟩,some ⟨B5 false v2.1,0⟩,some ⟨fl (encS true) x0.Disk.Sectors,1⟩,some ⟨fl (A1 true) x0.Disk.Cache,2⟩,some ⟨fl (A3 true) (x0.Used.take (w64 ((x0.Used.length:Int) - 1)).toNat)++((H4 7 v1)++fl (A3 true) (x0.Used.drop ((w64 ((x0.Used.length:Int) - 1)).toNat+1))),4⟩,some ⟨fl (A8 true) v1.Items,9⟩,some ⟨A6 false v5.1,0⟩,some ⟨fl (encS true) v6.Sectors,1⟩,some ⟨fl (A1 true) v6.Cache,2⟩]) (V0 e6) ?_);refine rl.f 3 rfl (RW.sf 7 rfl ?_);refine RW.kp [0,4,7] [(0,.ptr 0 0),(4,.ptr 1 0),(7,.ptr 2 0)] [some ⟨[.sl 9 0 v6.Sectors.length,.sl 10 0 v6.Cache.length,.j x0.Segs,.sl 6 0 x0.Used.length,.j x0.NextGen,.j x0.NextSeq,.j x0.Stamp,.j x0.NextValid],0⟩,some ⟨A8 false x1,0⟩,some ⟨[.j v1.No,.j v1.Gen,.j (w64 (v1.End+(v3.1.length:Int))),.sl 7 0 v1.Items.length],0⟩,some ⟨B5 false v2.1,0⟩,some ⟨fl (encS true) x0.Disk.Sectors,1⟩,some ⟨fl (A1 true) x0.Disk.Cache,2⟩,some ⟨fl (A3 true) (x0.Used.take (w64 ((x0.Used.length:Int) - 1)).toNat)++((H4 7 v1)++fl (A3 true) (x0.Used.drop ((w64 ((x0.Used.length:Int) - 1)).toNat+1))),4⟩,some ⟨fl (A8 true) v1.Items,9⟩,some ⟨A6 false v5.1,0⟩,some ⟨fl (encS true) v6.Sectors,1⟩,some ⟨fl (A1 true) v6.Cache,2⟩] rfl rfl ?_;refine RW.sdrw (A0.op rfl rfl (A0.op rfl rfl (A0.op rfl rfl ?_)));obtain ⟨v7,e7,h16⟩:=A2 h15;refine A0.chn rfl (U2 rfl rfl (Hp (m:=v1.Items) (o:=true) C2 (M0 (m:=v1.Items) (o:=true) M9 rfl rfl) rfl (M9.fst _ _) e7)) ?_;refine A0.opA rfl rfl (.here (.rx rfl) .nil) ?_;refine A0.litA (u:=E8 ([x1]:List TItem)) rfl rfl (Lit.mk rfl rfl) (.here (.lit rfl (Lit.mk rfl rfl)) .nil) ?_;obtain ⟨v8,e8,h17⟩:=A2 h16;refine A0.chn rfl (U2 rfl rfl (R6 (l:=v7) (m:=([x1]:List TItem)) (o:=true) C2 rfl rfl Bq rfl (M9.fst _ _) e8)) ?_;refine A0.op rfl rfl ?_;refine A0.chn rfl rfl ?_;refine A0.done ?_
     refine RW.gh (Gh.absorb_rawq (b:=6) (j:=3) (m:=7) rfl rfl rfl (by decide) (by decide) rfl (C2.flen true _) (C2.fown _)) ?_
     refine RW.gh (Gh.blk (b:=6) rfl (Fc B3 e1).symm) ?_;refine RW.sdrw (A0.op rfl rfl (A0.op rfl rfl (A0.op rfl rfl (A0.op rfl rfl (A0.op rfl rfl (A0.op rfl rfl (A0.op rfl rfl (A0.op rfl rfl (A0.op rfl rfl (A0.op rfl rfl (A0.op rfl rfl ?_)))))))))));obtain ⟨v9,e9,h18⟩:=A2 h17;refine A0.op rfl (P9 rfl rfl rfl rfl e9) ?_;obtain ⟨v10,e10,h19⟩:=A2 h18;refine A0.chn rfl (A4t (off':=0) B3 e9 rfl rfl rfl rfl rfl rfl rfl rfl) ?_;refine A0.done ?_
     refine RW.gh (Gh.absorb_rawq (b:=6) (j:=3) (m:=12) rfl rfl rfl (by decide) (by decide) rfl (C2.flen true _) (C2.fown _)) ?_
     refine RW.gh (Gh.blk (b:=6) rfl (Xo B3 e9 e10 rfl)) ?_;refine RW.kp [0,4] [(0,.ptr 0 0),(4,.ptr 1 0)] [some ⟨[.sl 9 0 v6.Sectors.length,.sl 10 0 v6.Cache.length,.j x0.Segs,.sl 6 0 x0.Used.length,.j x0.NextGen,.j x0.NextSeq,.j x0.Stamp,.j x0.NextValid],0⟩,some ⟨A8 false x1,0⟩,some ⟨[.j v1.No,.j v1.Gen,.j (w64 (v1.End+(v3.1.length:Int))),.sl 12 0 v8.length],0⟩,some ⟨B5 false v2.1,0⟩,some ⟨fl (encS true) x0.Disk.Sectors,1⟩,some ⟨fl (A1 true) x0.Disk.Cache,2⟩,some ⟨fl (A3 true) v10,4⟩,none,some ⟨A6 false v5.1,0⟩,some ⟨fl (encS true) v6.Sectors,1⟩,some ⟨fl (A1 true) v6.Cache,2⟩,none,none] rfl rfl ?_;refine RW.seq (RW.sdrw (A0.op rfl rfl (A0.op rfl rfl (A0.op rfl rfl (A0.op rfl rfl (A0.op rfl rfl (A0.op rfl rfl ?_)))))))
     refine A0.gen rfl rfl fun b hb=>?_
     cases b
     ·have h20:=A5 h19 hb;refine A0.done (RW.cond_f rfl (RW.skip (RW.seq (RW.sdrw (A0.op rfl rfl (A0.op rfl rfl (A0.op rfl rfl (A0.op rfl rfl (A0.op rfl rfl (A0.op rfl rfl (A0.op rfl rfl ?_)))))))))))
      refine A0.gen rfl rfl fun b hb=>?_
      cases b
      ·have h21:=A5 h20 hb;refine A0.done ?_;refine RW.kp [0,4,155] [(0,.ptr 0 0),(4,.ptr 1 0),(155,.bool false)] [some ⟨[.sl 9 0 v6.Sectors.length,.sl 10 0 v6.Cache.length,.j x0.Segs,.sl 6 0 x0.Used.length,.j x0.NextGen,.j x0.NextSeq,.j x0.Stamp,.j x0.NextValid],0⟩,some ⟨A8 false x1,0⟩,some ⟨[.j v1.No,.j v1.Gen,.j (w64 (v1.End+(v3.1.length:Int))),.sl 12 0 v8.length],0⟩,some ⟨B5 false v2.1,0⟩,some ⟨fl (encS true) x0.Disk.Sectors,1⟩,some ⟨fl (A1 true) x0.Disk.Cache,2⟩,some ⟨fl (A3 true) v10,4⟩,none,some ⟨A6 false v5.1,0⟩,some ⟨fl (encS true) v6.Sectors,1⟩,some ⟨fl (A1 true) v6.Cache,2⟩,none,none] rfl rfl ?_;refine RW.cond_f rfl (RW.skip (RW.sf 1 rfl (RW.ret ?_)));cases h21
       exact RRetS.m (Gh.trans (Gh.absorbq (b:=0) (j:=0) (m:=9) rfl rfl rfl (by decide) (by decide) rfl (ekS.flen true _) (ekS.fown _)) (Gh.trans (Gh.absorbq (b:=0) (j:=1) (m:=10) rfl rfl rfl (by decide) (by decide) rfl (B4.flen true _) (B4.fown _)) (Gh.trans (Gh.absorbq (b:=0) (j:=3) (m:=6) rfl rfl rfl (by decide) (by decide) (W2 e10) (B3.flen true _) (B3.fown _)) (Gh.rN [0]))))
      ·have h22:=A4 h20 hb;refine A0.done ?_;refine RW.kp [0,4,155] [(0,.ptr 0 0),(4,.ptr 1 0),(155,.bool true)] [some ⟨[.sl 9 0 v6.Sectors.length,.sl 10 0 v6.Cache.length,.j x0.Segs,.sl 6 0 x0.Used.length,.j x0.NextGen,.j x0.NextSeq,.j x0.Stamp,.j x0.NextValid],0⟩,some ⟨A8 false x1,0⟩,some ⟨[.j v1.No,.j v1.Gen,.j (w64 (v1.End+(v3.1.length:Int))),.sl 12 0 v8.length],0⟩,some ⟨B5 false v2.1,0⟩,some ⟨fl (encS true) x0.Disk.Sectors,1⟩,some ⟨fl (A1 true) x0.Disk.Cache,2⟩,some ⟨fl (A3 true) v10,4⟩,none,some ⟨A6 false v5.1,0⟩,some ⟨fl (encS true) v6.Sectors,1⟩,some ⟨fl (A1 true) v6.Cache,2⟩,none,none] rfl rfl ?_;refine RW.cond_t rfl (RW.reg (rl.f 8 rfl (RW.sf 1 rfl (RW.ret ?_))));cases h22
       exact RRetS.m (Gh.trans (Gh.absorbq (b:=0) (j:=0) (m:=9) rfl rfl rfl (by decide) (by decide) rfl (ekS.flen true _) (ekS.fown _)) (Gh.trans (Gh.absorbq (b:=0) (j:=1) (m:=10) rfl rfl rfl (by decide) (by decide) rfl (B4.flen true _) (B4.fown _)) (Gh.trans (Gh.absorbq (b:=0) (j:=3) (m:=6) rfl rfl rfl (by decide) (by decide) (W2 e10) (B3.flen true _) (B3.fown _)) (Gh.rN [0]))))
     ·have h23:=A4 h19 hb;refine A0.done (RW.cond_t rfl (RW.reg (rl.f 7 rfl (RW.seq (RW.sdrw (A0.op rfl rfl (A0.op rfl rfl (A0.op rfl rfl (A0.op rfl rfl (A0.op rfl rfl ?_))))))))));refine A0.op rfl rfl (A0.op rfl rfl ?_)
      refine A0.gen rfl rfl fun b hb=>?_
      cases b
      ·have h24:=A5 h23 hb;refine A0.done ?_;refine RW.kp [0,4,155] [(0,.ptr 0 0),(4,.ptr 1 0),(155,.bool false)] [some ⟨[.sl 9 0 v6.Sectors.length,.sl 10 0 v6.Cache.length,.j x0.Segs,.sl 6 0 x0.Used.length,.j x0.NextGen,.j (w64 (x1.Seq+1)),.j x0.Stamp,.j x0.NextValid],0⟩,some ⟨A8 false x1,0⟩,some ⟨[.j v1.No,.j v1.Gen,.j (w64 (v1.End+(v3.1.length:Int))),.sl 12 0 v8.length],0⟩,some ⟨B5 false v2.1,0⟩,some ⟨fl (encS true) x0.Disk.Sectors,1⟩,some ⟨fl (A1 true) x0.Disk.Cache,2⟩,some ⟨fl (A3 true) v10,4⟩,none,some ⟨A6 false v5.1,0⟩,some ⟨fl (encS true) v6.Sectors,1⟩,some ⟨fl (A1 true) v6.Cache,2⟩,none,none] rfl rfl ?_;refine RW.cond_f rfl (RW.skip (RW.sf 1 rfl (RW.ret ?_)));cases h24
       exact RRetS.m (Gh.trans (Gh.absorbq (b:=0) (j:=0) (m:=9) rfl rfl rfl (by decide) (by decide) rfl (ekS.flen true _) (ekS.fown _)) (Gh.trans (Gh.absorbq (b:=0) (j:=1) (m:=10) rfl rfl rfl (by decide) (by decide) rfl (B4.flen true _) (B4.fown _)) (Gh.trans (Gh.absorbq (b:=0) (j:=3) (m:=6) rfl rfl rfl (by decide) (by decide) (W2 e10) (B3.flen true _) (B3.fown _)) (Gh.rN [0]))))
      ·have h25:=A4 h23 hb;refine A0.done ?_;refine RW.kp [0,4,155] [(0,.ptr 0 0),(4,.ptr 1 0),(155,.bool true)] [some ⟨[.sl 9 0 v6.Sectors.length,.sl 10 0 v6.Cache.length,.j x0.Segs,.sl 6 0 x0.Used.length,.j x0.NextGen,.j (w64 (x1.Seq+1)),.j x0.Stamp,.j x0.NextValid],0⟩,some ⟨A8 false x1,0⟩,some ⟨[.j v1.No,.j v1.Gen,.j (w64 (v1.End+(v3.1.length:Int))),.sl 12 0 v8.length],0⟩,some ⟨B5 false v2.1,0⟩,some ⟨fl (encS true) x0.Disk.Sectors,1⟩,some ⟨fl (A1 true) x0.Disk.Cache,2⟩,some ⟨fl (A3 true) v10,4⟩,none,some ⟨A6 false v5.1,0⟩,some ⟨fl (encS true) v6.Sectors,1⟩,some ⟨fl (A1 true) v6.Cache,2⟩,none,none] rfl rfl ?_;refine RW.cond_t rfl (RW.reg (rl.f 8 rfl (RW.sf 1 rfl (RW.ret ?_))));cases h25
       exact RRetS.m (Gh.trans (Gh.absorbq (b:=0) (j:=0) (m:=9) rfl rfl rfl (by decide) (by decide) rfl (ekS.flen true _) (ekS.fown _)) (Gh.trans (Gh.absorbq (b:=0) (j:=1) (m:=10) rfl rfl rfl (by decide) (by decide) rfl (B4.flen true _) (B4.fown _)) (Gh.trans (Gh.absorbq (b:=0) (j:=3) (m:=6) rfl rfl rfl (by decide) (by decide) (W2 e10) (B3.flen true _) (B3.fown _)) (Gh.rN [0]))))
    ·have h26:=A4 h13 hb;refine RW.cond_t rfl (RW.sf 1 rfl ?_)
     refine RW.gh (Gh.absorb_rawq (b:=6) (j:=3) (m:=7) rfl rfl rfl (by decide) (by decide) rfl (C2.flen true _) (C2.fown _)) ?_
     refine RW.gh (Gh.blk (b:=6) rfl (Fc B3 e1).symm) ?_;refine RW.ret ?_;cases h26
     exact RRetS.m (Gh.trans (Gh.absorbq (b:=0) (j:=0) (m:=4) rfl rfl rfl (by decide) (by decide) rfl (ekS.flen true _) (ekS.fown _)) (Gh.trans (Gh.absorbq (b:=0) (j:=1) (m:=5) rfl rfl rfl (by decide) (by decide) rfl (B4.flen true _) (B4.fown _)) (Gh.trans (Gh.absorbq (b:=0) (j:=3) (m:=6) rfl rfl rfl (by decide) (by decide) rfl (B3.flen true _) (B3.fown _)) (Gh.rN [0]))))
   ·have h27:=A4 h11 hb;refine rl.done (RW.cond_t rfl (RW.seq ?_))
    refine RW.gh (Gh.absorb_rawq (b:=6) (j:=3) (m:=7) rfl rfl rfl (by decide) (by decide) rfl (C2.flen true _) (C2.fown _)) ?_
    refine RW.gh (Gh.blk (b:=6) rfl (Fc B3 e1).symm) ?_
    refine RW.gh (Gh.absorbq (b:=0) (j:=0) (m:=4) rfl rfl rfl (by decide) (by decide) rfl (ekS.flen true _) (ekS.fown _)) ?_
    refine RW.gh (Gh.absorbq (b:=0) (j:=1) (m:=5) rfl rfl rfl (by decide) (by decide) rfl (B4.flen true _) (B4.fown _)) ?_
    refine RW.gh (Gh.absorbq (b:=0) (j:=3) (m:=6) rfl rfl rfl (by decide) (by decide) rfl (B3.flen true _) (B3.fown _)) ?_
    refine RW.sr 2 rfl ?_;obtain ⟨v11,e11,h28⟩:=A2 h27;refine rl.call rfl rfl rfl (A7.eW (r0:=.bool v11.1) (H':=[some ⟨A9 true v11.2,0⟩,some ⟨A8 false x1,0⟩,some ⟨H4 7 v1,0⟩,some ⟨B5 false v2.1,0⟩,none,none,none,none]) [⟨A9 true x0,0⟩] [⟨A9 true v11.2,0⟩] [0] (Gr e11) ?_)
    cases hb:v11.1
    ·have h29:=A5 h28 hb;refine rl.f 1 rfl ?_
     refine RW.gh (Gh.expose (b:=0) (j:=0) rfl rfl (by decide) (ekS.fown _)) ?_
     refine RW.gh (Gh.expose (b:=0) (j:=1) rfl rfl (by decide) (B4.fown _)) ?_
     refine RW.gh (Gh.expose (b:=0) (j:=3) rfl rfl (by decide) (B3.fown _)) ?_
     refine RW.kp [0,4,7,8,58] [(0,.ptr 0 0),(4,.ptr 1 0),(7,.ptr 2 0),(8,.ptr 3 0),(58,.bool true)] [some ⟨B6 8 9 10 v11.2,0⟩,some ⟨A8 false x1,0⟩,some ⟨H4 7 v1,0⟩,some ⟨B5 false v2.1,0⟩,none,none,none,none,some ⟨fl (encS true) v11.2.Disk.Sectors,1⟩,some ⟨fl (A1 true) v11.2.Disk.Cache,2⟩,some ⟨fl (A3 true) v11.2.Used,4⟩] rfl rfl ?_;refine RW.cond_t rfl (RW.sf 1 rfl (RW.ret ?_));cases h29
     exact RRetS.m (Gh.trans (Gh.absorbq (b:=0) (j:=0) (m:=8) rfl rfl rfl (by decide) (by decide) rfl (ekS.flen true _) (ekS.fown _)) (Gh.trans (Gh.absorbq (b:=0) (j:=1) (m:=9) rfl rfl rfl (by decide) (by decide) rfl (B4.flen true _) (B4.fown _)) (Gh.trans (Gh.absorbq (b:=0) (j:=3) (m:=10) rfl rfl rfl (by decide) (by decide) rfl (B3.flen true _) (B3.fown _)) (Gh.rN [0]))))
    ·have h30:=A4 h28 hb;refine rl.f 1 rfl ?_
     refine RW.gh (Gh.expose (b:=0) (j:=0) rfl rfl (by decide) (ekS.fown _)) ?_
     refine RW.gh (Gh.expose (b:=0) (j:=1) rfl rfl (by decide) (B4.fown _)) ?_
     refine RW.gh (Gh.expose (b:=0) (j:=3) rfl rfl (by decide) (B3.fown _)) ?_
     refine RW.kp [0,4,7,8,58] [(0,.ptr 0 0),(4,.ptr 1 0),(7,.ptr 2 0),(8,.ptr 3 0),(58,.bool false)] [some ⟨B6 8 9 10 v11.2,0⟩,some ⟨A8 false x1,0⟩,some ⟨H4 7 v1,0⟩,some ⟨B5 false v2.1,0⟩,none,none,none,none,some ⟨fl (encS true) v11.2.Disk.Sectors,1⟩,some ⟨fl (A1 true) v11.2.Disk.Cache,2⟩,some ⟨fl (A3 true) v11.2.Used,4⟩] rfl rfl ?_;refine RW.cond_f rfl (RW.skip ?_);obtain ⟨v12,e12,h31⟩:=A2 h30;refine RW.gh (Gh.blk (b:=10) rfl (Fc B3 e12)) ?_
     refine RW.gh (Gh.expose_raw (b:=10) (j:=3) rfl rfl (by decide) (C2.fown _)) ?_
     refine RW.sdrw (A0.op rfl rfl (A0.op rfl rfl (A0.op rfl rfl (A0.op rfl rfl (A0.op rfl rfl (A0.op rfl rfl (A0.op rfl rfl (A0.op rfl rfl (A0.op rfl rfl (A0.op rfl rfl ?_))))))))));refine A0.op rfl (P9 rfl rfl rfl rfl e12) ?_;refine A0.op rfl (Vi (off':=0) (us:=(H4 11 v12)) B3 rfl rfl e12 rfl rfl rfl) ?_;refine A0.chn rfl rfl ?_;refine A0.done ?_;refine RW.kp [0,4,7,8] [(0,.ptr 0 0),(4,.ptr 1 0),(7,.ptr 2 0),(8,.ptr 3 0)] [some ⟨B6 8 9 10 v11.2,0⟩,some ⟨A8 false x1,0⟩,some ⟨H4 11 v12,0⟩,some ⟨B5 false v2.1,0⟩,none,none,none,none,some ⟨fl (encS true) v11.2.Disk.Sectors,1⟩,some ⟨fl (A1 true) v11.2.Disk.Cache,2⟩,some ⟨fl (A3 true) (v11.2.Used.take (w64 ((v11.2.Used.length:Int) - 1)).toNat)++((H4 11 v12)++fl (A3 true) (v11.2.Used.drop ((w64 ((v11.2.Used.length:Int) - 1)).toNat+1))),4⟩,some ⟨fl (A8 true) v12.Items,9⟩] rfl rfl ?_;refine RW.sf 4 rfl (RW.sr 1 rfl ?_);obtain ⟨v13,e13,h32⟩:=A2 h31;refine rl.call rfl rfl rfl (A7.y (r':=.tup [.str v13.1,.bool v13.2]) (W1 e13) ?_);refine rl.f 5 rfl (RW.seq ?_);obtain ⟨y14,ey14,h33⟩:=A2 h32
     refine RW.cutq (σ:=Bool) (fun y14=>[(0,.ptr 0 0),(4,.ptr 1 0),(7,.ptr 2 0),(10,.str v13.1),(88,.bool y14)]) (fun y14=>[some ⟨B6 3 4 5 v11.2,0⟩,some ⟨A8 false x1,0⟩,some ⟨H4 6 v12,0⟩,some ⟨fl (encS true) v11.2.Disk.Sectors,1⟩,some ⟨fl (A1 true) v11.2.Disk.Cache,2⟩,some ⟨fl (A3 true) (v11.2.Used.take (w64 ((v11.2.Used.length:Int) - 1)).toNat)++((H4 6 v12)++fl (A3 true) (v11.2.Used.drop ((w64 ((v11.2.Used.length:Int) - 1)).toNat+1))),4⟩,some ⟨fl (A8 true) v12.Items,9⟩]) (fun y=>y14=y) gg ?_ ?_
     ·refine RW.reg ?_;refine rl.run 3 rfl ?_
      cases hb:(!v13.2)
      ·have h34:=A5 ey14 hb;refine rl.run 5 rfl ?_
       refine rl.gen rfl rfl fun b hb=>?_
       cases b
       ·have h35:=A5 h34 hb;refine rl.f 1 rfl ?_;cases h35
        exact ⟨_,rfl,(Gh.rN [0,1,2,8,9,10,11])⟩
       ·have h36:=A4 h34 hb;refine rl.f 1 rfl ?_;cases h36
        exact ⟨_,rfl,(Gh.rN [0,1,2,8,9,10,11])⟩
      ·have h37:=A4 ey14 hb;refine rl.f 7 rfl ?_;cases h37
       exact ⟨_,rfl,(Gh.rN [0,1,2,8,9,10,11])⟩
     ·intro y hC
      subst hC
      cases hb:y14
      ·have h38:=A5 h33 hb;refine RW.cond_f rfl (RW.skip (RW.sdrw (A0.op rfl rfl (A0.op rfl rfl (A0.op rfl rfl (A0.op rfl rfl (A0.op rfl rfl (A0.op rfl rfl (A0.op rfl rfl (A0.op rfl rfl (A0.op rfl rfl ?_)))))))))));obtain ⟨v15,e15,h39⟩:=A2 h38;refine A0.call rfl rfl rfl (A7.y (r':=.tup [.agg (A6 false v15.1),.bool v15.2]) (L5 e15) ⟨rfl,?_⟩);refine A0.op rfl rfl (A0.op rfl rfl (A0.op rfl rfl ?_));refine A0.chnB rfl rfl (.here (.rx rfl) (.here (.rx rfl) (.here (.rx rfl) (.here (.cl rfl rfl (A7.y (r':=.tup [.agg (A6 false v15.1),.bool v15.2]) (L5 e15) ⟨rfl,rfl⟩)) (.here (.rx rfl) (.here (.rx rfl) (.here (.rx rfl) (.here (.rx rfl) (.here (.rx rfl) (.here (.rx rfl) (.here (.rx rfl) (.here (.rx rfl) (.here (.rx rfl) .nil))))))))))))) ?_;refine A0.chnB rfl rfl (.here (.rx rfl) (.skip rfl (.skip rfl (.skip rfl (.skip rfl (.skip rfl (.skip rfl (.skip rfl (.skip rfl (.skip rfl (.skip rfl (.skip rfl (.skip rfl .nil))))))))))))) ?_;refine A0.op rfl rfl (A0.done ?_);refine RW.kp [0,4,7,10,12,13] [(0,.ptr 0 0),(4,.ptr 1 0),(7,.ptr 2 0),(10,.str v13.1),(12,.ptr 7 0),(13,.bool v15.2)] [some ⟨B6 3 4 5 v11.2,0⟩,some ⟨A8 false x1,0⟩,some ⟨H4 6 v12,0⟩,some ⟨fl (encS true) v11.2.Disk.Sectors,1⟩,some ⟨fl (A1 true) v11.2.Disk.Cache,2⟩,some ⟨fl (A3 true) (v11.2.Used.take (w64 ((v11.2.Used.length:Int) - 1)).toNat)++((H4 6 v12)++fl (A3 true) (v11.2.Used.drop ((w64 ((v11.2.Used.length:Int) - 1)).toNat+1))),4⟩,some ⟨fl (A8 true) v12.Items,9⟩,some ⟨A6 false v15.1,0⟩] rfl rfl ?_;refine RW.seq (RW.sf 2 rfl ?_)
       cases hb:(!v15.2)
       ·have h40:=A5 h39 hb;refine RW.cond_f rfl (RW.skip (RW.sr 2 rfl ?_));obtain ⟨v16,e16,h41⟩:=A2 h40;refine rl.call rfl rfl rfl (A7.z (r':=.agg (C3 8 9 v16)) (H':=[some ⟨B6 3 4 5 v11.2,0⟩,some ⟨A8 false x1,0⟩,some ⟨H4 6 v12,0⟩,some ⟨fl (encS true) v11.2.Disk.Sectors,1⟩,some ⟨fl (A1 true) v11.2.Disk.Cache,2⟩,some ⟨fl (A3 true) (v11.2.Used.take (w64 ((v11.2.Used.length:Int) - 1)).toNat)++((H4 6 v12)++fl (A3 true) (v11.2.Used.drop ((w64 ((v11.2.Used.length:Int) - 1)).toNat+1))),4⟩,some ⟨fl (A8 true) v12.Items,9⟩,some ⟨A6 false v15.1,0⟩,some ⟨fl (encS true) v16.Sectors,1⟩,some ⟨fl (A1 true) v16.Cache,2⟩]) (V0 e16) ?_);refine rl.f 3 rfl (RW.sf 7 rfl ?_);refine RW.kp [0,4,7] [(0,.ptr 0 0),(4,.ptr 1 0),(7,.ptr 2 0)] [some ⟨[.sl 8 0 v16.Sectors.length,.sl 9 0 v16.Cache.length,.j v11.2.Segs,.sl 5 0 v11.2.Used.length,.j v11.2.NextGen,.j v11.2.NextSeq,.j v11.2.Stamp,.j v11.2.NextValid],0⟩,some ⟨A8 false x1,0⟩,some ⟨[.j v12.No,.j v12.Gen,.j (w64 (v12.End+(v13.1.length:Int))),.sl 6 0 v12.Items.length],0⟩,some ⟨fl (encS true) v11.2.Disk.Sectors,1⟩,some ⟨fl (A1 true) v11.2.Disk.Cache,2⟩,some ⟨fl (A3 true) (v11.2.Used.take (w64 ((v11.2.Used.length:Int) - 1)).toNat)++((H4 6 v12)++fl (A3 true) (v11.2.Used.drop ((w64 ((v11.2.Used.length:Int) - 1)).toNat+1))),4⟩,some ⟨fl (A8 true) v12.Items,9⟩,some ⟨A6 false v15.1,0⟩,some ⟨fl (encS true) v16.Sectors,1⟩,some ⟨fl (A1 true) v16.Cache,2⟩] rfl rfl ?_;refine RW.sdrw (A0.op rfl rfl (A0.op rfl rfl (A0.op rfl rfl ?_)));obtain ⟨v17,e17,h42⟩:=A2 h41;refine A0.chn rfl (U2 rfl rfl (Hp (m:=v12.Items) (o:=true) C2 (M0 (m:=v12.Items) (o:=true) M9 rfl rfl) rfl (M9.fst _ _) e17)) ?_;refine A0.opA rfl rfl (.here (.rx rfl) .nil) ?_;refine A0.litA (u:=E8 ([x1]:List TItem)) rfl rfl (Lit.mk rfl rfl) (.here (.lit rfl (Lit.mk rfl rfl)) .nil) ?_;obtain ⟨v18,e18,h43⟩:=A2 h42;refine A0.chn rfl (U2 rfl rfl (R6 (l:=v17) (m:=([x1]:List TItem)) (o:=true) C2 rfl rfl Bq rfl (M9.fst _ _) e18)) ?_;refine A0.op rfl rfl ?_;refine A0.chn rfl rfl ?_;refine A0.done ?_
        refine RW.gh (Gh.absorb_rawq (b:=5) (j:=3) (m:=6) rfl rfl rfl (by decide) (by decide) rfl (C2.flen true _) (C2.fown _)) ?_
        refine RW.gh (Gh.blk (b:=5) rfl (Fc B3 e12).symm) ?_;refine RW.sdrw (A0.op rfl rfl (A0.op rfl rfl (A0.op rfl rfl (A0.op rfl rfl (A0.op rfl rfl (A0.op rfl rfl (A0.op rfl rfl (A0.op rfl rfl (A0.op rfl rfl (A0.op rfl rfl (A0.op rfl rfl ?_)))))))))));obtain ⟨v19,e19,h44⟩:=A2 h43;refine A0.op rfl (P9 rfl rfl rfl rfl e19) ?_;obtain ⟨v20,e20,h45⟩:=A2 h44;refine A0.chn rfl (A4t (off':=0) B3 e19 rfl rfl rfl rfl rfl rfl rfl rfl) ?_;refine A0.done ?_
        refine RW.gh (Gh.absorb_rawq (b:=5) (j:=3) (m:=11) rfl rfl rfl (by decide) (by decide) rfl (C2.flen true _) (C2.fown _)) ?_
        refine RW.gh (Gh.blk (b:=5) rfl (Xo B3 e19 e20 rfl)) ?_;refine RW.kp [0,4] [(0,.ptr 0 0),(4,.ptr 1 0)] [some ⟨[.sl 8 0 v16.Sectors.length,.sl 9 0 v16.Cache.length,.j v11.2.Segs,.sl 5 0 v11.2.Used.length,.j v11.2.NextGen,.j v11.2.NextSeq,.j v11.2.Stamp,.j v11.2.NextValid],0⟩,some ⟨A8 false x1,0⟩,some ⟨[.j v12.No,.j v12.Gen,.j (w64 (v12.End+(v13.1.length:Int))),.sl 11 0 v18.length],0⟩,some ⟨fl (encS true) v11.2.Disk.Sectors,1⟩,some ⟨fl (A1 true) v11.2.Disk.Cache,2⟩,some ⟨fl (A3 true) v20,4⟩,none,some ⟨A6 false v15.1,0⟩,some ⟨fl (encS true) v16.Sectors,1⟩,some ⟨fl (A1 true) v16.Cache,2⟩,none,none] rfl rfl ?_;refine RW.seq (RW.sdrw (A0.op rfl rfl (A0.op rfl rfl (A0.op rfl rfl (A0.op rfl rfl (A0.op rfl rfl (A0.op rfl rfl ?_)))))))
        refine A0.gen rfl rfl fun b hb=>?_
        cases b
        ·have h46:=A5 h45 hb;refine A0.done (RW.cond_f rfl (RW.skip (RW.seq (RW.sdrw (A0.op rfl rfl (A0.op rfl rfl (A0.op rfl rfl (A0.op rfl rfl (A0.op rfl rfl (A0.op rfl rfl (A0.op rfl rfl ?_)))))))))))
         refine A0.gen rfl rfl fun b hb=>?_
         cases b
         ·have h47:=A5 h46 hb;refine A0.done ?_;refine RW.kp [0,4,155] [(0,.ptr 0 0),(4,.ptr 1 0),(155,.bool false)] [some ⟨[.sl 8 0 v16.Sectors.length,.sl 9 0 v16.Cache.length,.j v11.2.Segs,.sl 5 0 v11.2.Used.length,.j v11.2.NextGen,.j v11.2.NextSeq,.j v11.2.Stamp,.j v11.2.NextValid],0⟩,some ⟨A8 false x1,0⟩,some ⟨[.j v12.No,.j v12.Gen,.j (w64 (v12.End+(v13.1.length:Int))),.sl 11 0 v18.length],0⟩,some ⟨fl (encS true) v11.2.Disk.Sectors,1⟩,some ⟨fl (A1 true) v11.2.Disk.Cache,2⟩,some ⟨fl (A3 true) v20,4⟩,none,some ⟨A6 false v15.1,0⟩,some ⟨fl (encS true) v16.Sectors,1⟩,some ⟨fl (A1 true) v16.Cache,2⟩,none,none] rfl rfl ?_;refine RW.cond_f rfl (RW.skip (RW.sf 1 rfl (RW.ret ?_)));cases h47
          exact RRetS.m (Gh.trans (Gh.absorbq (b:=0) (j:=0) (m:=8) rfl rfl rfl (by decide) (by decide) rfl (ekS.flen true _) (ekS.fown _)) (Gh.trans (Gh.absorbq (b:=0) (j:=1) (m:=9) rfl rfl rfl (by decide) (by decide) rfl (B4.flen true _) (B4.fown _)) (Gh.trans (Gh.absorbq (b:=0) (j:=3) (m:=5) rfl rfl rfl (by decide) (by decide) (W2 e20) (B3.flen true _) (B3.fown _)) (Gh.rN [0]))))
         ·have h48:=A4 h46 hb;refine A0.done ?_;refine RW.kp [0,4,155] [(0,.ptr 0 0),(4,.ptr 1 0),(155,.bool true)] [some ⟨[.sl 8 0 v16.Sectors.length,.sl 9 0 v16.Cache.length,.j v11.2.Segs,.sl 5 0 v11.2.Used.length,.j v11.2.NextGen,.j v11.2.NextSeq,.j v11.2.Stamp,.j v11.2.NextValid],0⟩,some ⟨A8 false x1,0⟩,some ⟨[.j v12.No,.j v12.Gen,.j (w64 (v12.End+(v13.1.length:Int))),.sl 11 0 v18.length],0⟩,some ⟨fl (encS true) v11.2.Disk.Sectors,1⟩,some ⟨fl (A1 true) v11.2.Disk.Cache,2⟩,some ⟨fl (A3 true) v20,4⟩,none,some ⟨A6 false v15.1,0⟩,some ⟨fl (encS true) v16.Sectors,1⟩,some ⟨fl (A1 true) v16.Cache,2⟩,none,none] rfl rfl ?_;refine RW.cond_t rfl (RW.reg (rl.f 8 rfl (RW.sf 1 rfl (RW.ret ?_))));cases h48
          exact RRetS.m (Gh.trans (Gh.absorbq (b:=0) (j:=0) (m:=8) rfl rfl rfl (by decide) (by decide) rfl (ekS.flen true _) (ekS.fown _)) (Gh.trans (Gh.absorbq (b:=0) (j:=1) (m:=9) rfl rfl rfl (by decide) (by decide) rfl (B4.flen true _) (B4.fown _)) (Gh.trans (Gh.absorbq (b:=0) (j:=3) (m:=5) rfl rfl rfl (by decide) (by decide) (W2 e20) (B3.flen true _) (B3.fown _)) (Gh.rN [0]))))
        ·have h49:=A4 h45 hb;refine A0.done (RW.cond_t rfl (RW.reg (rl.f 7 rfl (RW.seq (RW.sdrw (A0.op rfl rfl (A0.op rfl rfl (A0.op rfl rfl (A0.op rfl rfl (A0.op rfl rfl ?_))))))))));refine A0.op rfl rfl (A0.op rfl rfl ?_)
         refine A0.gen rfl rfl fun b hb=>?_
         cases b
         ·have h50:=A5 h49 hb;refine A0.done ?_;refine RW.kp [0,4,155] [(0,.ptr 0 0),(4,.ptr 1 0),(155,.bool false)] [some ⟨[.sl 8 0 v16.Sectors.length,.sl 9 0 v16.Cache.length,.j v11.2.Segs,.sl 5 0 v11.2.Used.length,.j v11.2.NextGen,.j (w64 (x1.Seq+1)),.j v11.2.Stamp,.j v11.2.NextValid],0⟩,some ⟨A8 false x1,0⟩,some ⟨[.j v12.No,.j v12.Gen,.j (w64 (v12.End+(v13.1.length:Int))),.sl 11 0 v18.length],0⟩,some ⟨fl (encS true) v11.2.Disk.Sectors,1⟩,some ⟨fl (A1 true) v11.2.Disk.Cache,2⟩,some ⟨fl (A3 true) v20,4⟩,none,some ⟨A6 false v15.1,0⟩,some ⟨fl (encS true) v16.Sectors,1⟩,some ⟨fl (A1 true) v16.Cache,2⟩,none,none] rfl rfl ?_;refine RW.cond_f rfl (RW.skip (RW.sf 1 rfl (RW.ret ?_)));cases h50
          exact RRetS.m (Gh.trans (Gh.absorbq (b:=0) (j:=0) (m:=8) rfl rfl rfl (by decide) (by decide) rfl (ekS.flen true _) (ekS.fown _)) (Gh.trans (Gh.absorbq (b:=0) (j:=1) (m:=9) rfl rfl rfl (by decide) (by decide) rfl (B4.flen true _) (B4.fown _)) (Gh.trans (Gh.absorbq (b:=0) (j:=3) (m:=5) rfl rfl rfl (by decide) (by decide) (W2 e20) (B3.flen true _) (B3.fown _)) (Gh.rN [0]))))
         ·have h51:=A4 h49 hb;refine A0.done ?_;refine RW.kp [0,4,155] [(0,.ptr 0 0),(4,.ptr 1 0),(155,.bool true)] [some ⟨[.sl 8 0 v16.Sectors.length,.sl 9 0 v16.Cache.length,.j v11.2.Segs,.sl 5 0 v11.2.Used.length,.j v11.2.NextGen,.j (w64 (x1.Seq+1)),.j v11.2.Stamp,.j v11.2.NextValid],0⟩,some ⟨A8 false x1,0⟩,some ⟨[.j v12.No,.j v12.Gen,.j (w64 (v12.End+(v13.1.length:Int))),.sl 11 0 v18.length],0⟩,some ⟨fl (encS true) v11.2.Disk.Sectors,1⟩,some ⟨fl (A1 true) v11.2.Disk.Cache,2⟩,some ⟨fl (A3 true) v20,4⟩,none,some ⟨A6 false v15.1,0⟩,some ⟨fl (encS true) v16.Sectors,1⟩,some ⟨fl (A1 true) v16.Cache,2⟩,none,none] rfl rfl ?_;refine RW.cond_t rfl (RW.reg (rl.f 8 rfl (RW.sf 1 rfl (RW.ret ?_))));cases h51
          exact RRetS.m (Gh.trans (Gh.absorbq (b:=0) (j:=0) (m:=8) rfl rfl rfl (by decide) (by decide) rfl (ekS.flen true _) (ekS.fown _)) (Gh.trans (Gh.absorbq (b:=0) (j:=1) (m:=9) rfl rfl rfl (by decide) (by decide) rfl (B4.flen true _) (B4.fown _)) (Gh.trans (Gh.absorbq (b:=0) (j:=3) (m:=5) rfl rfl rfl (by decide) (by decide) (W2 e20) (B3.flen true _) (B3.fown _)) (Gh.rN [0]))))
       ·have h52:=A4 h39 hb;refine RW.cond_t rfl (RW.sf 1 rfl ?_)
        refine RW.gh (Gh.absorb_rawq (b:=5) (j:=3) (m:=6) rfl rfl rfl (by decide) (by decide) rfl (C2.flen true _) (C2.fown _)) ?_
        refine RW.gh (Gh.blk (b:=5) rfl (Fc B3 e12).symm) ?_;refine RW.ret ?_;cases h52
        exact RRetS.m (Gh.trans (Gh.absorbq (b:=0) (j:=0) (m:=3) rfl rfl rfl (by decide) (by decide) rfl (ekS.flen true _) (ekS.fown _)) (Gh.trans (Gh.absorbq (b:=0) (j:=1) (m:=4) rfl rfl rfl (by decide) (by decide) rfl (B4.flen true _) (B4.fown _)) (Gh.trans (Gh.absorbq (b:=0) (j:=3) (m:=5) rfl rfl rfl (by decide) (by decide) rfl (B3.flen true _) (B3.fown _)) (Gh.rN [0]))))
      ·have h53:=A4 h33 hb;refine RW.cond_t rfl (RW.sf 1 rfl ?_)
       refine RW.gh (Gh.absorb_rawq (b:=5) (j:=3) (m:=6) rfl rfl rfl (by decide) (by decide) rfl (C2.flen true _) (C2.fown _)) ?_
       refine RW.gh (Gh.blk (b:=5) rfl (Fc B3 e12).symm) ?_;refine RW.ret ?_;cases h53
       exact RRetS.m (Gh.trans (Gh.absorbq (b:=0) (j:=0) (m:=3) rfl rfl rfl (by decide) (by decide) rfl (ekS.flen true _) (ekS.fown _)) (Gh.trans (Gh.absorbq (b:=0) (j:=1) (m:=4) rfl rfl rfl (by decide) (by decide) rfl (B4.flen true _) (B4.fown _)) (Gh.trans (Gh.absorbq (b:=0) (j:=3) (m:=5) rfl rfl rfl (by decide) (by decide) rfl (B3.flen true _) (B3.fown _)) (Gh.rN [0]))))
  ·have h54:=A4 h4 hb;refine RW.cond_t rfl (RW.sf 1 rfl ?_)
   refine RW.gh (Gh.absorb_rawq (b:=6) (j:=3) (m:=7) rfl rfl rfl (by decide) (by decide) rfl (C2.flen true _) (C2.fown _)) ?_
   refine RW.gh (Gh.blk (b:=6) rfl (Fc B3 e1).symm) ?_;refine RW.ret ?_;cases h54
   exact RRetS.m (Gh.trans (Gh.absorbq (b:=0) (j:=0) (m:=4) rfl rfl rfl (by decide) (by decide) rfl (ekS.flen true _) (ekS.fown _)) (Gh.trans (Gh.absorbq (b:=0) (j:=1) (m:=5) rfl rfl rfl (by decide) (by decide) rfl (B4.flen true _) (B4.fown _)) (Gh.trans (Gh.absorbq (b:=0) (j:=3) (m:=6) rfl rfl rfl (by decide) (by decide) rfl (B3.flen true _) (B3.fown _)) (Gh.rN [0]))))
theorem Jg {x0:TL01Cur} {B0_ o0_:Nat} {r:TLog×TL01Cur} (hF:X3 x0=some r):C5 Tryz.prog 0 46 [.ptr 0 0] [some ⟨[pvB B0_ o0_ x0.mB,.j x0.mI,.j x0.mH],0⟩] (.agg (B6 1 2 3 r.1)) [some ⟨[pvB B0_ o0_ x0.mB,.j r.2.mI,.j r.2.mH],0⟩,some ⟨fl (encS true) r.1.Disk.Sectors,1⟩,some ⟨fl (A1 true) r.1.Disk.Cache,2⟩,some ⟨fl (A3 true) r.1.Used,4⟩]:=by
 refine C5.p A1b ?_;unfold X3 at hF;refine RW.sf 1 rfl (RW.sr 1 rfl ?_);obtain ⟨v1,e1,h1⟩:=A2 hF;refine rl.call rfl rfl rfl (A7.eN (r0:=.j v1.1) (H':=[some ⟨[pvB B0_ o0_ x0.mB,.j v1.2.mI,.j v1.2.mH],0⟩,some ⟨[.nils,.nils,.j 0,.nils,.j 0,.j 0,.j 0,.j 0],0⟩]) [⟨[pvB B0_ o0_ x0.mB,.j x0.mI,.j x0.mH],0⟩] [⟨[pvB B0_ o0_ x0.mB,.j v1.2.mI,.j v1.2.mH],0⟩] [] [0] [pvB B0_ o0_ x0.mB] (C7 e1) ?_);refine rl.run 1 rfl ?_;obtain ⟨v2,e2,h2⟩:=A2 h1;refine rl.call rfl rfl rfl (A7.z (r':=.tup [.agg (B6 2 3 4 v2.1),.bool v2.2]) (H':=[some ⟨[pvB B0_ o0_ x0.mB,.j v1.2.mI,.j v1.2.mH],0⟩,some ⟨[.nils,.nils,.j 0,.nils,.j 0,.j 0,.j 0,.j 0],0⟩,some ⟨fl (encS true) v2.1.Disk.Sectors,1⟩,some ⟨fl (A1 true) v2.1.Disk.Cache,2⟩,some ⟨fl (A3 true) v2.1.Used,4⟩]) (Pk e2) ?_);refine rl.f 6 rfl (RW.seq (RW.sf 1 rfl ?_));obtain ⟨y9,ey9,h4⟩:=A2 h2
 refine RW.cutq (σ:=Int×Int×Int×Int×Int×Int×Int×(List (List UInt8))×(List TWrite)×(List TSeg)) (fun y4=>[(2,.ptr 1 0),(3,.ptr 2 0)]) (fun y4=>[some ⟨[pvB B0_ o0_ x0.mB,.j y4.1,.j y4.2.1],0⟩,some ⟨[.nils,.nils,.j 0,.nils,.j 0,.j 0,.j 0,.j 0],0⟩,some ⟨[.sl 3 0 y4.2.2.2.2.2.2.2.1.length,.sl 4 0 y4.2.2.2.2.2.2.2.2.1.length,.j y4.2.2.1,.sl 5 0 y4.2.2.2.2.2.2.2.2.2.length,.j y4.2.2.2.1,.j y4.2.2.2.2.1,.j y4.2.2.2.2.2.1,.j y4.2.2.2.2.2.2.1],0⟩,some ⟨fl (encS true) y4.2.2.2.2.2.2.2.1,1⟩,some ⟨fl (A1 true) y4.2.2.2.2.2.2.2.2.1,2⟩,some ⟨fl (A3 true) y4.2.2.2.2.2.2.2.2.2,4⟩]) (fun y=>y9=y) gg ?_ ?_
 ·refine RW.blk ?_
  refine RW.iter (σ:=Int×Int×Int×Int×Int×Int×Int×Int×(List (List UInt8))×(List TWrite)×(List TSeg)) ey9 (fun s3=>[(0,.ptr 0 0),(2,.ptr 1 0),(3,.ptr 2 0),(5,.j s3.1)]) (fun s3=>[some ⟨[pvB B0_ o0_ x0.mB,.j s3.2.1,.j s3.2.2.1],0⟩,some ⟨[.nils,.nils,.j 0,.nils,.j 0,.j 0,.j 0,.j 0],0⟩,some ⟨[.sl 3 0 s3.2.2.2.2.2.2.2.2.1.length,.sl 4 0 s3.2.2.2.2.2.2.2.2.2.1.length,.j s3.2.2.2.1,.sl 5 0 s3.2.2.2.2.2.2.2.2.2.2.length,.j s3.2.2.2.2.1,.j s3.2.2.2.2.2.1,.j s3.2.2.2.2.2.2.1,.j s3.2.2.2.2.2.2.2.1],0⟩,some ⟨fl (encS true) s3.2.2.2.2.2.2.2.2.1,1⟩,some ⟨fl (A1 true) s3.2.2.2.2.2.2.2.2.2.1,2⟩,some ⟨fl (A3 true) s3.2.2.2.2.2.2.2.2.2.2,4⟩]) (Gh.rN [0,1,5,2,3,4]) (fun s3 B o hS3 hB3 hE3=>?_)
  unfold Y1 at hS3;refine RW.seq (RW.sr 2 rfl ?_);obtain ⟨v5,e5,h5⟩:=A2 hS3;refine rl.call rfl rfl rfl (A7.eN (r0:=.j v5.1) (H':=[some ⟨[pvB B0_ o0_ x0.mB,.j v5.2.mI,.j v5.2.mH],0⟩,some ⟨[.nils,.nils,.j 0,.nils,.j 0,.j 0,.j 0,.j 0],0⟩,some ⟨[.sl 3 0 s3.2.2.2.2.2.2.2.2.1.length,.sl 4 0 s3.2.2.2.2.2.2.2.2.2.1.length,.j s3.2.2.2.1,.sl 5 0 s3.2.2.2.2.2.2.2.2.2.2.length,.j s3.2.2.2.2.1,.j s3.2.2.2.2.2.1,.j s3.2.2.2.2.2.2.1,.j s3.2.2.2.2.2.2.2.1],0⟩,some ⟨fl (encS true) s3.2.2.2.2.2.2.2.2.1,1⟩,some ⟨fl (A1 true) s3.2.2.2.2.2.2.2.2.2.1,2⟩,some ⟨fl (A3 true) s3.2.2.2.2.2.2.2.2.2.2,4⟩]) [⟨[pvB B0_ o0_ x0.mB,.j s3.2.1,.j s3.2.2.1],0⟩] [⟨[pvB B0_ o0_ x0.mB,.j v5.2.mI,.j v5.2.mH],0⟩] [] [0] [pvB B0_ o0_ x0.mB] (C7 e5) ?_)
  refine rl.gen rfl rfl fun b hb=>?_
  cases b
  ·have h6:=A5 h5 hb;refine rl.done (RW.cond_f rfl (RW.exit (C9 ?_)));cases h6
   exact ⟨_,(hE3 _ rfl).symm,(Gh.rN [0,1,2,3,4,5])⟩
  ·have h7:=A4 h5 hb;refine rl.done (RW.cond_t rfl (RW.skip (RW.seq (RW.blk ?_))));refine RW.sdrwF [⟨[.j 0,.j 0,.j 0,.j 0,.j 0,.j 0,.str [],.str [],.str []],0⟩] ?_;refine A0.op rfl rfl (A0.op rfl rfl (A0.op rfl rfl ?_));obtain ⟨v6,e6,h8⟩:=A2 h7;refine A0.ccallB rfl rfl rfl (A7.eN (r0:=.agg (D0 false v6.1)) (H':=[some ⟨[pvB B0_ o0_ x0.mB,.j v6.2.mI,.j v6.2.mH],0⟩,some ⟨[.nils,.nils,.j 0,.nils,.j 0,.j 0,.j 0,.j 0],0⟩,some ⟨[.sl 3 0 s3.2.2.2.2.2.2.2.2.1.length,.sl 4 0 s3.2.2.2.2.2.2.2.2.2.1.length,.j s3.2.2.2.1,.sl 5 0 s3.2.2.2.2.2.2.2.2.2.2.length,.j s3.2.2.2.2.1,.j s3.2.2.2.2.2.1,.j s3.2.2.2.2.2.2.1,.j s3.2.2.2.2.2.2.2.1],0⟩,some ⟨fl (encS true) s3.2.2.2.2.2.2.2.2.1,1⟩,some ⟨fl (A1 true) s3.2.2.2.2.2.2.2.2.2.1,2⟩,some ⟨fl (A3 true) s3.2.2.2.2.2.2.2.2.2.2,4⟩,some ⟨[.j 0,.j 0,.j 0,.j 0,.j 0,.j 0,.str [],.str [],.str []],0⟩]) [⟨[pvB B0_ o0_ x0.mB,.j v5.2.mI,.j v5.2.mH],0⟩] [⟨[pvB B0_ o0_ x0.mB,.j v6.2.mI,.j v6.2.mH],0⟩] [] [0] [pvB B0_ o0_ x0.mB] (Ji e6) ⟨(.skip rfl (.here (.rx rfl) (.here (.rx rfl) .nil))),?_⟩);refine A0.op rfl rfl ?_;refine A0.flt rfl (.cons rfl .nil) ?_;refine A0.chn rfl rfl ?_;refine A0.done (RW.sr 2 rfl ?_);obtain ⟨v7,e7,h9⟩:=A2 h8;refine rl.call rfl rfl rfl (A7.y (r':=.bool v7) (Jl e7) ?_)
   cases hb:v7
   ·have h10:=A5 h9 hb;refine rl.done ?_;refine RW.kp [0,2,3,5,6,27] [(0,.ptr 0 0),(2,.ptr 1 0),(3,.ptr 2 0),(5,.j s3.1),(6,.ptr 6 0),(27,.bool false)] [some ⟨[pvB B0_ o0_ x0.mB,.j v6.2.mI,.j v6.2.mH],0⟩,some ⟨[.nils,.nils,.j 0,.nils,.j 0,.j 0,.j 0,.j 0],0⟩,some ⟨[.sl 3 0 s3.2.2.2.2.2.2.2.2.1.length,.sl 4 0 s3.2.2.2.2.2.2.2.2.2.1.length,.j s3.2.2.2.1,.sl 5 0 s3.2.2.2.2.2.2.2.2.2.2.length,.j s3.2.2.2.2.1,.j s3.2.2.2.2.2.1,.j s3.2.2.2.2.2.2.1,.j s3.2.2.2.2.2.2.2.1],0⟩,some ⟨fl (encS true) s3.2.2.2.2.2.2.2.2.1,1⟩,some ⟨fl (A1 true) s3.2.2.2.2.2.2.2.2.2.1,2⟩,some ⟨fl (A3 true) s3.2.2.2.2.2.2.2.2.2.2,4⟩,some ⟨[.j s3.2.2.2.2.2.1,.j v6.1.Kind,.j v6.1.Valid,.j v6.1.Uid,.j v6.1.Next,.j v6.1.Flags,.str v6.1.User,.str v6.1.Name,.str v6.1.Text],0⟩] rfl rfl ?_;refine RW.cond_f rfl (RW.skip (RW.reg (rl.f 3 rfl ?_)));cases h10
    exact hB3 _ rfl _ _ (Gh.rN [0,1,2,3,4,5])
   ·have h11:=A4 h9 hb;refine rl.done ?_;refine RW.kp [0,2,3,5,6,27] [(0,.ptr 0 0),(2,.ptr 1 0),(3,.ptr 2 0),(5,.j s3.1),(6,.ptr 6 0),(27,.bool true)] [some ⟨[pvB B0_ o0_ x0.mB,.j v6.2.mI,.j v6.2.mH],0⟩,some ⟨[.nils,.nils,.j 0,.nils,.j 0,.j 0,.j 0,.j 0],0⟩,some ⟨[.sl 3 0 s3.2.2.2.2.2.2.2.2.1.length,.sl 4 0 s3.2.2.2.2.2.2.2.2.2.1.length,.j s3.2.2.2.1,.sl 5 0 s3.2.2.2.2.2.2.2.2.2.2.length,.j s3.2.2.2.2.1,.j s3.2.2.2.2.2.1,.j s3.2.2.2.2.2.2.1,.j s3.2.2.2.2.2.2.2.1],0⟩,some ⟨fl (encS true) s3.2.2.2.2.2.2.2.2.1,1⟩,some ⟨fl (A1 true) s3.2.2.2.2.2.2.2.2.2.1,2⟩,some ⟨fl (A3 true) s3.2.2.2.2.2.2.2.2.2.2,4⟩,some ⟨[.j s3.2.2.2.2.2.1,.j v6.1.Kind,.j v6.1.Valid,.j v6.1.Uid,.j v6.1.Next,.j v6.1.Flags,.str v6.1.User,.str v6.1.Name,.str v6.1.Text],0⟩] rfl rfl ?_;refine RW.cond_t rfl ?_
    refine RW.gh (Gh.absorbq (b:=2) (j:=0) (m:=3) rfl rfl rfl (by decide) (by decide) rfl (ekS.flen true _) (ekS.fown _)) ?_
    refine RW.gh (Gh.absorbq (b:=2) (j:=1) (m:=4) rfl rfl rfl (by decide) (by decide) rfl (B4.flen true _) (B4.fown _)) ?_
    refine RW.gh (Gh.absorbq (b:=2) (j:=3) (m:=5) rfl rfl rfl (by decide) (by decide) rfl (B3.flen true _) (B3.fown _)) ?_
    refine RW.reg (rl.run 1 rfl ?_);obtain ⟨v8,e8,h12⟩:=A2 h11;refine rl.call rfl rfl rfl (A7.eW (r0:=.bool v8.1) (H':=[some ⟨[pvB B0_ o0_ x0.mB,.j v6.2.mI,.j v6.2.mH],0⟩,some ⟨[.nils,.nils,.j 0,.nils,.j 0,.j 0,.j 0,.j 0],0⟩,some ⟨A9 true v8.2,0⟩,none,none,none,some ⟨[.j s3.2.2.2.2.2.1,.j v6.1.Kind,.j v6.1.Valid,.j v6.1.Uid,.j v6.1.Next,.j v6.1.Flags,.str v6.1.User,.str v6.1.Name,.str v6.1.Text],0⟩]) [⟨[.lst true 1 (fl (encS true) s3.2.2.2.2.2.2.2.2.1) s3.2.2.2.2.2.2.2.2.1.length,.lst true 2 (fl (A1 true) s3.2.2.2.2.2.2.2.2.2.1) s3.2.2.2.2.2.2.2.2.2.1.length,.j s3.2.2.2.1,.lst true 4 (fl (A3 true) s3.2.2.2.2.2.2.2.2.2.2) s3.2.2.2.2.2.2.2.2.2.2.length,.j s3.2.2.2.2.1,.j s3.2.2.2.2.2.1,.j s3.2.2.2.2.2.2.1,.j s3.2.2.2.2.2.2.2.1],0⟩] [⟨A9 true v8.2,0⟩] [2] (Fk e8) ?_);refine rl.done ?_
    refine RW.gh (Gh.expose (b:=2) (j:=0) rfl rfl (by decide) (ekS.fown _)) ?_
    refine RW.gh (Gh.expose (b:=2) (j:=1) rfl rfl (by decide) (B4.fown _)) ?_
    refine RW.gh (Gh.expose (b:=2) (j:=3) rfl rfl (by decide) (B3.fown _)) ?_
    refine RW.reg (rl.f 3 rfl ?_);cases h12
    exact hB3 _ rfl _ _ (Gh.rN [0,1,2,7,8,9])
 ·intro y4 hC
  subst hC;refine RW.sf 2 rfl (RW.ret ?_);cases h4
  exact RRetM.m [0,3,4,5] Gh.refl
theorem L0 {x0:TLog} {r:TLog} (hF:G6 x0=some r):B2 Tryz.prog 85 [.agg (A9 false x0)] (.agg (A9 true r)):=by
 refine B2.q A0i ?_;unfold G6 at hF;refine RW.sf 2 rfl (RW.sf 3 rfl (RW.sr 2 rfl ?_));obtain ⟨v1,e1,h1⟩:=A2 hF;refine rl.call rfl rfl rfl (A7.z (r':=.agg (C3 3 4 v1)) (H':=[some ⟨A9 false x0,0⟩,some ⟨[.nils,.nils,.j 0,.nils,.j 0,.j 0,.j 0,.j 0],0⟩,some ⟨A9 false x0,0⟩,some ⟨fl (encS true) v1.Sectors,1⟩,some ⟨fl (A1 true) v1.Cache,2⟩]) (J0 e1) ?_);refine rl.f 2 rfl (RW.sf 3 rfl (RW.seq (RW.sf 1 rfl ?_)));refine RW.gh (Gh.nil_c 2 3 4 rfl rfl) ?_;obtain ⟨y7,ey7,h3⟩:=A2 h1
 refine RW.cutq (σ:=(List TSeg)) (fun y3=>[(2,.ptr 0 0),(3,.ptr 1 0)]) (fun y3=>[some ⟨[.nils,.nils,.j 0,.nils,.j 0,.j 0,.j 0,.j 0],0⟩,some ⟨[.sl 2 0 v1.Sectors.length,.sl 3 0 v1.Cache.length,.j x0.Segs,.sl 4 0 y3.length,.j x0.NextGen,.j x0.NextSeq,.j x0.Stamp,.j x0.NextValid],0⟩,some ⟨fl (encS true) v1.Sectors,1⟩,some ⟨fl (A1 true) v1.Cache,2⟩,some ⟨fl (A3 true) y3,4⟩]) (fun y=>y7=y) gg ?_ ?_
 ·refine RW.blk ?_
  refine RW.iter (σ:=Int×(List TSeg)) ey7 (fun s2=>[(1,.ptr 0 0),(2,.ptr 1 0),(3,.ptr 2 0),(4,.j s2.1)]) (fun s2=>[some ⟨A9 false x0,0⟩,some ⟨[.nils,.nils,.j 0,.nils,.j 0,.j 0,.j 0,.j 0],0⟩,some ⟨[.sl 3 0 v1.Sectors.length,.sl 4 0 v1.Cache.length,.j x0.Segs,.sl 5 0 s2.2.length,.j x0.NextGen,.j x0.NextSeq,.j x0.Stamp,.j x0.NextValid],0⟩,some ⟨fl (encS true) v1.Sectors,1⟩,some ⟨fl (A1 true) v1.Cache,2⟩,some ⟨fl (A3 true) s2.2,4⟩]) (Gh.y0 [0,1,2,3,4,5]) (fun s2 B o hS2 hB2 hE2=>?_)
  unfold U6 at hS2;refine RW.seq (RW.sr 4 rfl ?_)
  refine rl.gen rfl rfl fun b hb=>?_
  cases b
  ·have h4:=A5 hS2 hb;refine rl.done (RW.cond_f rfl (RW.exit (C9 ?_)));cases h4
   exact ⟨_,(hE2 _ rfl).symm,(Gh.y0 [1,2,3,4,5])⟩
  ·have h5:=A4 hS2 hb;refine rl.done (RW.cond_t rfl (RW.skip (RW.seq (RW.blk (RW.sr 3 rfl ?_)))));obtain ⟨v4,e4,h6⟩:=A2 h5;refine rl.op (C1 (enc:=A3) (o:=false) rfl rfl rfl e4) ?_;refine rl.op (H6 (off':=0) (vs:=(A3 false v4)) B3 rfl e4 rfl rfl rfl) ?_;refine rl.f 2 rfl (RW.sr 3 rfl ?_);obtain ⟨v5,e5,h7⟩:=A2 h6;refine rl.op (U2 rfl rfl (Hp (m:=v4.Items) (o:=true) C2 Bq rfl (M9.fst _ _) e5)) ?_;refine rl.f 2 rfl ?_;refine RW.kp [1,2,3,4,5] [(1,.ptr 0 0),(2,.ptr 1 0),(3,.ptr 2 0),(4,.j s2.1),(5,.ptr 6 0)] [some ⟨A9 false x0,0⟩,some ⟨[.nils,.nils,.j 0,.nils,.j 0,.j 0,.j 0,.j 0],0⟩,some ⟨[.sl 3 0 v1.Sectors.length,.sl 4 0 v1.Cache.length,.j x0.Segs,.sl 5 0 s2.2.length,.j x0.NextGen,.j x0.NextSeq,.j x0.Stamp,.j x0.NextValid],0⟩,some ⟨fl (encS true) v1.Sectors,1⟩,some ⟨fl (A1 true) v1.Cache,2⟩,some ⟨fl (A3 true) s2.2,4⟩,some ⟨[.j v4.No,.j v4.Gen,.j v4.End,.sl 7 0 v5.length],0⟩,some ⟨fl (A8 true) v5,9⟩] rfl rfl ?_;refine RW.reg (rl.run 4 rfl ?_);obtain ⟨v6,e6,h8⟩:=A2 h7;refine rl.op (U2 rfl rfl (Lw B3 rfl rfl (Uh rfl rfl rfl) e6)) ?_;refine rl.f 2 rfl ?_
   refine RW.gh (Gh.absorb_rawq (b:=9) (j:=3) (m:=7) rfl rfl rfl (by decide) (by decide) rfl (C2.flen true _) (C2.fown _)) ?_
   refine RW.gh (Gh.blk (b:=9) rfl (Rz (enc:=A3) e6 rfl)) ?_;refine RW.reg (rl.f 3 rfl ?_);cases h8
   exact hB2 _ rfl _ _ (Gh.y0 [0,1,2,3,4,9])
 ·intro y3 hC
  subst hC;refine RW.sf 2 rfl (RW.ret ?_);cases h3
  exact RRet.y
theorem Jf {x0:TL01Cur} {B0_ o0_:Nat} {r:TLog×TL01Cur×List TSeg×Int×Int} (hF:W5 x0=some r):C5 Tryz.prog 0 79 [.ptr 0 0] [some ⟨[pvB B0_ o0_ x0.mB,.j x0.mI,.j x0.mH],0⟩] (.agg [.sl 1 0 r.1.Disk.Sectors.length,.sl 2 0 r.1.Disk.Cache.length,.j r.1.Segs,.sl 3 ((r.2.2.2.1:Int).toNat*4) r.1.Used.length,.j r.1.NextGen,.j r.1.NextSeq,.j r.1.Stamp,.j r.1.NextValid]) [some ⟨[pvB B0_ o0_ x0.mB,.j r.2.1.mI,.j r.2.1.mH],0⟩,some ⟨fl (encS true) r.1.Disk.Sectors,1⟩,some ⟨fl (A1 true) r.1.Disk.Cache,2⟩,some ⟨fl (A3 true) r.2.2.1,4⟩]:=by
 refine C5.p A0v ?_;unfold W5 at hF;refine RW.sf 1 rfl (RW.sr 1 rfl ?_);obtain ⟨v1,e1,h1⟩:=A2 hF;refine rl.call rfl rfl rfl (A7.eN (r0:=.j v1.1) (H':=[some ⟨[pvB B0_ o0_ x0.mB,.j v1.2.mI,.j v1.2.mH],0⟩,some ⟨[.nils,.nils,.j 0,.nils,.j 0,.j 0,.j 0,.j 0],0⟩]) [⟨[pvB B0_ o0_ x0.mB,.j x0.mI,.j x0.mH],0⟩] [⟨[pvB B0_ o0_ x0.mB,.j v1.2.mI,.j v1.2.mH],0⟩] [] [0] [pvB B0_ o0_ x0.mB] (C7 e1) ?_);refine rl.f 1 rfl (RW.sr 1 rfl ?_);obtain ⟨v2,e2,h2⟩:=A2 h1;refine rl.call rfl rfl rfl (A7.eN (r0:=.j v2.1) (H':=[some ⟨[pvB B0_ o0_ x0.mB,.j v2.2.mI,.j v2.2.mH],0⟩,some ⟨[.nils,.nils,.j 0,.nils,.j 0,.j 0,.j 0,.j 0],0⟩]) [⟨[pvB B0_ o0_ x0.mB,.j v1.2.mI,.j v1.2.mH],0⟩] [⟨[pvB B0_ o0_ x0.mB,.j v2.2.mI,.j v2.2.mH],0⟩] [] [0] [pvB B0_ o0_ x0.mB] (C7 e2) ?_);refine rl.f 1 rfl (RW.sr 1 rfl ?_);obtain ⟨v3,e3,h3⟩:=A2 h2;refine rl.call rfl rfl rfl (A7.eN (r0:=.agg (B6 2 3 4 v3.1)) (H':=[some ⟨[pvB B0_ o0_ x0.mB,.j v3.2.mI,.j v3.2.mH],0⟩,some ⟨[.nils,.nils,.j 0,.nils,.j 0,.j 0,.j 0,.j 0],0⟩,some ⟨fl (encS true) v3.1.Disk.Sectors,1⟩,some ⟨fl (A1 true) v3.1.Disk.Cache,2⟩,some ⟨fl (A3 true) v3.1.Used,4⟩]) [⟨[pvB B0_ o0_ x0.mB,.j v2.2.mI,.j v2.2.mH],0⟩] [⟨[pvB B0_ o0_ x0.mB,.j v3.2.mI,.j v3.2.mH],0⟩] [⟨fl (encS true) v3.1.Disk.Sectors,1⟩,⟨fl (A1 true) v3.1.Disk.Cache,2⟩,⟨fl (A3 true) v3.1.Used,4⟩] [0] [pvB B0_ o0_ x0.mB] (Jg e3) ?_);obtain ⟨v4,e4,h4⟩:=A2 h3;refine rl.call rfl rfl rfl (A7.z (r':=.agg (B6 5 6 7 v4)) (H':=[some ⟨[pvB B0_ o0_ x0.mB,.j v3.2.mI,.j v3.2.mH],0⟩,some ⟨[.nils,.nils,.j 0,.nils,.j 0,.j 0,.j 0,.j 0],0⟩,some ⟨fl (encS true) v3.1.Disk.Sectors,1⟩,some ⟨fl (A1 true) v3.1.Disk.Cache,2⟩,some ⟨fl (A3 true) v3.1.Used,4⟩,some ⟨fl (encS true) v4.Disk.Sectors,1⟩,some ⟨fl (A1 true) v4.Disk.Cache,2⟩,some ⟨fl (A3 true) v4.Used,4⟩]) (L0 e4) ?_);refine rl.f 2 rfl (RW.sr 4 rfl ?_);obtain ⟨v5,e5,h5⟩:=A2 h4;refine rl.op (A8m rfl rfl e5) ?_;refine rl.f 1 rfl ?_;refine RW.kp [2,3,4,5,6] [(2,.ptr 1 0),(3,.j v1.1),(4,.j v2.1),(5,.ptr 8 0),(6,.j v5)] [some ⟨[pvB B0_ o0_ x0.mB,.j v3.2.mI,.j v3.2.mH],0⟩,some ⟨[.nils,.nils,.j 0,.nils,.j 0,.j 0,.j 0,.j 0],0⟩,some ⟨fl (encS true) v3.1.Disk.Sectors,1⟩,some ⟨fl (A1 true) v3.1.Disk.Cache,2⟩,some ⟨fl (A3 true) v3.1.Used,4⟩,some ⟨fl (encS true) v4.Disk.Sectors,1⟩,some ⟨fl (A1 true) v4.Disk.Cache,2⟩,some ⟨fl (A3 true) v4.Used,4⟩,some ⟨B6 5 6 7 v4,0⟩] rfl rfl ?_
 refine RW.seq (RW.sf 1 rfl (RW.blk (RW.sreg ?_)))
 refine rl.gen rfl rfl fun b hb=>?_
 cases b
 ·have h6:=A5 h5 hb;refine rl.f 1 rfl (RW.cond_f rfl (RW.sreg ?_))
  refine rl.gen rfl rfl fun b hb=>?_
  cases b
  ·have h7:=A5 h6 hb;refine rl.f 1 rfl (RW.cond_f rfl (RW.sreg ?_))
   refine rl.gen rfl rfl fun b hb=>?_
   cases b
   ·have h8:=A5 h7 hb;refine rl.f 1 rfl (RW.cond_f rfl (RW.sreg ?_))
    refine rl.gen rfl rfl fun b hb=>?_
    cases b
    ·have h9:=A5 h8 hb;refine rl.f 1 rfl (RW.cond_f rfl (RW.sreg ?_))
     refine rl.gen rfl rfl fun b hb=>?_
     cases b
     ·have h10:=A5 h9 hb;refine rl.f 1 rfl ?_;refine RW.kp [2,4,5,19,50] [(2,.ptr 1 0),(4,.j v2.1),(5,.ptr 8 0),(19,.j v1.1),(50,.bool false)] [some ⟨[pvB B0_ o0_ x0.mB,.j v3.2.mI,.j v3.2.mH],0⟩,some ⟨[.nils,.nils,.j 0,.nils,.j 0,.j 0,.j 0,.j 0],0⟩,some ⟨fl (encS true) v3.1.Disk.Sectors,1⟩,some ⟨fl (A1 true) v3.1.Disk.Cache,2⟩,some ⟨fl (A3 true) v3.1.Used,4⟩,some ⟨fl (encS true) v4.Disk.Sectors,1⟩,some ⟨fl (A1 true) v4.Disk.Cache,2⟩,some ⟨fl (A3 true) v4.Used,4⟩,some ⟨B6 5 6 7 v4,0⟩] rfl rfl ?_;refine RW.cond_f rfl (RW.sreg ?_)
      refine rl.gen rfl rfl fun b hb=>?_
      cases b
      ·have h11:=A5 h10 hb;refine rl.f 1 rfl (RW.cond_f rfl (RW.sreg ?_))
       refine rl.gen rfl rfl fun b hb=>?_
       cases b
       ·have h12:=A5 h11 hb;refine rl.f 1 rfl (RW.cond_f rfl (RW.sreg ?_))
        refine rl.gen rfl rfl fun b hb=>?_
        cases b
        ·have h13:=A5 h12 hb;refine rl.f 1 rfl (RW.cond_f rfl (RW.skip (RW.sf 2 rfl ?_)));refine RW.kp [2] [(2,.ptr 1 0)] [some ⟨[pvB B0_ o0_ x0.mB,.j v3.2.mI,.j v3.2.mH],0⟩,some ⟨B6 5 6 7 v4,0⟩,some ⟨fl (encS true) v3.1.Disk.Sectors,1⟩,some ⟨fl (A1 true) v3.1.Disk.Cache,2⟩,some ⟨fl (A3 true) v3.1.Used,4⟩,some ⟨fl (encS true) v4.Disk.Sectors,1⟩,some ⟨fl (A1 true) v4.Disk.Cache,2⟩,some ⟨fl (A3 true) v4.Used,4⟩,some ⟨B6 5 6 7 v4,0⟩] rfl rfl ?_;refine RW.ret ?_;cases h13
         exact RRetM.m [0,5,6,7] Gh.refl
        ·have h14:=A4 h12 hb;refine rl.f 1 rfl (RW.cond_t rfl (RW.reg (rl.run 3 rfl ?_)));obtain ⟨v6,e6,h15⟩:=A2 h14;refine rl.op (P9 rfl rfl rfl rfl e6) ?_;refine rl.op (Gw (o:=true) (off':=0) ekI rfl rfl e6 rfl rfl rfl) ?_;refine rl.f 2 rfl (RW.sf 2 rfl ?_);refine RW.kp [2] [(2,.ptr 1 0)] [some ⟨[pvB B0_ o0_ x0.mB,.j v3.2.mI,.j v3.2.mH],0⟩,some ⟨[.sl 5 0 v4.Disk.Sectors.length,.sl 6 0 v4.Disk.Cache.length,.j v4.Segs,.sl 7 0 v4.Used.length,.j v6,.j v4.NextSeq,.j v4.Stamp,.j v4.NextValid],0⟩,some ⟨fl (encS true) v3.1.Disk.Sectors,1⟩,some ⟨fl (A1 true) v3.1.Disk.Cache,2⟩,some ⟨fl (A3 true) v3.1.Used,4⟩,some ⟨fl (encS true) v4.Disk.Sectors,1⟩,some ⟨fl (A1 true) v4.Disk.Cache,2⟩,some ⟨fl (A3 true) v4.Used,4⟩,some ⟨[.sl 5 0 v4.Disk.Sectors.length,.sl 6 0 v4.Disk.Cache.length,.j v4.Segs,.sl 7 0 v4.Used.length,.j v6,.j v4.NextSeq,.j v4.Stamp,.j v4.NextValid],0⟩,some ⟨fl (encI true) ([0,1,1000000000]:List Int),1⟩] rfl rfl ?_;refine RW.ret ?_;cases h15
         exact RRetM.m [0,5,6,7] Gh.refl
       ·have h16:=A4 h11 hb;refine rl.f 1 rfl (RW.cond_t rfl (RW.reg (rl.f 4 rfl (RW.sf 2 rfl ?_))));refine RW.kp [2] [(2,.ptr 1 0)] [some ⟨[pvB B0_ o0_ x0.mB,.j v3.2.mI,.j v3.2.mH],0⟩,some ⟨[.sl 5 0 v4.Disk.Sectors.length,.sl 6 0 v4.Disk.Cache.length,.j v4.Segs,.sl 7 0 v4.Used.length,.j v4.NextGen,.j v4.NextSeq,.j v4.Stamp,.j (Int.tmod v2.1 4)],0⟩,some ⟨fl (encS true) v3.1.Disk.Sectors,1⟩,some ⟨fl (A1 true) v3.1.Disk.Cache,2⟩,some ⟨fl (A3 true) v3.1.Used,4⟩,some ⟨fl (encS true) v4.Disk.Sectors,1⟩,some ⟨fl (A1 true) v4.Disk.Cache,2⟩,some ⟨fl (A3 true) v4.Used,4⟩,some ⟨[.sl 5 0 v4.Disk.Sectors.length,.sl 6 0 v4.Disk.Cache.length,.j v4.Segs,.sl 7 0 v4.Used.length,.j v4.NextGen,.j v4.NextSeq,.j v4.Stamp,.j (Int.tmod v2.1 4)],0⟩] rfl rfl ?_;refine RW.ret ?_;cases h16
        exact RRetM.m [0,5,6,7] Gh.refl
      ·have h17:=A4 h10 hb;refine rl.f 1 rfl (RW.cond_t rfl (RW.drw (A0.op rfl rfl (A0.op rfl rfl (A0.op rfl rfl (A0.op rfl rfl (A0.op rfl rfl (A0.op rfl rfl ?_))))))));obtain ⟨v7,e7,h18⟩:=A2 h17;refine A0.call rfl rfl rfl (A7.y (r':=.str v7) (Ft e7) ⟨rfl,?_⟩);obtain ⟨v8,e8,h19⟩:=A2 h18;refine A0.ccall rfl rfl rfl (A7.z (r':=.tup [.agg (C3 9 10 v8.1),.bool v8.2]) (H':=[some ⟨[pvB B0_ o0_ x0.mB,.j v3.2.mI,.j v3.2.mH],0⟩,some ⟨[.nils,.nils,.j 0,.nils,.j 0,.j 0,.j 0,.j 0],0⟩,some ⟨fl (encS true) v3.1.Disk.Sectors,1⟩,some ⟨fl (A1 true) v3.1.Disk.Cache,2⟩,some ⟨fl (A3 true) v3.1.Used,4⟩,some ⟨fl (encS true) v4.Disk.Sectors,1⟩,some ⟨fl (A1 true) v4.Disk.Cache,2⟩,some ⟨fl (A3 true) v4.Used,4⟩,some ⟨B6 5 6 7 v4,0⟩,some ⟨fl (encS true) v8.1.Sectors,1⟩,some ⟨fl (A1 true) v8.1.Cache,2⟩]) (Cy e8) ?_);refine A0.op rfl rfl (A0.op rfl rfl (A0.op rfl rfl (A0.op rfl rfl ?_)));refine A0.chnB rfl rfl (.skip rfl (.here (.rx rfl) (.skip rfl (.skip rfl (.skip rfl (.skip rfl (.skip rfl (.skip rfl (.skip rfl (.skip rfl (.skip rfl .nil))))))))))) ?_;refine A0.done (RW.sf 2 rfl ?_);refine RW.kp [2] [(2,.ptr 1 0)] [some ⟨[pvB B0_ o0_ x0.mB,.j v3.2.mI,.j v3.2.mH],0⟩,some ⟨[.sl 9 0 v8.1.Sectors.length,.sl 10 0 v8.1.Cache.length,.j v4.Segs,.sl 7 0 v4.Used.length,.j v4.NextGen,.j v4.NextSeq,.j v4.Stamp,.j v4.NextValid],0⟩,some ⟨fl (encS true) v3.1.Disk.Sectors,1⟩,some ⟨fl (A1 true) v3.1.Disk.Cache,2⟩,some ⟨fl (A3 true) v3.1.Used,4⟩,some ⟨fl (encS true) v4.Disk.Sectors,1⟩,some ⟨fl (A1 true) v4.Disk.Cache,2⟩,some ⟨fl (A3 true) v4.Used,4⟩,some ⟨[.sl 9 0 v8.1.Sectors.length,.sl 10 0 v8.1.Cache.length,.j v4.Segs,.sl 7 0 v4.Used.length,.j v4.NextGen,.j v4.NextSeq,.j v4.Stamp,.j v4.NextValid],0⟩,some ⟨fl (encS true) v8.1.Sectors,1⟩,some ⟨fl (A1 true) v8.1.Cache,2⟩] rfl rfl ?_;refine RW.ret ?_;cases h19
       exact RRetM.m [0,9,10,7] Gh.refl
     ·have h20:=A4 h9 hb;refine rl.f 1 rfl ?_;refine RW.kp [2,4,5,19,50] [(2,.ptr 1 0),(4,.j v2.1),(5,.ptr 8 0),(19,.j v1.1),(50,.bool true)] [some ⟨[pvB B0_ o0_ x0.mB,.j v3.2.mI,.j v3.2.mH],0⟩,some ⟨[.nils,.nils,.j 0,.nils,.j 0,.j 0,.j 0,.j 0],0⟩,some ⟨fl (encS true) v3.1.Disk.Sectors,1⟩,some ⟨fl (A1 true) v3.1.Disk.Cache,2⟩,some ⟨fl (A3 true) v3.1.Used,4⟩,some ⟨fl (encS true) v4.Disk.Sectors,1⟩,some ⟨fl (A1 true) v4.Disk.Cache,2⟩,some ⟨fl (A3 true) v4.Used,4⟩,some ⟨B6 5 6 7 v4,0⟩] rfl rfl ?_;refine RW.cond_t rfl (RW.reg (rl.run 2 rfl ?_));obtain ⟨v9,e9,h21⟩:=A2 h20;refine rl.op (A4s (i:=1) rfl rfl rfl rfl rfl Kn e9) ?_;refine rl.f 2 rfl (RW.sf 2 rfl (RW.ret ?_));cases h21
      exact RRetM.m [0,5,6,7] Gh.refl
    ·have h22:=A4 h8 hb;refine rl.f 1 rfl (RW.cond_t rfl (RW.reg (rl.f 4 rfl (RW.sf 2 rfl ?_))));refine RW.kp [2] [(2,.ptr 1 0)] [some ⟨[pvB B0_ o0_ x0.mB,.j v3.2.mI,.j v3.2.mH],0⟩,some ⟨[.sl 5 0 v4.Disk.Sectors.length,.sl 6 0 v4.Disk.Cache.length,.j (Int.tmod v2.1 12),.sl 7 0 v4.Used.length,.j v4.NextGen,.j v4.NextSeq,.j v4.Stamp,.j v4.NextValid],0⟩,some ⟨fl (encS true) v3.1.Disk.Sectors,1⟩,some ⟨fl (A1 true) v3.1.Disk.Cache,2⟩,some ⟨fl (A3 true) v3.1.Used,4⟩,some ⟨fl (encS true) v4.Disk.Sectors,1⟩,some ⟨fl (A1 true) v4.Disk.Cache,2⟩,some ⟨fl (A3 true) v4.Used,4⟩,some ⟨[.sl 5 0 v4.Disk.Sectors.length,.sl 6 0 v4.Disk.Cache.length,.j (Int.tmod v2.1 12),.sl 7 0 v4.Used.length,.j v4.NextGen,.j v4.NextSeq,.j v4.Stamp,.j v4.NextValid],0⟩] rfl rfl ?_;refine RW.ret ?_;cases h22
     exact RRetM.m [0,5,6,7] Gh.refl
   ·have h23:=A4 h7 hb;refine rl.f 1 rfl (RW.cond_t rfl (RW.reg (rl.run 3 rfl ?_)));obtain ⟨v10,e10,h24⟩:=A2 h23;refine rl.op (P9 rfl rfl rfl rfl e10) ?_;refine rl.op (Gw (o:=true) (off':=0) ekI rfl rfl e10 rfl rfl rfl) ?_;refine rl.f 2 rfl (RW.sf 2 rfl ?_);refine RW.kp [2] [(2,.ptr 1 0)] [some ⟨[pvB B0_ o0_ x0.mB,.j v3.2.mI,.j v3.2.mH],0⟩,some ⟨[.sl 5 0 v4.Disk.Sectors.length,.sl 6 0 v4.Disk.Cache.length,.j v4.Segs,.sl 7 0 v4.Used.length,.j v4.NextGen,.j v10,.j v4.Stamp,.j v4.NextValid],0⟩,some ⟨fl (encS true) v3.1.Disk.Sectors,1⟩,some ⟨fl (A1 true) v3.1.Disk.Cache,2⟩,some ⟨fl (A3 true) v3.1.Used,4⟩,some ⟨fl (encS true) v4.Disk.Sectors,1⟩,some ⟨fl (A1 true) v4.Disk.Cache,2⟩,some ⟨fl (A3 true) v4.Used,4⟩,some ⟨[.sl 5 0 v4.Disk.Sectors.length,.sl 6 0 v4.Disk.Cache.length,.j v4.Segs,.sl 7 0 v4.Used.length,.j v4.NextGen,.j v10,.j v4.Stamp,.j v4.NextValid],0⟩,some ⟨fl (encI true) ([0,1,1000000000]:List Int),1⟩] rfl rfl ?_;refine RW.ret ?_;cases h24
    exact RRetM.m [0,5,6,7] Gh.refl
  ·have h25:=A4 h6 hb;refine rl.f 1 rfl (RW.cond_t rfl (RW.reg (rl.run 5 rfl ?_)));obtain ⟨v11,e11,h26⟩:=A2 h25;refine rl.op (P9 rfl rfl rfl rfl e11) ?_;refine rl.run 1 rfl ?_;obtain ⟨v12,e12,h27⟩:=A2 h26;refine rl.op0 (Mi (off':=1) (o:=true) (e':=({ No:=v11.No,Gen:=Int.tmod v2.1 5,End:=v11.End,Items:=v11.Items }:TSeg)) B3 e11 rfl rfl rfl rfl rfl rfl rfl rfl rfl e12) ?_;refine rl.done (RW.sf 2 rfl ?_);refine RW.kp [2] [(2,.ptr 1 0)] [some ⟨[pvB B0_ o0_ x0.mB,.j v3.2.mI,.j v3.2.mH],0⟩,some ⟨B6 5 6 7 v4,0⟩,some ⟨fl (encS true) v3.1.Disk.Sectors,1⟩,some ⟨fl (A1 true) v3.1.Disk.Cache,2⟩,some ⟨fl (A3 true) v3.1.Used,4⟩,some ⟨fl (encS true) v4.Disk.Sectors,1⟩,some ⟨fl (A1 true) v4.Disk.Cache,2⟩,some ⟨fl (A3 true) v12,4⟩,some ⟨B6 5 6 7 v4,0⟩] rfl rfl ?_;refine RW.ret ?_;cases h27
   exact RRetM.mk [0,5,6,7] Gh.refl rfl (.c rfl rfl (.keep (.pv ekB.rlst) (.i (.i .nil))) (.same rfl (ekS.fref _ _) (.same rfl (B4.fref _ _) (.same rfl (B3.fref _ _) .nil)))) rfl rfl rfl (RnL.agg (.cons (.slq rfl rfl) (.cons (.slq rfl rfl) (.cons (.dat .int) (.cons (.slq rfl (W2 e12)) (.cons (.dat .int) (.cons (.dat .int) (.cons (.dat .int) (.cons (.dat .int) .nil)))))))))
 ·have h28:=A4 h5 hb;refine rl.f 1 rfl (RW.cond_t rfl (RW.reg (rl.run 4 rfl ?_)));obtain ⟨v13,e13,h29⟩:=A2 h28;refine rl.op (P9 rfl rfl rfl rfl e13) ?_;refine rl.run 1 rfl ?_;obtain ⟨v14,e14,h30⟩:=A2 h29;refine rl.op0 (Mi (off':=2) (o:=true) (e':=({ No:=v13.No,Gen:=v13.Gen,End:=v2.1,Items:=v13.Items }:TSeg)) B3 e13 rfl rfl rfl rfl rfl rfl rfl rfl rfl e14) ?_;refine rl.done (RW.sf 2 rfl ?_);refine RW.kp [2] [(2,.ptr 1 0)] [some ⟨[pvB B0_ o0_ x0.mB,.j v3.2.mI,.j v3.2.mH],0⟩,some ⟨B6 5 6 7 v4,0⟩,some ⟨fl (encS true) v3.1.Disk.Sectors,1⟩,some ⟨fl (A1 true) v3.1.Disk.Cache,2⟩,some ⟨fl (A3 true) v3.1.Used,4⟩,some ⟨fl (encS true) v4.Disk.Sectors,1⟩,some ⟨fl (A1 true) v4.Disk.Cache,2⟩,some ⟨fl (A3 true) v14,4⟩,some ⟨B6 5 6 7 v4,0⟩] rfl rfl ?_;refine RW.ret ?_;cases h30
  exact RRetM.mk [0,5,6,7] Gh.refl rfl (.c rfl rfl (.keep (.pv ekB.rlst) (.i (.i .nil))) (.same rfl (ekS.fref _ _) (.same rfl (B4.fref _ _) (.same rfl (B3.fref _ _) .nil)))) rfl rfl rfl (RnL.agg (.cons (.slq rfl rfl) (.cons (.slq rfl rfl) (.cons (.dat .int) (.cons (.slq rfl (W2 e14)) (.cons (.dat .int) (.cons (.dat .int) (.cons (.dat .int) (.cons (.dat .int) .nil)))))))))
theorem Jm {x0:List Int} {r:TLog×TItem×Int} (hF:P0 x0=some r):B2 Tryz.prog 27 [L_B x0] (.tup [.agg [.lst true 1 (fl (encS true) r.1.Disk.Sectors) r.1.Disk.Sectors.length,.lst true 2 (fl (A1 true) r.1.Disk.Cache) r.1.Disk.Cache.length,.j r.1.Segs,.lst false 4 (fl (A3 true) r.1.Used) r.1.Used.length,.j r.1.NextGen,.j r.1.NextSeq,.j r.1.Stamp,.j r.1.NextValid],.agg (A8 true r.2.1),.j r.2.2]):=by
 refine B2.q Lf ?_;unfold P0 at hF;refine RW.sf 3 rfl ?_
 refine RW.pin 0 rfl fun B1 o1=>?_
 refine RW.sr 1 rfl ?_;obtain ⟨v2,e2,h1⟩:=A2 hF;refine rl.call rfl rfl rfl (A7.eN (r0:=.ptr 2 0) (H':=[some ⟨[.nils,.nils,.j 0,.nils,.j 0,.j 0,.j 0,.j 0],0⟩,some ⟨[.j 0,.j 0,.j 0,.j 0,.j 0,.j 0,.str [],.str [],.str []],0⟩,some ⟨[pvB B1 o1 x0,.j v2.mI,.j v2.mH],0⟩]) [] [] [⟨[pvB B1 o1 x0,.j v2.mI,.j v2.mH],0⟩] [] [pvB B1 o1 x0] (Fa e2) ?_);refine rl.f 1 rfl (RW.sr 2 rfl ?_);obtain ⟨v3,e3,h2⟩:=A2 h1;refine rl.call rfl rfl rfl (A7.eN (r0:=.j v3.1) (H':=[some ⟨[.nils,.nils,.j 0,.nils,.j 0,.j 0,.j 0,.j 0],0⟩,some ⟨[.j 0,.j 0,.j 0,.j 0,.j 0,.j 0,.str [],.str [],.str []],0⟩,some ⟨[pvB B1 o1 x0,.j v3.2.mI,.j v3.2.mH],0⟩,some ⟨fl (encI true) ([0,1,2,5,(-1)]:List Int),1⟩]) [⟨[pvB B1 o1 x0,.j v2.mI,.j v2.mH],0⟩,⟨fl (encI true) ([0,1,2,5,(-1)]:List Int),1⟩] [⟨[pvB B1 o1 x0,.j v3.2.mI,.j v3.2.mH],0⟩,⟨fl (encI true) ([0,1,2,5,(-1)]:List Int),1⟩] [] [2,3] [pvB B1 o1 x0] (Bu e3) ?_);refine rl.f 1 rfl (RW.sr 1 rfl ?_);obtain ⟨v4,e4,h3⟩:=A2 h2;refine rl.call rfl rfl rfl (A7.eN (r0:=.j v4.1) (H':=[some ⟨[.nils,.nils,.j 0,.nils,.j 0,.j 0,.j 0,.j 0],0⟩,some ⟨[.j 0,.j 0,.j 0,.j 0,.j 0,.j 0,.str [],.str [],.str []],0⟩,some ⟨[pvB B1 o1 x0,.j v4.2.mI,.j v4.2.mH],0⟩,some ⟨fl (encI true) ([0,1,2,5,(-1)]:List Int),1⟩]) [⟨[pvB B1 o1 x0,.j v3.2.mI,.j v3.2.mH],0⟩] [⟨[pvB B1 o1 x0,.j v4.2.mI,.j v4.2.mH],0⟩] [] [2] [pvB B1 o1 x0] (C7 e4) ?_);refine rl.run 2 rfl ?_;obtain ⟨v5,e5,h4⟩:=A2 h3;refine rl.call rfl rfl rfl (A7.eN (r0:=.agg (D0 false v5.1)) (H':=[some ⟨[.nils,.nils,.j 0,.nils,.j 0,.j 0,.j 0,.j 0],0⟩,some ⟨[.j 0,.j 0,.j 0,.j 0,.j 0,.j 0,.str [],.str [],.str []],0⟩,some ⟨[pvB B1 o1 x0,.j v5.2.mI,.j v5.2.mH],0⟩,some ⟨fl (encI true) ([0,1,2,5,(-1)]:List Int),1⟩]) [⟨[pvB B1 o1 x0,.j v4.2.mI,.j v4.2.mH],0⟩] [⟨[pvB B1 o1 x0,.j v5.2.mI,.j v5.2.mH],0⟩] [] [2] [pvB B1 o1 x0] (Ro e5) ?_);refine rl.f 3 rfl ?_;refine RW.kp [2,3,5,6,7] [(2,.ptr 0 0),(3,.ptr 1 0),(5,.ptr 2 0),(6,.j v3.1),(7,.ptr 4 0)] [some ⟨[.nils,.nils,.j 0,.nils,.j 0,.j 0,.j 0,.j 0],0⟩,some ⟨[.j 0,.j 0,.j 0,.j 0,.j 0,.j 0,.str [],.str [],.str []],0⟩,some ⟨[pvB B1 o1 x0,.j v5.2.mI,.j v5.2.mH],0⟩,some ⟨fl (encI true) ([0,1,2,5,(-1)]:List Int),1⟩,some ⟨[.j (w64 (1+v4.1)),.j v5.1.Kind,.j v5.1.Valid,.j v5.1.Uid,.j v5.1.Next,.j v5.1.Flags,.str v5.1.User,.str v5.1.Name,.str v5.1.Text],0⟩] rfl rfl ?_
 refine RW.sr 1 rfl ?_;obtain ⟨v6,e6,h5⟩:=A2 h4;refine rl.call rfl rfl rfl (A7.eN (r0:=.j v6.1) (H':=[some ⟨[.nils,.nils,.j 0,.nils,.j 0,.j 0,.j 0,.j 0],0⟩,some ⟨[.j 0,.j 0,.j 0,.j 0,.j 0,.j 0,.str [],.str [],.str []],0⟩,some ⟨[pvB B1 o1 x0,.j v6.2.mI,.j v6.2.mH],0⟩,some ⟨fl (encI true) ([0,1,2,5,(-1)]:List Int),1⟩,some ⟨[.j (w64 (1+v4.1)),.j v5.1.Kind,.j v5.1.Valid,.j v5.1.Uid,.j v5.1.Next,.j v5.1.Flags,.str v5.1.User,.str v5.1.Name,.str v5.1.Text],0⟩]) [⟨[pvB B1 o1 x0,.j v5.2.mI,.j v5.2.mH],0⟩] [⟨[pvB B1 o1 x0,.j v6.2.mI,.j v6.2.mH],0⟩] [] [2] [pvB B1 o1 x0] (C7 e6) ?_);refine rl.f 1 rfl (RW.sr 1 rfl ?_);obtain ⟨v7,e7,h6⟩:=A2 h5;refine rl.call rfl rfl rfl (A7.eN (r0:=.agg [.sl 5 0 v7.1.Disk.Sectors.length,.sl 6 0 v7.1.Disk.Cache.length,.j v7.1.Segs,.sl 7 ((v7.2.2.2.1:Int).toNat*4) v7.1.Used.length,.j v7.1.NextGen,.j v7.1.NextSeq,.j v7.1.Stamp,.j v7.1.NextValid]) (H':=[some ⟨[.nils,.nils,.j 0,.nils,.j 0,.j 0,.j 0,.j 0],0⟩,some ⟨[.j 0,.j 0,.j 0,.j 0,.j 0,.j 0,.str [],.str [],.str []],0⟩,some ⟨[pvB B1 o1 x0,.j v7.2.1.mI,.j v7.2.1.mH],0⟩,some ⟨fl (encI true) ([0,1,2,5,(-1)]:List Int),1⟩,some ⟨[.j (w64 (1+v4.1)),.j v5.1.Kind,.j v5.1.Valid,.j v5.1.Uid,.j v5.1.Next,.j v5.1.Flags,.str v5.1.User,.str v5.1.Name,.str v5.1.Text],0⟩,some ⟨fl (encS true) v7.1.Disk.Sectors,1⟩,some ⟨fl (A1 true) v7.1.Disk.Cache,2⟩,some ⟨fl (A3 true) v7.2.2.1,4⟩]) [⟨[pvB B1 o1 x0,.j v6.2.mI,.j v6.2.mH],0⟩] [⟨[pvB B1 o1 x0,.j v7.2.1.mI,.j v7.2.1.mH],0⟩] [⟨fl (encS true) v7.1.Disk.Sectors,1⟩,⟨fl (A1 true) v7.1.Disk.Cache,2⟩,⟨fl (A3 true) v7.2.2.1,4⟩] [2] [pvB B1 o1 x0] (Jf (A3t e7)) ?_);refine rl.f 2 rfl (RW.seq (RW.sr 1 rfl ?_))
 refine rl.gen rfl rfl fun b hb=>?_
 cases b
 ·have h7:=A5 h6 hb;refine rl.done (RW.cond_f rfl (RW.skip (RW.sdrw (A0.op rfl rfl (A0.op rfl rfl (A0.op rfl rfl ?_))))));refine A0.chnB rfl rfl (.here (.rx rfl) (.here (.rx rfl) (.skip rfl .nil))) ?_;refine A0.chnB rfl rfl (.here (.rx rfl) (.skip rfl (.skip rfl .nil))) ?_;refine A0.op rfl rfl (A0.done ?_);refine RW.kp [2,3,4] [(2,.ptr 0 0),(3,.ptr 1 0),(4,.j v3.1)] [some ⟨[.sl 5 0 v7.1.Disk.Sectors.length,.sl 6 0 v7.1.Disk.Cache.length,.j v7.1.Segs,.sl 7 ((v7.2.2.2.1:Int).toNat*4) v7.1.Used.length,.j v7.1.NextGen,.j v7.1.NextSeq,.j v7.1.Stamp,.j v7.1.NextValid],0⟩,some ⟨[.j (w64 (1+v4.1)),.j v5.1.Kind,.j v5.1.Valid,.j v5.1.Uid,.j v5.1.Next,.j v5.1.Flags,.str v5.1.User,.str v5.1.Name,.str v5.1.Text],0⟩,some ⟨[pvB B1 o1 x0,.j v7.2.1.mI,.j v7.2.1.mH],0⟩,some ⟨fl (encI true) ([0,1,2,5,(-1)]:List Int),1⟩,some ⟨[.j (w64 (1+v4.1)),.j v5.1.Kind,.j v5.1.Valid,.j v5.1.Uid,.j v5.1.Next,.j v5.1.Flags,.str v5.1.User,.str v5.1.Name,.str v5.1.Text],0⟩,some ⟨fl (encS true) v7.1.Disk.Sectors,1⟩,some ⟨fl (A1 true) v7.1.Disk.Cache,2⟩,some ⟨fl (A3 true) v7.2.2.1,4⟩,some ⟨[.sl 5 0 v7.1.Disk.Sectors.length,.sl 6 0 v7.1.Disk.Cache.length,.j v7.1.Segs,.sl 7 ((v7.2.2.2.1:Int).toNat*4) v7.1.Used.length,.j v7.1.NextGen,.j v7.1.NextSeq,.j v7.1.Stamp,.j v7.1.NextValid],0⟩] rfl rfl ?_;refine RW.ret ?_;cases h7
  exact RRet.m rfl (OutT.tup (.cons (OutL.agg (.cons (OutR.ownq ekS rfl rfl) rfl (.cons (OutR.ownq B4 rfl rfl) rfl (.i (.cons (OutR.viewp B3 rfl (Yy (p:=fun r:TLog×TL01Cur×List TSeg×Int×Int=>sub? r.2.2.1 r.2.2.2.1 r.2.2.2.2=some r.1.Used) e7)) rfl (.i (.i (.i (.i .nil))))))))) (.cons (OutL.agg (.i (.i (.i (.i (.i (.i (.cons .str rfl (.cons .str rfl (.cons .str rfl .nil)))))))))) (.cons .int .nil))))
 ·have h8:=A4 h6 hb;refine rl.done (RW.cond_t rfl (RW.reg (rl.f 4 rfl (RW.sdrw (A0.op rfl rfl (A0.op rfl rfl (A0.op rfl rfl ?_)))))));refine A0.chnB rfl rfl (.here (.rx rfl) (.here (.rx rfl) (.skip rfl .nil))) ?_;refine A0.chnB rfl rfl (.here (.rx rfl) (.skip rfl (.skip rfl .nil))) ?_;refine A0.op rfl rfl (A0.done ?_);refine RW.kp [2,3,4] [(2,.ptr 0 0),(3,.ptr 1 0),(4,.j v3.1)] [some ⟨[.sl 5 0 v7.1.Disk.Sectors.length,.sl 6 0 v7.1.Disk.Cache.length,.j v7.1.Segs,.sl 7 ((v7.2.2.2.1:Int).toNat*4) v7.1.Used.length,.j v7.1.NextGen,.j v7.1.NextSeq,.j v7.1.Stamp,.j v7.1.NextValid],0⟩,some ⟨[.j v7.1.NextSeq,.j v5.1.Kind,.j v5.1.Valid,.j v5.1.Uid,.j v5.1.Next,.j v5.1.Flags,.str v5.1.User,.str v5.1.Name,.str v5.1.Text],0⟩,some ⟨[pvB B1 o1 x0,.j v7.2.1.mI,.j v7.2.1.mH],0⟩,some ⟨fl (encI true) ([0,1,2,5,(-1)]:List Int),1⟩,some ⟨[.j v7.1.NextSeq,.j v5.1.Kind,.j v5.1.Valid,.j v5.1.Uid,.j v5.1.Next,.j v5.1.Flags,.str v5.1.User,.str v5.1.Name,.str v5.1.Text],0⟩,some ⟨fl (encS true) v7.1.Disk.Sectors,1⟩,some ⟨fl (A1 true) v7.1.Disk.Cache,2⟩,some ⟨fl (A3 true) v7.2.2.1,4⟩,some ⟨[.sl 5 0 v7.1.Disk.Sectors.length,.sl 6 0 v7.1.Disk.Cache.length,.j v7.1.Segs,.sl 7 ((v7.2.2.2.1:Int).toNat*4) v7.1.Used.length,.j v7.1.NextGen,.j v7.1.NextSeq,.j v7.1.Stamp,.j v7.1.NextValid],0⟩] rfl rfl ?_;refine RW.ret ?_;cases h8
  exact RRet.m rfl (OutT.tup (.cons (OutL.agg (.cons (OutR.ownq ekS rfl rfl) rfl (.cons (OutR.ownq B4 rfl rfl) rfl (.i (.cons (OutR.viewp B3 rfl (Yy (p:=fun r:TLog×TL01Cur×List TSeg×Int×Int=>sub? r.2.2.1 r.2.2.2.1 r.2.2.2.2=some r.1.Used) e7)) rfl (.i (.i (.i (.i .nil))))))))) (.cons (OutL.agg (.i (.i (.i (.i (.i (.i (.cons .str rfl (.cons .str rfl (.cons .str rfl .nil)))))))))) (.cons .int .nil))))
theorem Vp {x0:TRec} {r:(List UInt8)×Bool} (hF:Cw x0=some r):B2 Tryz.prog 142 [.agg (D0 false x0)] (.tup [.str r.1,.bool r.2]):=by
 refine B2.q A0l ?_;unfold Cw at hF;refine RW.sf 3 rfl (RW.seq (RW.sr 1 rfl ?_));obtain ⟨v1,e1,h1⟩:=A2 hF;refine rl.call rfl rfl rfl (A7.y (r':=.bool v1) (Hr e1) ?_)
 cases hb:v1
 ·have h2:=A5 h1 hb;refine rl.f 1 rfl (RW.cond_t rfl (RW.sf 2 rfl (RW.ret ?_)));cases h2
  exact RRet.y
 ·have h3:=A4 h1 hb;refine rl.f 1 rfl (RW.cond_f rfl (RW.skip (RW.sr 4 rfl ?_)));refine rl.op (Hn (o:=true) (l:=[IntKind.u8.wrap x0.Kind]) rfl rfl) ?_;refine rl.f 1 rfl ?_;refine RW.kp [1,4] [(1,.ptr 0 0),(4,.str ([IntKind.u8.wrap x0.Kind].map ofI))] [some ⟨D0 false x0,0⟩,some ⟨fl (encB true) [IntKind.u8.wrap x0.Kind],1⟩] rfl rfl ?_;refine RW.seq (RW.sf 11 rfl ?_);obtain ⟨y7,ey7,h5⟩:=A2 h3
  refine RW.cutq (σ:=(List UInt8)) (fun y3=>[(1,.ptr 0 0),(4,.str y3)]) (fun y3=>[some ⟨D0 false x0,0⟩]) (fun y=>y7=y) gg ?_ ?_
  ·refine RW.blk ?_
   refine RW.iter (σ:=(List UInt8)×Int) ey7 (fun s2=>[(1,.ptr 0 0),(4,.str s2.1),(25,.sl 1 0 [x0.Valid,x0.Uid,x0.Next,x0.Flags].length),(26,.j ([x0.Valid,x0.Uid,x0.Next,x0.Flags].length:Int)),(27,.j s2.2)]) (fun s2=>[some ⟨D0 false x0,0⟩,some ⟨fl (encI true) [x0.Valid,x0.Uid,x0.Next,x0.Flags],1⟩]) (Gh.y0 [0,2]) (fun s2 B o hS4 hB4 hE4=>?_)
   unfold Ar at hS4;refine RW.sreg ?_
   refine rl.gen rfl rfl fun b hb=>?_
   cases b
   ·have h6:=A5 hS4 hb;refine rl.done (RW.seq (RW.cond_f rfl (RW.exit (C9 ?_))));cases h6
    exact ⟨_,(hE4 _ rfl).symm,(Gh.y0 [0])⟩
   ·have h7:=A4 hS4 hb;refine rl.done (RW.seq (RW.cond_t rfl (RW.skip (RW.seq (RW.blk (RW.sreg ?_))))));obtain ⟨v4,e4,h8⟩:=A2 h7;refine rl.op (P9 rfl rfl rfl rfl e4) ?_;refine rl.op (Gw (o:=true) (off':=0) ekI rfl rfl e4 rfl rfl rfl) ?_;refine rl.f 1 rfl (RW.reg (rl.run 2 rfl ?_));obtain ⟨v5,e5,h9⟩:=A2 h8;refine rl.call rfl rfl rfl (A7.y (r':=.str v5) (Z3 e5) ?_);obtain ⟨v6,e6,h10⟩:=A2 h9;refine rl.op (T4 rfl rfl e6) ?_;refine rl.f 1 rfl (RW.reg (rl.f 2 rfl ?_));cases h10
    exact hB4 _ rfl _ _ (Gh.y0 [0,1])
  ·intro y3 hC
   subst hC;refine RW.seq (RW.sf 9 rfl ?_);obtain ⟨y14,ey14,h12⟩:=A2 h5
   refine RW.cutq (σ:=(List UInt8)) (fun y9=>[(4,.str y9)]) (fun y9=>[]) (fun y=>y14=y) gg ?_ ?_
   ·refine RW.blk ?_
    refine RW.iter (σ:=(List UInt8)×Int) ey14 (fun s8=>[(4,.str s8.1),(42,.sl 0 0 [x0.User,x0.Name,x0.Text].length),(43,.j ([x0.User,x0.Name,x0.Text].length:Int)),(44,.j s8.2)]) (fun s8=>[some ⟨fl (encS true) [x0.User,x0.Name,x0.Text],1⟩]) (Gh.y0 [1]) (fun s8 B o hS11 hB11 hE11=>?_)
    unfold Az at hS11;refine RW.sreg ?_
    refine rl.gen rfl rfl fun b hb=>?_
    cases b
    ·have h13:=A5 hS11 hb;refine rl.done (RW.seq (RW.cond_f rfl (RW.exit (C9 ?_))));cases h13
     exact ⟨_,(hE11 _ rfl).symm,(Gh.y0 [])⟩
    ·have h14:=A4 hS11 hb;refine rl.done (RW.seq (RW.cond_t rfl (RW.skip (RW.seq (RW.blk (RW.sreg ?_))))));obtain ⟨v10,e10,h15⟩:=A2 h14;refine rl.op (P9 rfl rfl rfl rfl e10) ?_;refine rl.op (Gw (o:=true) (off':=0) ekS rfl rfl e10 rfl rfl rfl) ?_;refine rl.f 1 rfl (RW.reg (rl.run 3 rfl ?_));obtain ⟨v11,e11,h16⟩:=A2 h15;refine rl.call rfl rfl rfl (A7.y (r':=.str v11) (Z3 e11) ?_);refine rl.run 1 rfl ?_;obtain ⟨v12,e12,h17⟩:=A2 h16;refine rl.op (T4 rfl rfl e12) ?_;obtain ⟨v13,e13,h18⟩:=A2 h17;refine rl.op (T4 rfl rfl e13) ?_;refine rl.f 1 rfl (RW.reg (rl.f 2 rfl ?_));cases h18
     exact hB11 _ rfl _ _ (Gh.y0 [0])
   ·intro y9 hC
    subst hC;refine RW.sf 3 rfl (RW.ret ?_);cases h12
    exact RRet.y
theorem Hm {x0:TItem} {x1:Int} {r:TFrame×Bool} (hF:Z2 x0 x1=some r):B2 Tryz.prog 80 [.agg (A8 false x0),.j x1] (.tup [.agg (B5 true r.1),.bool r.2]):=by
 refine B2.q Vo ?_;unfold Z2 at hF;refine RW.sf 3 rfl (RW.sr 2 rfl ?_);obtain ⟨v1,e1,h1⟩:=A2 hF;refine rl.call rfl rfl rfl (A7.y (r':=.tup [.str v1.1,.bool v1.2]) (Vp e1) ?_);refine rl.f 5 rfl (RW.sf 7 rfl ?_);refine RW.kp [4,7,8] [(4,.ptr 1 0),(7,.bool v1.2),(8,.ptr 2 0)] [some ⟨A8 false x0,0⟩,some ⟨[.j 0,.j 0,.str []],0⟩,some ⟨[.j x1,.j x0.Seq,.str v1.1],0⟩] rfl rfl ?_;refine RW.seq (RW.seq ?_);obtain ⟨y2,ey2,h2⟩:=A2 h1
 refine RW.cutq (σ:=Bool) (fun y2=>[(4,.ptr 0 0),(8,.ptr 1 0),(26,.bool y2)]) (fun y2=>[some ⟨[.j 0,.j 0,.str []],0⟩,some ⟨[.j x1,.j x0.Seq,.str v1.1],0⟩]) (fun y=>y2=y) gg ?_ ?_
 ·refine RW.reg ?_;refine rl.run 3 rfl ?_
  cases hb:(!v1.2)
  ·have h3:=A5 ey2 hb;refine rl.run 1 rfl ?_;obtain ⟨v3,e3,h4⟩:=A2 h3;refine rl.call rfl rfl rfl (A7.y (r':=.bool v3) (Da e3) ?_)
   cases hb:v3
   ·have h5:=A5 h4 hb;refine rl.f 2 rfl ?_;cases h5
    exact ⟨_,rfl,(Gh.y0 [1,2])⟩
   ·have h6:=A4 h4 hb;refine rl.f 2 rfl ?_;cases h6
    exact ⟨_,rfl,(Gh.y0 [1,2])⟩
  ·have h7:=A4 ey2 hb;refine rl.f 4 rfl ?_;cases h7
   exact ⟨_,rfl,(Gh.y0 [1,2])⟩
 ·intro y hC
  subst hC
  cases hb:y2
  ·have h8:=A5 h2 hb;refine RW.cond_f rfl (RW.skip (RW.sf 3 rfl (RW.ret ?_)));cases h8
   exact RRet.y
  ·have h9:=A4 h2 hb;refine RW.cond_t rfl (RW.sf 3 rfl (RW.ret ?_));cases h9
   exact RRet.y
theorem Fs {x0:TLog} {r:TSeg} (hF:Q7 x0=some r):B2 Tryz.prog 81 [.agg (A9 false x0)] (.agg [.j r.No,.j r.Gen,.j r.End,.und]):=by
 refine B2.q A0d ?_;unfold Q7 at hF;refine RW.sf 2 rfl (RW.seq (RW.sr 3 rfl ?_))
 refine rl.gen rfl rfl fun b hb=>?_
 cases b
 ·have h1:=A5 hF hb;refine rl.done (RW.cond_f rfl (RW.skip (RW.sr 6 rfl ?_)));obtain ⟨v1,e1,h2⟩:=A2 h1;refine rl.op (C1 (enc:=A3) (o:=false) rfl rfl rfl e1) ?_;refine rl.op (H6 (off':=0) (vs:=(A3 false v1)) B3 rfl e1 rfl rfl rfl) ?_;refine rl.f 1 rfl ?_;refine RW.kp [2] [(2,.ptr 1 0)] [some ⟨A9 false x0,0⟩,some ⟨A3 false v1,0⟩] rfl rfl ?_;refine RW.ret ?_;cases h2
  exact RRet.y
 ·have h3:=A4 hF hb;refine rl.done (RW.cond_t rfl (RW.sf 2 rfl (RW.ret ?_)));cases h3
  exact RRet.y
theorem Qo {x0:TFrame} {r:Int} (hF:Z6 x0=some r):B2 Tryz.prog 82 [.agg (B5 false x0)] (.j r):=by
 refine B2.q Ut ?_;unfold Z6 at hF;refine RW.sf 2 rfl (RW.sr 1 rfl ?_);obtain ⟨v1,e1,h1⟩:=A2 hF;refine rl.call rfl rfl rfl (A7.y (r':=.tup [.str v1.1,.bool v1.2]) (W3 e1) ?_);refine rl.f 5 rfl (RW.sf 3 rfl ?_);refine RW.kp [2] [(2,.j (v1.1.length:Int))] [some ⟨B5 false x0,0⟩] rfl rfl ?_;refine RW.ret ?_;cases h1
 exact RRet.y
theorem Mz {x0:TLog} {x1:TItem} {x2:Int} {r:TLog×Bool} (hF:X9 x0 x1 x2=some r):B2 Tryz.prog 28 [.agg (A9 false x0),.agg (A8 false x1),.j x2] (.tup [.agg (A9 true r.1),.bool r.2]):=by
 refine B2.q Tj ?_;unfold X9 at hF;refine RW.sf 4 rfl (RW.sr 1 rfl ?_);obtain ⟨v1,e1,h1⟩:=A2 hF;refine rl.call rfl rfl rfl (A7.z (r':=.agg (B6 3 4 5 v1)) (H':=[some ⟨A9 false x0,0⟩,some ⟨A8 false x1,0⟩,some ⟨[.nils,.nils,.j 0,.nils,.j 0,.j 0,.j 0,.j 0],0⟩,some ⟨fl (encS true) v1.Disk.Sectors,1⟩,some ⟨fl (A1 true) v1.Disk.Cache,2⟩,some ⟨fl (A3 true) v1.Used,4⟩]) (X5 e1) ?_);refine rl.f 2 rfl (RW.sdrw (A0.op rfl rfl (A0.op rfl rfl ?_)));obtain ⟨v2,e2,h2⟩:=A2 h1;refine A0.call rfl rfl rfl (A7.y (r':=.agg [.j v2.No,.j v2.Gen,.j v2.End,.und]) (Fs e2) ⟨rfl,?_⟩);refine A0.op rfl rfl (A0.op rfl rfl ?_);obtain ⟨v3,e3,h3⟩:=A2 h2;refine A0.call rfl rfl rfl (A7.y (r':=.tup [.agg (B5 false v3.1),.bool v3.2]) (Hm e3) ⟨rfl,?_⟩);refine A0.op rfl rfl (A0.op rfl rfl (A0.op rfl rfl ?_));refine A0.chnB rfl rfl (.here (.rx rfl) (.here (.rx rfl) (.here (.rx rfl) (.here (.cl rfl rfl (A7.y (r':=.tup [.agg (B5 false v3.1),.bool v3.2]) (Hm e3) ⟨rfl,rfl⟩)) (.here (.rx rfl) (.here (.rx rfl) (.here (.cl rfl rfl (A7.y (r':=.agg [.j v2.No,.j v2.Gen,.j v2.End,.und]) (Fs e2) ⟨rfl,rfl⟩)) (.here (.rx rfl) (.here (.rx rfl) .nil))))))))) ?_;refine A0.chnB rfl rfl (.here (.rx rfl) (.skip rfl (.skip rfl (.skip rfl (.skip rfl (.skip rfl (.skip rfl (.skip rfl (.skip rfl .nil))))))))) ?_;refine A0.op rfl rfl (A0.done ?_);refine RW.kp [2,3,4,6,8,9,10] [(2,.j x2),(3,.ptr 0 0),(4,.ptr 1 0),(6,.ptr 2 0),(8,.ptr 6 0),(9,.ptr 7 0),(10,.bool v3.2)] [some ⟨A9 false x0,0⟩,some ⟨A8 false x1,0⟩,some ⟨[.nils,.nils,.j 0,.nils,.j 0,.j 0,.j 0,.j 0],0⟩,some ⟨fl (encS true) v1.Disk.Sectors,1⟩,some ⟨fl (A1 true) v1.Disk.Cache,2⟩,some ⟨fl (A3 true) v1.Used,4⟩,some ⟨B6 3 4 5 v1,0⟩,some ⟨B5 false v3.1,0⟩] rfl rfl ?_;refine RW.seq (RW.seq ?_);obtain ⟨y4,ey4,h4⟩:=A2 h3
 refine RW.cutq (σ:=Bool) (fun y4=>[(2,.j x2),(3,.ptr 0 0),(4,.ptr 1 0),(6,.ptr 2 0),(8,.ptr 3 0),(9,.ptr 4 0),(54,.bool y4)]) (fun y4=>[some ⟨A9 false x0,0⟩,some ⟨A8 false x1,0⟩,some ⟨[.nils,.nils,.j 0,.nils,.j 0,.j 0,.j 0,.j 0],0⟩,some ⟨B6 5 6 7 v1,0⟩,some ⟨B5 false v3.1,0⟩,some ⟨fl (encS true) v1.Disk.Sectors,1⟩,some ⟨fl (A1 true) v1.Disk.Cache,2⟩,some ⟨fl (A3 true) v1.Used,4⟩]) (fun y=>y4=y) gg ?_ ?_
 ·refine RW.drw ?_;refine A0.op rfl rfl ?_;obtain ⟨v5,e5,h5⟩:=A2 ey4;refine A0.call rfl rfl rfl (A7.y (r':=.bool v5) (Ff e5) ⟨rfl,?_⟩)
  cases hb:v5
  ·have h6:=A5 h5 hb;refine A0.op rfl rfl (A0.op rfl rfl (A0.off rfl (A0.off rfl (A0.op rfl rfl (A0.op rfl rfl (A0.off rfl (A0.off rfl (A0.off rfl (A0.op rfl rfl (A0.op rfl rfl (A0.off rfl ?_)))))))))));refine A0.off rfl (A0.op rfl rfl (A0.op rfl rfl (A0.off rfl ?_)));refine A0.coff rfl ?_;refine A0.off rfl (A0.off rfl ?_);refine A0.coff rfl ?_;refine A0.off rfl (A0.off rfl (A0.op rfl rfl (A0.done ?_)));cases h6
   exact ⟨_,rfl,(Gh.y0 [0,1,2,6,7,3,4,5])⟩
  ·have h7:=A4 h5 hb;refine A0.op rfl rfl (A0.op rfl rfl (A0.op rfl rfl (A0.op rfl rfl (A0.op rfl rfl (A0.op rfl rfl ?_)))))
   cases hb:(!v3.2)
   ·have h8:=A5 h7 hb;refine A0.op rfl rfl (A0.op rfl rfl ?_)
    refine A0.gen rfl rfl fun b hb=>?_
    cases b
    ·have h9:=A5 h8 hb;refine A0.op rfl rfl (A0.op rfl rfl (A0.op rfl rfl ?_))
     refine A0.gen rfl rfl fun b hb=>?_
     cases b
     ·have h10:=A5 h9 hb;refine A0.op rfl rfl (A0.op rfl rfl (A0.op rfl rfl ?_));obtain ⟨v6,e6,h11⟩:=A2 h10;refine A0.ccall rfl rfl rfl (A7.z (r':=.sl 8 0 v6.length) (H':=[some ⟨A9 false x0,0⟩,some ⟨A8 false x1,0⟩,some ⟨[.nils,.nils,.j 0,.nils,.j 0,.j 0,.j 0,.j 0],0⟩,some ⟨fl (encS true) v1.Disk.Sectors,1⟩,some ⟨fl (A1 true) v1.Disk.Cache,2⟩,some ⟨fl (A3 true) v1.Used,4⟩,some ⟨B6 3 4 5 v1,0⟩,some ⟨B5 false v3.1,0⟩,some ⟨fl (A8 true) v6,9⟩]) (Fm e6) ?_);refine A0.opA rfl rfl (.here (.rx rfl) .nil) ?_;refine A0.litA (u:=E8 ([x1]:List TItem)) rfl rfl (Lit.mk rfl rfl) (.here (.lit rfl (Lit.mk rfl rfl)) .nil) ?_;obtain ⟨v7,e7,h12⟩:=A2 h11;refine A0.chn rfl (U2 rfl rfl (R6 (l:=v6) (m:=([x1]:List TItem)) (o:=true) C2 rfl rfl Bq rfl (M9.fst _ _) e7)) ?_;obtain ⟨v8,e8,h13⟩:=A2 h12;refine A0.call rfl rfl rfl (A7.y (r':=.bool v8) (Jo e8) ⟨rfl,?_⟩)
      cases hb:v8
      ·have h14:=A5 h13 hb;refine A0.op rfl rfl (A0.op rfl rfl (A0.done ?_));cases h14
       exact ⟨_,rfl,(Gh.y0 [0,1,2,6,7,3,4,5])⟩
      ·have h15:=A4 h13 hb;refine A0.op rfl rfl (A0.op rfl rfl (A0.done ?_));cases h15
       exact ⟨_,rfl,(Gh.y0 [0,1,2,6,7,3,4,5])⟩
     ·have h16:=A4 h9 hb;refine A0.op rfl rfl (A0.op rfl rfl (A0.off rfl ?_));refine A0.coff rfl ?_;refine A0.off rfl (A0.off rfl ?_);refine A0.coff rfl ?_;refine A0.off rfl (A0.off rfl (A0.op rfl rfl (A0.done ?_)));cases h16
      exact ⟨_,rfl,(Gh.y0 [0,1,2,6,7,3,4,5])⟩
    ·have h17:=A4 h8 hb;refine A0.op rfl rfl (A0.op rfl rfl (A0.off rfl (A0.off rfl (A0.op rfl rfl (A0.op rfl rfl (A0.off rfl ?_))))));refine A0.coff rfl ?_;refine A0.off rfl (A0.off rfl ?_);refine A0.coff rfl ?_;refine A0.off rfl (A0.off rfl (A0.op rfl rfl (A0.done ?_)));cases h17
     exact ⟨_,rfl,(Gh.y0 [0,1,2,6,7,3,4,5])⟩
   ·have h18:=A4 h7 hb;refine A0.off rfl (A0.off rfl (A0.off rfl (A0.op rfl rfl (A0.op rfl rfl (A0.off rfl (A0.off rfl (A0.op rfl rfl (A0.op rfl rfl (A0.off rfl ?_)))))))));refine A0.coff rfl ?_;refine A0.off rfl (A0.off rfl ?_);refine A0.coff rfl ?_;refine A0.off rfl (A0.off rfl (A0.op rfl rfl (A0.done ?_)));cases h18
    exact ⟨_,rfl,(Gh.y0 [0,1,2,6,7,3,4,5])⟩
 ·intro y hC
  subst hC
  cases hb:y4
  ·have h19:=A5 h4 hb;refine RW.cond_f rfl (RW.skip (RW.sr 1 rfl ?_));obtain ⟨v9,e9,h20⟩:=A2 h19;refine rl.call rfl rfl rfl (A7.z (r':=.agg (B6 8 9 10 v9)) (H':=[some ⟨A9 false x0,0⟩,some ⟨A8 false x1,0⟩,some ⟨[.nils,.nils,.j 0,.nils,.j 0,.j 0,.j 0,.j 0],0⟩,some ⟨B6 5 6 7 v1,0⟩,some ⟨B5 false v3.1,0⟩,some ⟨fl (encS true) v1.Disk.Sectors,1⟩,some ⟨fl (A1 true) v1.Disk.Cache,2⟩,some ⟨fl (A3 true) v1.Used,4⟩,some ⟨fl (encS true) v9.Disk.Sectors,1⟩,some ⟨fl (A1 true) v9.Disk.Cache,2⟩,some ⟨fl (A3 true) v9.Used,4⟩]) (X5 e9) ?_);refine rl.f 2 rfl (RW.seq (RW.sdrw (A0.op rfl rfl ?_)));obtain ⟨v10,e10,h21⟩:=A2 h20;refine A0.call rfl rfl rfl (A7.y (r':=.agg [.j v10.No,.j v10.Gen,.j v10.End,.und]) (Fs e10) ⟨rfl,?_⟩);refine A0.op rfl rfl (A0.op rfl rfl ?_);obtain ⟨v11,e11,h22⟩:=A2 h21;refine A0.call rfl rfl rfl (A7.y (r':=.j v11) (Qo e11) ⟨rfl,?_⟩);refine A0.op rfl rfl ?_
   refine A0.gen rfl rfl fun b hb=>?_
   cases b
   ·have h23:=A5 h22 hb;refine A0.done (RW.cond_f rfl (RW.skip ?_));obtain ⟨v12,e12,h24⟩:=A2 h23;refine RW.gh (Gh.blk (b:=10) rfl (Fc B3 e12)) ?_
    refine RW.gh (Gh.expose_raw (b:=10) (j:=3) rfl rfl (by decide) (C2.fown _)) ?_
    refine RW.sr 6 rfl ?_;refine rl.op (P9 rfl rfl rfl rfl e12) ?_;refine rl.f 1 rfl ?_;refine RW.kp [4,6,8,9,11,14] [(4,.ptr 1 0),(6,.ptr 2 0),(8,.ptr 3 0),(9,.ptr 4 0),(11,.ptr 11 0),(14,.ptr 10 ((w64 ((v9.Used.length:Int) - 1)).toNat*4))] [some ⟨A9 false x0,0⟩,some ⟨A8 false x1,0⟩,some ⟨[.nils,.nils,.j 0,.nils,.j 0,.j 0,.j 0,.j 0],0⟩,some ⟨B6 5 6 7 v1,0⟩,some ⟨B5 false v3.1,0⟩,some ⟨fl (encS true) v1.Disk.Sectors,1⟩,some ⟨fl (A1 true) v1.Disk.Cache,2⟩,some ⟨fl (A3 true) v1.Used,4⟩,some ⟨fl (encS true) v9.Disk.Sectors,1⟩,some ⟨fl (A1 true) v9.Disk.Cache,2⟩,some ⟨fl (A3 true) (v9.Used.take (w64 ((v9.Used.length:Int) - 1)).toNat)++((H4 12 v12)++fl (A3 true) (v9.Used.drop ((w64 ((v9.Used.length:Int) - 1)).toNat+1))),4⟩,some ⟨B6 8 9 10 v9,0⟩,some ⟨fl (A8 true) v12.Items,9⟩] rfl rfl ?_;refine RW.sr 3 rfl ?_;refine rl.op (T5 (off':=1) B3 rfl rfl e12 rfl rfl) ?_;refine rl.f 2 rfl (RW.sr 1 rfl ?_);obtain ⟨v13,e13,h25⟩:=A2 h24;refine rl.call rfl rfl rfl (A7.y (r':=.tup [.str v13.1,.bool v13.2]) (W3 e13) ?_);refine rl.f 5 rfl ?_;refine RW.kp [4,6,8,11,14,15] [(4,.ptr 1 0),(6,.ptr 2 0),(8,.ptr 3 0),(11,.ptr 11 0),(14,.ptr 10 ((w64 ((v9.Used.length:Int) - 1)).toNat*4)),(15,.str v13.1)] [some ⟨A9 false x0,0⟩,some ⟨A8 false x1,0⟩,some ⟨[.nils,.nils,.j 0,.nils,.j 0,.j 0,.j 0,.j 0],0⟩,some ⟨B6 5 6 7 v1,0⟩,some ⟨[.j v12.Gen,.j v3.1.Seq,.str v3.1.Body],0⟩,some ⟨fl (encS true) v1.Disk.Sectors,1⟩,some ⟨fl (A1 true) v1.Disk.Cache,2⟩,some ⟨fl (A3 true) v1.Used,4⟩,some ⟨fl (encS true) v9.Disk.Sectors,1⟩,some ⟨fl (A1 true) v9.Disk.Cache,2⟩,some ⟨fl (A3 true) (v9.Used.take (w64 ((v9.Used.length:Int) - 1)).toNat)++((H4 12 v12)++fl (A3 true) (v9.Used.drop ((w64 ((v9.Used.length:Int) - 1)).toNat+1))),4⟩,some ⟨B6 8 9 10 v9,0⟩,some ⟨fl (A8 true) v12.Items,9⟩] rfl rfl ?_;refine RW.sdrw (A0.op rfl rfl (A0.op rfl rfl (A0.op rfl rfl (A0.op rfl rfl (A0.op rfl rfl ?_)))));refine A0.op rfl (T5 (off':=0) B3 rfl rfl e12 rfl rfl) ?_;refine A0.op rfl rfl (A0.op rfl rfl (A0.op rfl rfl ?_));refine A0.op rfl (T5 (off':=2) B3 rfl rfl e12 rfl rfl) ?_
    refine A0.op rfl rfl ?_;obtain ⟨v14,e14,h26⟩:=A2 h25;refine A0.call rfl rfl rfl (A7.y (r':=.tup [.agg (A6 false v14.1),.bool v14.2]) (R2 e14) ⟨rfl,?_⟩);refine A0.op rfl rfl (A0.op rfl rfl (A0.op rfl rfl ?_));refine A0.chnB rfl rfl (.here (.rx rfl) (.here (.rx rfl) (.here (.rx rfl) (.here (.cl rfl rfl (A7.y (r':=.tup [.agg (A6 false v14.1),.bool v14.2]) (R2 e14) ⟨rfl,rfl⟩)) (.here (.rx rfl) (.here (.rx (T5 (off':=2) B3 rfl rfl e12 rfl rfl)) (.here (.rx rfl) (.here (.rx rfl) (.here (.rx rfl) (.here (.rx (T5 (off':=0) B3 rfl rfl e12 rfl rfl)) (.here (.rx rfl) (.here (.rx rfl) (.here (.rx rfl) (.here (.rx rfl) (.here (.rx rfl) .nil))))))))))))))) ?_;refine A0.chnB rfl rfl (.here (.rx rfl) (.skip rfl (.skip rfl (.skip rfl (.skip rfl (.skip rfl (.skip rfl (.skip rfl (.skip rfl (.skip rfl (.skip rfl (.skip rfl (.skip rfl (.skip rfl (.skip rfl .nil))))))))))))))) ?_;refine A0.op rfl rfl (A0.done ?_);refine RW.kp [4,6,8,11,14,15,17,18] [(4,.ptr 1 0),(6,.ptr 2 0),(8,.ptr 3 0),(11,.ptr 11 0),(14,.ptr 10 ((w64 ((v9.Used.length:Int) - 1)).toNat*4)),(15,.str v13.1),(17,.ptr 13 0),(18,.bool v14.2)] [some ⟨A9 false x0,0⟩,some ⟨A8 false x1,0⟩,some ⟨[.nils,.nils,.j 0,.nils,.j 0,.j 0,.j 0,.j 0],0⟩,some ⟨B6 5 6 7 v1,0⟩,some ⟨[.j v12.Gen,.j v3.1.Seq,.str v3.1.Body],0⟩,some ⟨fl (encS true) v1.Disk.Sectors,1⟩,some ⟨fl (A1 true) v1.Disk.Cache,2⟩,some ⟨fl (A3 true) v1.Used,4⟩,some ⟨fl (encS true) v9.Disk.Sectors,1⟩,some ⟨fl (A1 true) v9.Disk.Cache,2⟩,some ⟨fl (A3 true) (v9.Used.take (w64 ((v9.Used.length:Int) - 1)).toNat)++((H4 12 v12)++fl (A3 true) (v9.Used.drop ((w64 ((v9.Used.length:Int) - 1)).toNat+1))),4⟩,some ⟨B6 8 9 10 v9,0⟩,some ⟨fl (A8 true) v12.Items,9⟩,some ⟨A6 false v14.1,0⟩] rfl rfl ?_;refine RW.seq (RW.sf 2 rfl ?_)
    cases hb:(!v14.2)
    ·have h27:=A5 h26 hb;refine RW.cond_f rfl (RW.skip (RW.sr 1 rfl ?_));obtain ⟨v15,e15,h28⟩:=A2 h27;refine rl.call rfl rfl rfl (A7.z (r':=.agg (C3 14 15 v15)) (H':=[some ⟨A9 false x0,0⟩,some ⟨A8 false x1,0⟩,some ⟨[.nils,.nils,.j 0,.nils,.j 0,.j 0,.j 0,.j 0],0⟩,some ⟨B6 5 6 7 v1,0⟩,some ⟨[.j v12.Gen,.j v3.1.Seq,.str v3.1.Body],0⟩,some ⟨fl (encS true) v1.Disk.Sectors,1⟩,some ⟨fl (A1 true) v1.Disk.Cache,2⟩,some ⟨fl (A3 true) v1.Used,4⟩,some ⟨fl (encS true) v9.Disk.Sectors,1⟩,some ⟨fl (A1 true) v9.Disk.Cache,2⟩,some ⟨fl (A3 true) (v9.Used.take (w64 ((v9.Used.length:Int) - 1)).toNat)++((H4 12 v12)++fl (A3 true) (v9.Used.drop ((w64 ((v9.Used.length:Int) - 1)).toNat+1))),4⟩,some ⟨B6 8 9 10 v9,0⟩,some ⟨fl (A8 true) v12.Items,9⟩,some ⟨A6 false v14.1,0⟩,some ⟨fl (encS true) v15.Sectors,1⟩,some ⟨fl (A1 true) v15.Cache,2⟩]) (Eh e15) ?_);refine rl.f 2 rfl (RW.sr 3 rfl ?_);refine rl.op (T5 (off':=2) B3 rfl rfl e12 rfl rfl) ?_;refine rl.run 5 rfl ?_;refine rl.op0 (Xn (off':=2) (vs':=[.j v12.No,.j v12.Gen,.j (w64 (v12.End+(v13.1.length:Int))),.sl 12 0 v12.Items.length]) B3 e12 rfl rfl rfl rfl rfl rfl rfl rfl rfl) ?_;refine rl.done ?_;refine RW.kp [4,6,11,14] [(4,.ptr 1 0),(6,.ptr 2 0),(11,.ptr 11 0),(14,.ptr 10 ((w64 ((v9.Used.length:Int) - 1)).toNat*4))] [some ⟨A9 false x0,0⟩,some ⟨A8 false x1,0⟩,some ⟨[.nils,.nils,.j 0,.nils,.j 0,.j 0,.j 0,.j 0],0⟩,some ⟨B6 5 6 7 v1,0⟩,some ⟨[.j v12.Gen,.j v3.1.Seq,.str v3.1.Body],0⟩,some ⟨fl (encS true) v1.Disk.Sectors,1⟩,some ⟨fl (A1 true) v1.Disk.Cache,2⟩,some ⟨fl (A3 true) v1.Used,4⟩,some ⟨fl (encS true) v9.Disk.Sectors,1⟩,some ⟨fl (A1 true) v9.Disk.Cache,2⟩,some ⟨fl (A3 true) (v9.Used.take (w64 ((v9.Used.length:Int) - 1)).toNat)++([.j v12.No,.j v12.Gen,.j (w64 (v12.End+(v13.1.length:Int))),.sl 12 0 v12.Items.length]++fl (A3 true) (v9.Used.drop ((w64 ((v9.Used.length:Int) - 1)).toNat+1))),4⟩,some ⟨[.sl 14 0 v15.Sectors.length,.sl 15 0 v15.Cache.length,.j v9.Segs,.sl 10 0 v9.Used.length,.j v9.NextGen,.j v9.NextSeq,.j v9.Stamp,.j v9.NextValid],0⟩,some ⟨fl (A8 true) v12.Items,9⟩,some ⟨A6 false v14.1,0⟩,some ⟨fl (encS true) v15.Sectors,1⟩,some ⟨fl (A1 true) v15.Cache,2⟩] rfl rfl ?_
     refine RW.sdrw (A0.op rfl rfl (A0.op rfl rfl (A0.op rfl rfl (A0.op rfl rfl ?_))));refine A0.op rfl (T5 (off':=3) B3 rfl rfl e12 rfl rfl) ?_;refine A0.op rfl rfl ?_;refine A0.chnB rfl rfl (.skip rfl (.here (.rx (T5 (off':=3) B3 rfl rfl e12 rfl rfl)) (.here (.rx rfl) (.here (.rx rfl) (.here (.rx rfl) (.here (.rx rfl) .nil)))))) ?_;obtain ⟨v16,e16,h29⟩:=A2 h28;refine A0.chnB rfl (U2 rfl rfl (R6 (l:=v12.Items) (m:=[x1]) (o:=true) C2 rfl rfl (M0 (m:=[x1]) (o:=true) M9 rfl rfl) rfl (M9.fst _ _) e16)) (.skip rfl (.skip rfl (.skip rfl (.skip rfl (.skip rfl (.here (.rx rfl) .nil)))))) ?_;refine A0.op rfl rfl (A0.op rfl rfl ?_);refine A0.chn rfl (Xn (off':=3) (vs':=[.j v12.No,.j v12.Gen,.j (w64 (v12.End+(v13.1.length:Int))),.sl 17 0 v16.length]) B3 e12 rfl rfl rfl rfl rfl rfl rfl rfl rfl) ?_;refine A0.done ?_;refine RW.kp [4,6,11] [(4,.ptr 1 0),(6,.ptr 2 0),(11,.ptr 11 0)] [some ⟨A9 false x0,0⟩,some ⟨A8 false x1,0⟩,some ⟨[.nils,.nils,.j 0,.nils,.j 0,.j 0,.j 0,.j 0],0⟩,some ⟨B6 5 6 7 v1,0⟩,some ⟨[.j v12.Gen,.j v3.1.Seq,.str v3.1.Body],0⟩,some ⟨fl (encS true) v1.Disk.Sectors,1⟩,some ⟨fl (A1 true) v1.Disk.Cache,2⟩,some ⟨fl (A3 true) v1.Used,4⟩,some ⟨fl (encS true) v9.Disk.Sectors,1⟩,some ⟨fl (A1 true) v9.Disk.Cache,2⟩,some ⟨fl (A3 true) (v9.Used.take (w64 ((v9.Used.length:Int) - 1)).toNat)++([.j v12.No,.j v12.Gen,.j (w64 (v12.End+(v13.1.length:Int))),.sl 17 0 v16.length]++fl (A3 true) (v9.Used.drop ((w64 ((v9.Used.length:Int) - 1)).toNat+1))),4⟩,some ⟨[.sl 14 0 v15.Sectors.length,.sl 15 0 v15.Cache.length,.j v9.Segs,.sl 10 0 v9.Used.length,.j v9.NextGen,.j v9.NextSeq,.j v9.Stamp,.j v9.NextValid],0⟩,none,some ⟨A6 false v14.1,0⟩,some ⟨fl (encS true) v15.Sectors,1⟩,some ⟨fl (A1 true) v15.Cache,2⟩,some ⟨fl (A8 true) [x1],9⟩,some ⟨fl (A8 true) v16,9⟩] rfl rfl ?_;refine RW.sf 8 rfl (RW.sf 9 rfl ?_);refine RW.kp [6,11] [(6,.ptr 2 0),(11,.ptr 11 0)] [some ⟨A9 false x0,0⟩,some ⟨A8 false x1,0⟩,some ⟨[.nils,.nils,.j 0,.nils,.j 0,.j 0,.j 0,.j 0],0⟩,some ⟨B6 5 6 7 v1,0⟩,some ⟨[.j v12.Gen,.j v3.1.Seq,.str v3.1.Body],0⟩,some ⟨fl (encS true) v1.Disk.Sectors,1⟩,some ⟨fl (A1 true) v1.Disk.Cache,2⟩,some ⟨fl (A3 true) v1.Used,4⟩,some ⟨fl (encS true) v9.Disk.Sectors,1⟩,some ⟨fl (A1 true) v9.Disk.Cache,2⟩,some ⟨fl (A3 true) (v9.Used.take (w64 ((v9.Used.length:Int) - 1)).toNat)++([.j v12.No,.j v12.Gen,.j (w64 (v12.End+(v13.1.length:Int))),.sl 17 0 v16.length]++fl (A3 true) (v9.Used.drop ((w64 ((v9.Used.length:Int) - 1)).toNat+1))),4⟩,some ⟨[.sl 14 0 v15.Sectors.length,.sl 15 0 v15.Cache.length,.j v9.Segs,.sl 10 0 v9.Used.length,.j v9.NextGen,.j (if w64 (x1.Seq+1)>v9.NextSeq then w64 (x1.Seq+1) else v9.NextSeq),.j v9.Stamp,.j (if w64 (x1.Rec.Valid+1)>v9.NextValid then w64 (x1.Rec.Valid+1) else v9.NextValid)],0⟩,none,some ⟨A6 false v14.1,0⟩,some ⟨fl (encS true) v15.Sectors,1⟩,some ⟨fl (A1 true) v15.Cache,2⟩,some ⟨fl (A8 true) [x1],9⟩,some ⟨fl (A8 true) v16,9⟩] rfl rfl ?_
     refine RW.sf 3 rfl ?_
     refine RW.gh (Gh.absorb_rawq (b:=10) (j:=3) (m:=17) rfl rfl rfl (by decide) (by decide) rfl (C2.flen true _) (C2.fown _)) ?_
     obtain ⟨v17,e17,h30⟩:=A2 h29;refine RW.gh (Gh.blk (b:=10) rfl (Xo B3 e12 e17 rfl)) ?_;refine RW.ret ?_;cases h30
     exact RRet.m rfl (OutT.tup (.cons (OutL.agg (.cons (OutR.ownq ekS rfl rfl) rfl (.cons (OutR.ownq B4 rfl rfl) rfl (.i (.cons (OutR.ownq B3 rfl (W2 e17)) rfl (.i (.i (.i (.i .nil))))))))) (.cons .bool .nil)))
    ·have h31:=A4 h26 hb;refine RW.cond_t rfl (RW.sf 3 rfl ?_)
     refine RW.gh (Gh.absorb_rawq (b:=10) (j:=3) (m:=12) rfl rfl rfl (by decide) (by decide) rfl (C2.flen true _) (C2.fown _)) ?_
     refine RW.gh (Gh.blk (b:=10) rfl (Fc B3 e12).symm) ?_;refine RW.ret ?_;cases h31
     exact RRet.y
   ·have h32:=A4 h22 hb;refine A0.done (RW.cond_t rfl (RW.sr 2 rfl ?_));obtain ⟨v18,e18,h33⟩:=A2 h32;refine rl.call rfl rfl rfl (A7.z (r':=.tup [.agg (B6 12 13 14 v18.1),.bool v18.2]) (H':=[some ⟨A9 false x0,0⟩,some ⟨A8 false x1,0⟩,some ⟨[.nils,.nils,.j 0,.nils,.j 0,.j 0,.j 0,.j 0],0⟩,some ⟨B6 5 6 7 v1,0⟩,some ⟨B5 false v3.1,0⟩,some ⟨fl (encS true) v1.Disk.Sectors,1⟩,some ⟨fl (A1 true) v1.Disk.Cache,2⟩,some ⟨fl (A3 true) v1.Used,4⟩,some ⟨fl (encS true) v9.Disk.Sectors,1⟩,some ⟨fl (A1 true) v9.Disk.Cache,2⟩,some ⟨fl (A3 true) v9.Used,4⟩,some ⟨B6 8 9 10 v9,0⟩,some ⟨fl (encS true) v18.1.Disk.Sectors,1⟩,some ⟨fl (A1 true) v18.1.Disk.Cache,2⟩,some ⟨fl (A3 true) v18.1.Used,4⟩]) (Ju e18) ?_);refine rl.f 6 rfl ?_;refine RW.kp [4,6,8,9,11,12,13] [(4,.ptr 1 0),(6,.ptr 2 0),(8,.ptr 3 0),(9,.ptr 4 0),(11,.ptr 11 0),(12,.ptr 15 0),(13,.bool v18.2)] [some ⟨A9 false x0,0⟩,some ⟨A8 false x1,0⟩,some ⟨[.nils,.nils,.j 0,.nils,.j 0,.j 0,.j 0,.j 0],0⟩,some ⟨B6 5 6 7 v1,0⟩,some ⟨B5 false v3.1,0⟩,some ⟨fl (encS true) v1.Disk.Sectors,1⟩,some ⟨fl (A1 true) v1.Disk.Cache,2⟩,some ⟨fl (A3 true) v1.Used,4⟩,some ⟨fl (encS true) v9.Disk.Sectors,1⟩,some ⟨fl (A1 true) v9.Disk.Cache,2⟩,some ⟨fl (A3 true) v9.Used,4⟩,some ⟨B6 8 9 10 v9,0⟩,some ⟨fl (encS true) v18.1.Disk.Sectors,1⟩,some ⟨fl (A1 true) v18.1.Disk.Cache,2⟩,some ⟨fl (A3 true) v18.1.Used,4⟩,some ⟨B6 12 13 14 v18.1,0⟩] rfl rfl ?_;refine RW.seq (RW.sf 2 rfl ?_)
    cases hb:(!v18.2)
    ·have h34:=A5 h33 hb;refine RW.cond_f rfl (RW.skip (RW.reg (rl.f 2 rfl ?_)));obtain ⟨v19,e19,h35⟩:=A2 h34;refine RW.gh (Gh.blk (b:=14) rfl (Fc B3 e19)) ?_
     refine RW.gh (Gh.expose_raw (b:=14) (j:=3) rfl rfl (by decide) (C2.fown _)) ?_
     refine RW.sr 6 rfl ?_;refine rl.op (P9 rfl rfl rfl rfl e19) ?_;refine rl.f 1 rfl ?_;refine RW.kp [4,6,8,9,11,14] [(4,.ptr 1 0),(6,.ptr 2 0),(8,.ptr 3 0),(9,.ptr 4 0),(11,.ptr 11 0),(14,.ptr 14 ((w64 ((v18.1.Used.length:Int) - 1)).toNat*4))] [some ⟨A9 false x0,0⟩,some ⟨A8 false x1,0⟩,some ⟨[.nils,.nils,.j 0,.nils,.j 0,.j 0,.j 0,.j 0],0⟩,some ⟨B6 5 6 7 v1,0⟩,some ⟨B5 false v3.1,0⟩,some ⟨fl (encS true) v1.Disk.Sectors,1⟩,some ⟨fl (A1 true) v1.Disk.Cache,2⟩,some ⟨fl (A3 true) v1.Used,4⟩,some ⟨fl (encS true) v9.Disk.Sectors,1⟩,some ⟨fl (A1 true) v9.Disk.Cache,2⟩,some ⟨fl (A3 true) v9.Used,4⟩,some ⟨B6 12 13 14 v18.1,0⟩,some ⟨fl (encS true) v18.1.Disk.Sectors,1⟩,some ⟨fl (A1 true) v18.1.Disk.Cache,2⟩,some ⟨fl (A3 true) (v18.1.Used.take (w64 ((v18.1.Used.length:Int) - 1)).toNat)++((H4 16 v19)++fl (A3 true) (v18.1.Used.drop ((w64 ((v18.1.Used.length:Int) - 1)).toNat+1))),4⟩,some ⟨B6 12 13 14 v18.1,0⟩,some ⟨fl (A8 true) v19.Items,9⟩] rfl rfl ?_;refine RW.sr 3 rfl ?_;refine rl.op (T5 (off':=1) B3 rfl rfl e19 rfl rfl) ?_;refine rl.f 2 rfl (RW.sr 1 rfl ?_);obtain ⟨v20,e20,h36⟩:=A2 h35;refine rl.call rfl rfl rfl (A7.y (r':=.tup [.str v20.1,.bool v20.2]) (W3 e20) ?_);refine rl.f 5 rfl ?_;refine RW.kp [4,6,8,11,14,15] [(4,.ptr 1 0),(6,.ptr 2 0),(8,.ptr 3 0),(11,.ptr 11 0),(14,.ptr 14 ((w64 ((v18.1.Used.length:Int) - 1)).toNat*4)),(15,.str v20.1)] [some ⟨A9 false x0,0⟩,some ⟨A8 false x1,0⟩,some ⟨[.nils,.nils,.j 0,.nils,.j 0,.j 0,.j 0,.j 0],0⟩,some ⟨B6 5 6 7 v1,0⟩,some ⟨[.j v19.Gen,.j v3.1.Seq,.str v3.1.Body],0⟩,some ⟨fl (encS true) v1.Disk.Sectors,1⟩,some ⟨fl (A1 true) v1.Disk.Cache,2⟩,some ⟨fl (A3 true) v1.Used,4⟩,some ⟨fl (encS true) v9.Disk.Sectors,1⟩,some ⟨fl (A1 true) v9.Disk.Cache,2⟩,some ⟨fl (A3 true) v9.Used,4⟩,some ⟨B6 12 13 14 v18.1,0⟩,some ⟨fl (encS true) v18.1.Disk.Sectors,1⟩,some ⟨fl (A1 true) v18.1.Disk.Cache,2⟩,some ⟨fl (A3 true) (v18.1.Used.take (w64 ((v18.1.Used.length:Int) - 1)).toNat)++((H4 16 v19)++fl (A3 true) (v18.1.Used.drop ((w64 ((v18.1.Used.length:Int) - 1)).toNat+1))),4⟩,some ⟨B6 12 13 14 v18.1,0⟩,some ⟨fl (A8 true) v19.Items,9⟩] rfl rfl ?_
     refine RW.sdrw (A0.op rfl rfl (A0.op rfl rfl (A0.op rfl rfl (A0.op rfl rfl (A0.op rfl rfl ?_)))));refine A0.op rfl (T5 (off':=0) B3 rfl rfl e19 rfl rfl) ?_;refine A0.op rfl rfl (A0.op rfl rfl (A0.op rfl rfl ?_));refine A0.op rfl (T5 (off':=2) B3 rfl rfl e19 rfl rfl) ?_;refine A0.op rfl rfl ?_;obtain ⟨v21,e21,h37⟩:=A2 h36;refine A0.call rfl rfl rfl (A7.y (r':=.tup [.agg (A6 false v21.1),.bool v21.2]) (R2 e21) ⟨rfl,?_⟩);refine A0.op rfl rfl (A0.op rfl rfl (A0.op rfl rfl ?_));refine A0.chnB rfl rfl (.here (.rx rfl) (.here (.rx rfl) (.here (.rx rfl) (.here (.cl rfl rfl (A7.y (r':=.tup [.agg (A6 false v21.1),.bool v21.2]) (R2 e21) ⟨rfl,rfl⟩)) (.here (.rx rfl) (.here (.rx (T5 (off':=2) B3 rfl rfl e19 rfl rfl)) (.here (.rx rfl) (.here (.rx rfl) (.here (.rx rfl) (.here (.rx (T5 (off':=0) B3 rfl rfl e19 rfl rfl)) (.here (.rx rfl) (.here (.rx rfl) (.here (.rx rfl) (.here (.rx rfl) (.here (.rx rfl) .nil))))))))))))))) ?_;refine A0.chnB rfl rfl (.here (.rx rfl) (.skip rfl (.skip rfl (.skip rfl (.skip rfl (.skip rfl (.skip rfl (.skip rfl (.skip rfl (.skip rfl (.skip rfl (.skip rfl (.skip rfl (.skip rfl (.skip rfl .nil))))))))))))))) ?_;refine A0.op rfl rfl (A0.done ?_);refine RW.kp [4,6,8,11,14,15,17,18] [(4,.ptr 1 0),(6,.ptr 2 0),(8,.ptr 3 0),(11,.ptr 11 0),(14,.ptr 14 ((w64 ((v18.1.Used.length:Int) - 1)).toNat*4)),(15,.str v20.1),(17,.ptr 17 0),(18,.bool v21.2)] [some ⟨A9 false x0,0⟩,some ⟨A8 false x1,0⟩,some ⟨[.nils,.nils,.j 0,.nils,.j 0,.j 0,.j 0,.j 0],0⟩,some ⟨B6 5 6 7 v1,0⟩,some ⟨[.j v19.Gen,.j v3.1.Seq,.str v3.1.Body],0⟩,some ⟨fl (encS true) v1.Disk.Sectors,1⟩,some ⟨fl (A1 true) v1.Disk.Cache,2⟩,some ⟨fl (A3 true) v1.Used,4⟩,some ⟨fl (encS true) v9.Disk.Sectors,1⟩,some ⟨fl (A1 true) v9.Disk.Cache,2⟩,some ⟨fl (A3 true) v9.Used,4⟩,some ⟨B6 12 13 14 v18.1,0⟩,some ⟨fl (encS true) v18.1.Disk.Sectors,1⟩,some ⟨fl (A1 true) v18.1.Disk.Cache,2⟩,some ⟨fl (A3 true) (v18.1.Used.take (w64 ((v18.1.Used.length:Int) - 1)).toNat)++((H4 16 v19)++fl (A3 true) (v18.1.Used.drop ((w64 ((v18.1.Used.length:Int) - 1)).toNat+1))),4⟩,some ⟨B6 12 13 14 v18.1,0⟩,some ⟨fl (A8 true) v19.Items,9⟩,some ⟨A6 false v21.1,0⟩] rfl rfl ?_
     refine RW.seq (RW.sf 2 rfl ?_)
     cases hb:(!v21.2)
     ·have h38:=A5 h37 hb;refine RW.cond_f rfl (RW.skip (RW.sr 1 rfl ?_));obtain ⟨v22,e22,h39⟩:=A2 h38;refine rl.call rfl rfl rfl (A7.z (r':=.agg (C3 18 19 v22)) (H':=[some ⟨A9 false x0,0⟩,some ⟨A8 false x1,0⟩,some ⟨[.nils,.nils,.j 0,.nils,.j 0,.j 0,.j 0,.j 0],0⟩,some ⟨B6 5 6 7 v1,0⟩,some ⟨[.j v19.Gen,.j v3.1.Seq,.str v3.1.Body],0⟩,some ⟨fl (encS true) v1.Disk.Sectors,1⟩,some ⟨fl (A1 true) v1.Disk.Cache,2⟩,some ⟨fl (A3 true) v1.Used,4⟩,some ⟨fl (encS true) v9.Disk.Sectors,1⟩,some ⟨fl (A1 true) v9.Disk.Cache,2⟩,some ⟨fl (A3 true) v9.Used,4⟩,some ⟨B6 12 13 14 v18.1,0⟩,some ⟨fl (encS true) v18.1.Disk.Sectors,1⟩,some ⟨fl (A1 true) v18.1.Disk.Cache,2⟩,some ⟨fl (A3 true) (v18.1.Used.take (w64 ((v18.1.Used.length:Int) - 1)).toNat)++((H4 16 v19)++fl (A3 true) (v18.1.Used.drop ((w64 ((v18.1.Used.length:Int) - 1)).toNat+1))),4⟩,some ⟨B6 12 13 14 v18.1,0⟩,some ⟨fl (A8 true) v19.Items,9⟩,some ⟨A6 false v21.1,0⟩,some ⟨fl (encS true) v22.Sectors,1⟩,some ⟨fl (A1 true) v22.Cache,2⟩]) (Eh e22) ?_);refine rl.f 2 rfl (RW.sr 3 rfl ?_);refine rl.op (T5 (off':=2) B3 rfl rfl e19 rfl rfl) ?_;refine rl.run 5 rfl ?_;refine rl.op0 (Xn (off':=2) (vs':=[.j v19.No,.j v19.Gen,.j (w64 (v19.End+(v20.1.length:Int))),.sl 16 0 v19.Items.length]) B3 e19 rfl rfl rfl rfl rfl rfl rfl rfl rfl) ?_;refine rl.done ?_;refine RW.kp [4,6,11,14] [(4,.ptr 1 0),(6,.ptr 2 0),(11,.ptr 11 0),(14,.ptr 14 ((w64 ((v18.1.Used.length:Int) - 1)).toNat*4))] [some ⟨A9 false x0,0⟩,some ⟨A8 false x1,0⟩,some ⟨[.nils,.nils,.j 0,.nils,.j 0,.j 0,.j 0,.j 0],0⟩,some ⟨B6 5 6 7 v1,0⟩,some ⟨[.j v19.Gen,.j v3.1.Seq,.str v3.1.Body],0⟩,some ⟨fl (encS true) v1.Disk.Sectors,1⟩,some ⟨fl (A1 true) v1.Disk.Cache,2⟩,some ⟨fl (A3 true) v1.Used,4⟩,some ⟨fl (encS true) v9.Disk.Sectors,1⟩,some ⟨fl (A1 true) v9.Disk.Cache,2⟩,some ⟨fl (A3 true) v9.Used,4⟩,some ⟨[.sl 18 0 v22.Sectors.length,.sl 19 0 v22.Cache.length,.j v18.1.Segs,.sl 14 0 v18.1.Used.length,.j v18.1.NextGen,.j v18.1.NextSeq,.j v18.1.Stamp,.j v18.1.NextValid],0⟩,some ⟨fl (encS true) v18.1.Disk.Sectors,1⟩,some ⟨fl (A1 true) v18.1.Disk.Cache,2⟩,some ⟨fl (A3 true) (v18.1.Used.take (w64 ((v18.1.Used.length:Int) - 1)).toNat)++([.j v19.No,.j v19.Gen,.j (w64 (v19.End+(v20.1.length:Int))),.sl 16 0 v19.Items.length]++fl (A3 true) (v18.1.Used.drop ((w64 ((v18.1.Used.length:Int) - 1)).toNat+1))),4⟩,some ⟨B6 12 13 14 v18.1,0⟩,some ⟨fl (A8 true) v19.Items,9⟩,some ⟨A6 false v21.1,0⟩,some ⟨fl (encS true) v22.Sectors,1⟩,some ⟨fl (A1 true) v22.Cache,2⟩] rfl rfl ?_
      refine RW.sdrw (A0.op rfl rfl (A0.op rfl rfl (A0.op rfl rfl (A0.op rfl rfl ?_))));refine A0.op rfl (T5 (off':=3) B3 rfl rfl e19 rfl rfl) ?_;refine A0.op rfl rfl ?_;refine A0.chnB rfl rfl (.skip rfl (.here (.rx (T5 (off':=3) B3 rfl rfl e19 rfl rfl)) (.here (.rx rfl) (.here (.rx rfl) (.here (.rx rfl) (.here (.rx rfl) .nil)))))) ?_;obtain ⟨v23,e23,h40⟩:=A2 h39;refine A0.chnB rfl (U2 rfl rfl (R6 (l:=v19.Items) (m:=[x1]) (o:=true) C2 rfl rfl (M0 (m:=[x1]) (o:=true) M9 rfl rfl) rfl (M9.fst _ _) e23)) (.skip rfl (.skip rfl (.skip rfl (.skip rfl (.skip rfl (.here (.rx rfl) .nil)))))) ?_;refine A0.op rfl rfl (A0.op rfl rfl ?_);refine A0.chn rfl (Xn (off':=3) (vs':=[.j v19.No,.j v19.Gen,.j (w64 (v19.End+(v20.1.length:Int))),.sl 21 0 v23.length]) B3 e19 rfl rfl rfl rfl rfl rfl rfl rfl rfl) ?_;refine A0.done ?_;refine RW.kp [4,6,11] [(4,.ptr 1 0),(6,.ptr 2 0),(11,.ptr 11 0)] [some ⟨A9 false x0,0⟩,some ⟨A8 false x1,0⟩,some ⟨[.nils,.nils,.j 0,.nils,.j 0,.j 0,.j 0,.j 0],0⟩,some ⟨B6 5 6 7 v1,0⟩,some ⟨[.j v19.Gen,.j v3.1.Seq,.str v3.1.Body],0⟩,some ⟨fl (encS true) v1.Disk.Sectors,1⟩,some ⟨fl (A1 true) v1.Disk.Cache,2⟩,some ⟨fl (A3 true) v1.Used,4⟩,some ⟨fl (encS true) v9.Disk.Sectors,1⟩,some ⟨fl (A1 true) v9.Disk.Cache,2⟩,some ⟨fl (A3 true) v9.Used,4⟩,some ⟨[.sl 18 0 v22.Sectors.length,.sl 19 0 v22.Cache.length,.j v18.1.Segs,.sl 14 0 v18.1.Used.length,.j v18.1.NextGen,.j v18.1.NextSeq,.j v18.1.Stamp,.j v18.1.NextValid],0⟩,some ⟨fl (encS true) v18.1.Disk.Sectors,1⟩,some ⟨fl (A1 true) v18.1.Disk.Cache,2⟩,some ⟨fl (A3 true) (v18.1.Used.take (w64 ((v18.1.Used.length:Int) - 1)).toNat)++([.j v19.No,.j v19.Gen,.j (w64 (v19.End+(v20.1.length:Int))),.sl 21 0 v23.length]++fl (A3 true) (v18.1.Used.drop ((w64 ((v18.1.Used.length:Int) - 1)).toNat+1))),4⟩,some ⟨B6 12 13 14 v18.1,0⟩,none,some ⟨A6 false v21.1,0⟩,some ⟨fl (encS true) v22.Sectors,1⟩,some ⟨fl (A1 true) v22.Cache,2⟩,some ⟨fl (A8 true) [x1],9⟩,some ⟨fl (A8 true) v23,9⟩] rfl rfl ?_;refine RW.sf 8 rfl (RW.sf 9 rfl ?_);refine RW.kp [6,11] [(6,.ptr 2 0),(11,.ptr 11 0)] [some ⟨A9 false x0,0⟩,some ⟨A8 false x1,0⟩,some ⟨[.nils,.nils,.j 0,.nils,.j 0,.j 0,.j 0,.j 0],0⟩,some ⟨B6 5 6 7 v1,0⟩,some ⟨[.j v19.Gen,.j v3.1.Seq,.str v3.1.Body],0⟩,some ⟨fl (encS true) v1.Disk.Sectors,1⟩,some ⟨fl (A1 true) v1.Disk.Cache,2⟩,some ⟨fl (A3 true) v1.Used,4⟩,some ⟨fl (encS true) v9.Disk.Sectors,1⟩,some ⟨fl (A1 true) v9.Disk.Cache,2⟩,some ⟨fl (A3 true) v9.Used,4⟩,some ⟨[.sl 18 0 v22.Sectors.length,.sl 19 0 v22.Cache.length,.j v18.1.Segs,.sl 14 0 v18.1.Used.length,.j v18.1.NextGen,.j (if w64 (x1.Seq+1)>v18.1.NextSeq then w64 (x1.Seq+1) else v18.1.NextSeq),.j v18.1.Stamp,.j (if w64 (x1.Rec.Valid+1)>v18.1.NextValid then w64 (x1.Rec.Valid+1) else v18.1.NextValid)],0⟩,some ⟨fl (encS true) v18.1.Disk.Sectors,1⟩,some ⟨fl (A1 true) v18.1.Disk.Cache,2⟩,some ⟨fl (A3 true) (v18.1.Used.take (w64 ((v18.1.Used.length:Int) - 1)).toNat)++([.j v19.No,.j v19.Gen,.j (w64 (v19.End+(v20.1.length:Int))),.sl 21 0 v23.length]++fl (A3 true) (v18.1.Used.drop ((w64 ((v18.1.Used.length:Int) - 1)).toNat+1))),4⟩,some ⟨B6 12 13 14 v18.1,0⟩,none,some ⟨A6 false v21.1,0⟩,some ⟨fl (encS true) v22.Sectors,1⟩,some ⟨fl (A1 true) v22.Cache,2⟩,some ⟨fl (A8 true) [x1],9⟩,some ⟨fl (A8 true) v23,9⟩] rfl rfl ?_
      refine RW.sf 3 rfl ?_
      refine RW.gh (Gh.absorb_rawq (b:=14) (j:=3) (m:=21) rfl rfl rfl (by decide) (by decide) rfl (C2.flen true _) (C2.fown _)) ?_
      obtain ⟨v24,e24,h41⟩:=A2 h40;refine RW.gh (Gh.blk (b:=14) rfl (Xo B3 e19 e24 rfl)) ?_;refine RW.ret ?_;cases h41
      exact RRet.m rfl (OutT.tup (.cons (OutL.agg (.cons (OutR.ownq ekS rfl rfl) rfl (.cons (OutR.ownq B4 rfl rfl) rfl (.i (.cons (OutR.ownq B3 rfl (W2 e24)) rfl (.i (.i (.i (.i .nil))))))))) (.cons .bool .nil)))
     ·have h42:=A4 h37 hb;refine RW.cond_t rfl (RW.sf 3 rfl ?_)
      refine RW.gh (Gh.absorb_rawq (b:=14) (j:=3) (m:=16) rfl rfl rfl (by decide) (by decide) rfl (C2.flen true _) (C2.fown _)) ?_
      refine RW.gh (Gh.blk (b:=14) rfl (Fc B3 e19).symm) ?_;refine RW.ret ?_;cases h42
      exact RRet.y
    ·have h43:=A4 h33 hb;refine RW.cond_t rfl (RW.sf 3 rfl (RW.ret ?_));cases h43
     exact RRet.y
  ·have h44:=A4 h4 hb;refine RW.cond_t rfl (RW.sf 3 rfl (RW.ret ?_));cases h44
   exact RRet.y
theorem Xh {x0:TDisk} {r:Int} (hF:Gb x0=some r):B2 Tryz.prog 90 [.agg (A6 false x0)] (.j r):=by
 refine B2.q A0t ?_;unfold Gb at hF;refine RW.sf 2 rfl (RW.sf 6 rfl (RW.seq (RW.sr 1 rfl ?_)));obtain ⟨v1,e1,h1⟩:=A2 hF;refine rl.call rfl rfl rfl (A7.y (r':=.bool v1) (B8 e1) ?_)
 cases hb:v1
 ·have h2:=A5 h1 hb;refine rl.f 1 rfl (RW.cond_t rfl (RW.sf 1 rfl ?_));refine RW.kp [2] [(2,.j 0)] [some ⟨A6 false x0,0⟩] rfl rfl ?_;refine RW.ret ?_;cases h2
  exact RRet.y
 ·have h3:=A4 h1 hb;refine rl.f 1 rfl (RW.cond_f rfl (RW.skip (RW.sf 2 rfl ?_)));refine RW.kp [2] [(2,.j (w64 (Int.tdiv (w64 ((x0.Sectors.length:Int) - 8)) 8)))] [some ⟨A6 false x0,0⟩] rfl rfl ?_;refine RW.ret ?_;cases h3
  exact RRet.y
theorem Ph {x0:TDisk} {x1:Int} {x2:Int} {r:(List UInt8)×Bool} (hF:Y2 x0 x1 x2=some r):B2 Tryz.prog 188 [.agg (A6 false x0),.j x1,.j x2] (.tup [.str r.1,.bool r.2]):=by
 refine B2.q Qx ?_;unfold Y2 at hF;refine RW.sf 3 rfl (RW.seq (RW.sr 1 rfl ?_));obtain ⟨v1,e1,h1⟩:=A2 hF;refine rl.call rfl rfl rfl (A7.y (r':=.bool v1) (B8 e1) ?_)
 cases hb:v1
 ·have h2:=A5 h1 hb;refine rl.f 1 rfl (RW.cond_t rfl (RW.sf 2 rfl (RW.ret ?_)));cases h2
  exact RRet.y
 ·have h3:=A4 h1 hb;refine rl.f 1 rfl (RW.cond_f rfl (RW.skip (RW.sf 1 rfl (RW.seq (RW.sf 1 rfl ?_)))));obtain ⟨y7,ey7,h5⟩:=A2 h3
  refine RW.cutq (σ:=(List UInt8)) (fun y3=>[(8,.str y3)]) (fun y3=>[]) (fun y=>y7=.inr y) gg ?_ ?_
  ·refine RW.blk ?_
   refine RW.iter (σ:=(List UInt8)×Int) ey7 (fun s2=>[(1,.j x1),(2,.j x2),(3,.ptr 0 0),(8,.str s2.1),(9,.j s2.2)]) (fun s2=>[some ⟨A6 false x0,0⟩]) (Gh.y0 [0]) (fun s2 B o hS4 hB4 hE4=>?_)
   unfold T3 at hS4;refine RW.seq (RW.sr 2 rfl ?_)
   refine rl.gen rfl rfl fun b hb=>?_
   cases b
   ·have h6:=A5 hS4 hb;refine rl.done (RW.cond_f rfl (RW.exit (C9 ?_)));cases h6
    exact ⟨_,(hE4 _ rfl).symm,(Gh.y0 [])⟩
   ·have h7:=A4 hS4 hb;refine rl.done (RW.cond_t rfl (RW.skip (RW.seq (RW.blk (RW.seq (RW.seq ?_))))));obtain ⟨y4,ey4,h8⟩:=A2 h7
    refine RW.cutq (σ:=Bool) (fun y4=>[(1,.j x1),(2,.j x2),(3,.ptr 0 0),(8,.str s2.1),(9,.j s2.2),(28,.bool y4)]) (fun y4=>[some ⟨A6 false x0,0⟩]) (fun y=>y4=y) gg ?_ ?_
    ·refine RW.reg ?_;refine rl.run 1 rfl ?_
     refine rl.gen rfl rfl fun b hb=>?_
     cases b
     ·have h9:=A5 ey4 hb;refine rl.run 5 rfl ?_
      refine rl.gen rfl rfl fun b hb=>?_
      cases b
      ·have h10:=A5 h9 hb;refine rl.f 1 rfl ?_;cases h10
       exact ⟨_,rfl,(Gh.y0 [0])⟩
      ·have h11:=A4 h9 hb;refine rl.f 1 rfl ?_;cases h11
       exact ⟨_,rfl,(Gh.y0 [0])⟩
     ·have h12:=A4 ey4 hb;refine rl.f 7 rfl ?_;cases h12
      exact ⟨_,rfl,(Gh.y0 [0])⟩
    ·intro y hC
     subst hC
     cases hb:y4
     ·have h13:=A5 h8 hb;refine RW.cond_f rfl (RW.skip (RW.sr 4 rfl ?_));obtain ⟨v5,e5,h14⟩:=A2 h13;refine rl.call rfl rfl rfl (A7.y (r':=.tup [.str v5.1,.bool v5.2]) (Dv e5) ?_);refine rl.f 5 rfl (RW.seq (RW.sf 2 rfl ?_));refine RW.kp [1,2,3,8,9,10,38] [(1,.j x1),(2,.j x2),(3,.ptr 0 0),(8,.str s2.1),(9,.j s2.2),(10,.str v5.1),(38,.bool (!v5.2))] [some ⟨A6 false x0,0⟩] rfl rfl ?_
      cases hb:(!v5.2)
      ·have h15:=A5 h14 hb;refine RW.cond_f rfl (RW.skip (RW.reg (rl.run 2 rfl ?_)));obtain ⟨v6,e6,h16⟩:=A2 h15;refine rl.op (T4 rfl rfl e6) ?_;refine rl.f 1 rfl (RW.reg (rl.f 3 rfl ?_));cases h16
       exact hB4 _ rfl _ _ (Gh.y0 [0])
      ·have h17:=A4 h14 hb;refine RW.cond_t rfl (RW.sf 2 rfl (RW.ret ?_));cases h17;have h18:=elimL h5 (hE4 _ rfl);cases h18
       exact RRet.y
     ·have h19:=A4 h8 hb;refine RW.cond_t rfl (RW.sf 2 rfl (RW.ret ?_));cases h19;have h20:=elimL h5 (hE4 _ rfl);cases h20
      exact RRet.y
  ·intro y3 hC
   have h5:=elimR h5 hC;refine RW.sf 3 rfl (RW.ret ?_);cases h5
   exact RRet.y
theorem Kg {x0:TDisk} {x1:Int} {r:List UInt8} (hF:Ah x0 x1=some r):B2 Tryz.prog 173 [.agg (A6 false x0),.j x1] (.str r):=by
 refine B2.q Yv ?_;unfold Ah at hF;refine RW.sf 2 rfl (RW.seq (RW.sr 1 rfl ?_));obtain ⟨v1,e1,h1⟩:=A2 hF;refine rl.call rfl rfl rfl (A7.y (r':=.bool v1) (B8 e1) ?_)
 cases hb:v1
 ·have h2:=A5 h1 hb;refine rl.f 1 rfl (RW.cond_t rfl (RW.sf 1 rfl (RW.ret ?_)));cases h2
  exact RRet.y
 ·have h3:=A4 h1 hb;refine rl.f 1 rfl (RW.cond_f rfl (RW.skip (RW.sdrw (A0.op rfl rfl (A0.op rfl rfl ?_)))));obtain ⟨v2,e2,h4⟩:=A2 h3;refine A0.call rfl rfl rfl (A7.y (r':=.j v2) (Hz e2) ⟨rfl,?_⟩);obtain ⟨v3,e3,h5⟩:=A2 h4;refine A0.call rfl rfl rfl (A7.y (r':=.tup [.str v3.1,.bool v3.2]) (Ph e3) ⟨rfl,?_⟩);refine A0.op rfl rfl (A0.op rfl rfl (A0.op rfl rfl (A0.op rfl rfl (A0.op rfl rfl (A0.done ?_)))));refine RW.kp [5] [(5,.str v3.1)] [some ⟨A6 false x0,0⟩] rfl rfl ?_;refine RW.sf 2 rfl (RW.ret ?_);cases h5
  exact RRet.y
theorem De {x0:List UInt8} {x1:Int} {r:Int×Int×Bool} (hF:Q5 x0 x1=some r):B2 Tryz.prog 156 [.str x0,.j x1] (.tup [.j r.1,.j r.2.1,.bool r.2.2]):=by
 refine B2.q Yq ?_;unfold Q5 at hF;refine RW.sf 3 rfl (RW.seq (RW.sr 3 rfl ?_));obtain ⟨v1,e1,h1⟩:=A2 hF;refine rl.call rfl rfl rfl (A7.y (r':=.bool v1) (B8 e1) ?_)
 cases hb:v1
 ·have h2:=A5 h1 hb;refine rl.f 1 rfl (RW.cond_t rfl (RW.sf 3 rfl (RW.ret ?_)));cases h2
  exact RRet.y
 ·have h3:=A4 h1 hb;refine rl.f 1 rfl (RW.cond_f rfl (RW.skip (RW.sf 1 rfl (RW.sf 1 rfl (RW.seq (RW.sreg ?_))))));refine rl.f 2 rfl ?_;obtain ⟨y10,ey10,h5⟩:=A2 h3
  refine RW.cutq (σ:=Unit) (fun y3=>[]) (fun y3=>[]) (fun y=>y10=.inr y) gg ?_ ?_
  ·refine RW.blk ?_
   refine RW.iter (σ:=Int×Int×Int) ey10 (fun s2=>[(0,.str x0),(1,.j x1),(7,.j s2.1),(8,.j s2.2.1),(9,.j s2.2.2)]) (fun s2=>[]) (Gh.y0 []) (fun s2 B o hS4 hB4 hE4=>?_)
   unfold P4 at hS4;refine RW.seq (RW.seq ?_);obtain ⟨y4,ey4,h6⟩:=A2 hS4
   refine RW.cutq (σ:=Bool) (fun y4=>[(0,.str x0),(1,.j x1),(7,.j s2.1),(8,.j s2.2.1),(9,.j s2.2.2),(25,.bool y4)]) (fun y4=>[]) (fun y=>y4=y) gg ?_ ?_
   ·refine RW.reg ?_;refine rl.run 3 rfl ?_
    refine rl.gen rfl rfl fun b hb=>?_
    cases b
    ·have h7:=A5 ey4 hb;refine rl.f 6 rfl ?_;cases h7
     exact ⟨_,rfl,(Gh.y0 [])⟩
    ·have h8:=A4 ey4 hb;refine rl.run 4 rfl ?_
     refine rl.gen rfl rfl fun b hb=>?_
     cases b
     ·have h9:=A5 h8 hb;refine rl.f 1 rfl ?_;cases h9
      exact ⟨_,rfl,(Gh.y0 [])⟩
     ·have h10:=A4 h8 hb;refine rl.f 1 rfl ?_;cases h10
      exact ⟨_,rfl,(Gh.y0 [])⟩
   ·intro y hC
    subst hC
    cases hb:y4
    ·have h11:=A5 h6 hb;refine RW.cond_f rfl (RW.exit (C9 ?_));cases h11
     exact ⟨_,(hE4 _ rfl).symm,(Gh.y0 [])⟩
    ·have h12:=A4 h6 hb;refine RW.cond_t rfl (RW.skip (RW.seq (RW.blk (RW.sr 3 rfl ?_))));obtain ⟨v5,e5,h13⟩:=A2 h12;refine rl.op (La rfl rfl e5) ?_;refine rl.f 6 rfl (RW.sf 3 rfl ?_);refine RW.kp [0,1,7,8,9] [(0,.str x0),(1,.j x1),(7,.j (w64 (s2.1+(w64 ((Int.tmod (w64 (v5.toNat:Int)) 128)*s2.2.1))))),(8,.j (w64 (s2.2.1*128))),(9,.j s2.2.2)] [] rfl rfl ?_;refine RW.sr 2 rfl ?_;obtain ⟨v6,e6,h14⟩:=A2 h13;refine rl.op (La rfl rfl e6) ?_
     refine rl.gen rfl rfl fun b hb=>?_
     cases b
     ·have h15:=A5 h14 hb;refine rl.done (RW.cond_f rfl (RW.skip (RW.reg (rl.f 3 rfl ?_))));cases h15
      exact hB4 _ rfl _ _ (Gh.y0 [])
     ·have h16:=A4 h14 hb;refine rl.done (RW.cond_t rfl (RW.seq (RW.seq ?_)));obtain ⟨y7,ey7,h17⟩:=A2 h16
      refine RW.cutq (σ:=Bool) (fun y7=>[(7,.j (w64 (s2.1+(w64 ((Int.tmod (w64 (v5.toNat:Int)) 128)*s2.2.1))))),(9,.j s2.2.2),(54,.bool y7)]) (fun y7=>[]) (fun y=>y7=y) gg ?_ ?_
      ·refine RW.drw ?_;refine A0.op rfl rfl ?_
       refine A0.gen rfl rfl fun b hb=>?_
       cases b
       ·have h18:=A5 ey7 hb;refine A0.op rfl rfl (A0.op rfl rfl ?_);obtain ⟨v8,e8,h19⟩:=A2 h18;refine A0.call rfl rfl rfl (A7.y (r':=.str v8) (D1 e8) ⟨rfl,?_⟩);refine A0.op rfl rfl (A0.op rfl rfl (A0.op rfl rfl (A0.op rfl rfl ?_)));obtain ⟨v9,e9,h20⟩:=A2 h19;refine A0.op rfl (Hk rfl rfl rfl Fw e9) ?_
        refine A0.gen rfl rfl fun b hb=>?_
        cases b
        ·have h21:=A5 h20 hb;refine A0.op rfl rfl (A0.done ?_);cases h21
         exact ⟨_,rfl,(Gh.y0 [])⟩
        ·have h22:=A4 h20 hb;refine A0.op rfl rfl (A0.done ?_);cases h22
         exact ⟨_,rfl,(Gh.y0 [])⟩
       ·have h23:=A4 ey7 hb;refine A0.op rfl rfl (A0.off rfl (A0.off rfl (A0.off rfl (A0.off rfl (A0.off rfl (A0.off rfl (A0.off rfl (A0.off rfl (A0.op rfl rfl (A0.done ?_))))))))));cases h23
        exact ⟨_,rfl,(Gh.y0 [])⟩
      ·intro y hC
       subst hC
       cases hb:y7
       ·have h24:=A5 h17 hb;refine RW.cond_f rfl (RW.skip (RW.sf 6 rfl (RW.ret ?_)));cases h24;have h25:=elimL h5 (hE4 _ rfl);cases h25
        exact RRet.y
       ·have h26:=A4 h17 hb;refine RW.cond_t rfl (RW.sf 3 rfl (RW.ret ?_));cases h26;have h27:=elimL h5 (hE4 _ rfl);cases h27
        exact RRet.y
  ·intro y3 hC
   have h5:=elimR h5 hC;refine RW.sf 3 rfl (RW.ret ?_);cases h5
   exact RRet.y
theorem Hv {x0:List UInt8} {x1:Int} {r:(List UInt8)×Int×Bool} (hF:U9 x0 x1=some r):B2 Tryz.prog 104 [.str x0,.j x1] (.tup [.str r.1,.j r.2.1,.bool r.2.2]):=by
 refine B2.q Vv ?_;unfold U9 at hF;refine RW.sf 3 rfl (RW.sr 2 rfl ?_);obtain ⟨v1,e1,h1⟩:=A2 hF;refine rl.call rfl rfl rfl (A7.y (r':=.tup [.j v1.1,.j v1.2.1,.bool v1.2.2]) (De e1) ?_);refine rl.f 7 rfl ?_;refine RW.kp [0,7,8,9] [(0,.str x0),(7,.j v1.1),(8,.j v1.2.1),(9,.bool v1.2.2)] [] rfl rfl ?_;refine RW.seq (RW.seq ?_);obtain ⟨y2,ey2,h2⟩:=A2 h1
 refine RW.cutq (σ:=Bool) (fun y2=>[(0,.str x0),(7,.j v1.1),(8,.j v1.2.1),(30,.bool y2)]) (fun y2=>[]) (fun y=>y2=y) gg ?_ ?_
 ·refine RW.reg ?_;refine rl.run 3 rfl ?_
  cases hb:(!v1.2.2)
  ·have h3:=A5 ey2 hb;refine rl.run 1 rfl ?_
   refine rl.gen rfl rfl fun b hb=>?_
   cases b
   ·have h4:=A5 h3 hb;refine rl.run 7 rfl ?_
    refine rl.gen rfl rfl fun b hb=>?_
    cases b
    ·have h5:=A5 h4 hb;refine rl.f 1 rfl ?_;cases h5
     exact ⟨_,rfl,(Gh.y0 [])⟩
    ·have h6:=A4 h4 hb;refine rl.f 1 rfl ?_;cases h6
     exact ⟨_,rfl,(Gh.y0 [])⟩
   ·have h7:=A4 h3 hb;refine rl.f 9 rfl ?_;cases h7
    exact ⟨_,rfl,(Gh.y0 [])⟩
  ·have h8:=A4 ey2 hb;refine rl.f 11 rfl ?_;cases h8
   exact ⟨_,rfl,(Gh.y0 [])⟩
 ·intro y hC
  subst hC
  cases hb:y2
  ·have h9:=A5 h2 hb;refine RW.cond_f rfl (RW.skip (RW.sr 5 rfl ?_));obtain ⟨v3,e3,h10⟩:=A2 h9;refine rl.op (Hk rfl rfl rfl Fw e3) ?_;refine rl.f 6 rfl ?_;refine RW.kp [4,5,6] [(4,.str v3),(5,.j (w64 (v1.2.1+v1.1))),(6,.bool true)] [] rfl rfl ?_;refine RW.ret ?_;cases h10
   exact RRet.y
  ·have h11:=A4 h2 hb;refine RW.cond_t rfl (RW.sf 3 rfl (RW.ret ?_));cases h11
   exact RRet.y
theorem Hu {x0:List UInt8} {x1:Int} {r:TFrame×Int×Bool} (hF:U7 x0 x1=some r):B2 Tryz.prog 174 [.str x0,.j x1] (.tup [.agg (B5 true r.1),.j r.2.1,.bool r.2.2]):=by
 refine B2.q Vd ?_;unfold U7 at hF;refine RW.sf 3 rfl (RW.sr 2 rfl ?_);obtain ⟨v1,e1,h1⟩:=A2 hF;refine rl.call rfl rfl rfl (A7.y (r':=.tup [.j v1.1,.j v1.2.1,.bool v1.2.2]) (De e1) ?_);refine rl.f 7 rfl (RW.sr 2 rfl ?_);obtain ⟨v2,e2,h2⟩:=A2 h1;refine rl.call rfl rfl rfl (A7.y (r':=.tup [.j v2.1,.j v2.2.1,.bool v2.2.2]) (De e2) ?_);refine rl.f 7 rfl ?_;refine RW.kp [0,1,4,7,9,10,11,12] [(0,.str x0),(1,.j x1),(4,.ptr 0 0),(7,.j v1.1),(9,.bool v1.2.2),(10,.j v2.1),(11,.j v2.2.1),(12,.bool v2.2.2)] [some ⟨[.j 0,.j 0,.str []],0⟩] rfl rfl ?_;refine RW.sr 2 rfl ?_;obtain ⟨v3,e3,h3⟩:=A2 h2;refine rl.call rfl rfl rfl (A7.y (r':=.tup [.str v3.1,.j v3.2.1,.bool v3.2.2]) (Hv e3) ?_);refine rl.f 7 rfl (RW.sf 6 rfl ?_);refine RW.kp [0,1,4,9,12,14,15,16] [(0,.str x0),(1,.j x1),(4,.ptr 0 0),(9,.bool v1.2.2),(12,.bool v2.2.2),(14,.j v3.2.1),(15,.bool v3.2.2),(16,.ptr 1 0)] [some ⟨[.j 0,.j 0,.str []],0⟩,some ⟨[.j v1.1,.j v2.1,.str v3.1],0⟩] rfl rfl ?_;refine RW.seq (RW.seq ?_);obtain ⟨y4,ey4,h4⟩:=A2 h3
 refine RW.cutq (σ:=Bool) (fun y4=>[(0,.str x0),(1,.j x1),(4,.ptr 0 0),(14,.j v3.2.1),(16,.ptr 1 0),(64,.bool y4)]) (fun y4=>[some ⟨[.j 0,.j 0,.str []],0⟩,some ⟨[.j v1.1,.j v2.1,.str v3.1],0⟩]) (fun y=>y4=y) gg ?_ ?_
 ·refine RW.reg ?_;refine rl.run 3 rfl ?_
  cases hb:(!v1.2.2)
  ·have h5:=A5 ey4 hb;refine rl.run 4 rfl ?_
   cases hb:(!v2.2.2)
   ·have h6:=A5 h5 hb;refine rl.run 4 rfl ?_
    cases hb:(!v3.2.2)
    ·have h7:=A5 h6 hb;refine rl.run 4 rfl ?_
     refine rl.gen rfl rfl fun b hb=>?_
     cases b
     ·have h8:=A5 h7 hb;refine rl.run 3 rfl ?_
      refine rl.gen rfl rfl fun b hb=>?_
      cases b
      ·have h9:=A5 h8 hb;refine rl.f 1 rfl ?_;cases h9
       exact ⟨_,rfl,(Gh.y0 [0,1])⟩
      ·have h10:=A4 h8 hb;refine rl.f 1 rfl ?_;cases h10
       exact ⟨_,rfl,(Gh.y0 [0,1])⟩
     ·have h11:=A4 h7 hb;refine rl.f 5 rfl ?_;cases h11
      exact ⟨_,rfl,(Gh.y0 [0,1])⟩
    ·have h12:=A4 h6 hb;refine rl.f 10 rfl ?_;cases h12
     exact ⟨_,rfl,(Gh.y0 [0,1])⟩
   ·have h13:=A4 h5 hb;refine rl.f 14 rfl ?_;cases h13
    exact ⟨_,rfl,(Gh.y0 [0,1])⟩
  ·have h14:=A4 ey4 hb;refine rl.f 18 rfl ?_;cases h14
   exact ⟨_,rfl,(Gh.y0 [0,1])⟩
 ·intro y hC
  subst hC
  cases hb:y4
  ·have h15:=A5 h4 hb;refine RW.cond_f rfl (RW.skip (RW.sr 1 rfl ?_));obtain ⟨v5,e5,h16⟩:=A2 h15;refine rl.call rfl rfl rfl (A7.y (r':=.tup [.str v5.1,.bool v5.2]) (W1 e5) ?_);refine rl.f 5 rfl (RW.seq (RW.seq ?_));obtain ⟨y6,ey6,h17⟩:=A2 h16
   refine RW.cutq (σ:=Bool) (fun y6=>[(4,.ptr 0 0),(14,.j v3.2.1),(16,.ptr 1 0),(81,.bool y6)]) (fun y6=>[some ⟨[.j 0,.j 0,.str []],0⟩,some ⟨[.j v1.1,.j v2.1,.str v3.1],0⟩]) (fun y=>y6=y) gg ?_ ?_
   ·refine RW.reg ?_;refine rl.run 3 rfl ?_
    cases hb:(!v5.2)
    ·have h18:=A5 ey6 hb;refine rl.run 5 rfl ?_;obtain ⟨v7,e7,h19⟩:=A2 h18;refine rl.gop rfl (Hk rfl rfl rfl Fw e7) ?_
     refine rl.gen rfl rfl fun b hb=>?_
     cases b
     ·have h20:=A5 h19 hb;refine rl.f 1 rfl ?_;cases h20
      exact ⟨_,rfl,(Gh.y0 [0,1])⟩
     ·have h21:=A4 h19 hb;refine rl.f 1 rfl ?_;cases h21
      exact ⟨_,rfl,(Gh.y0 [0,1])⟩
    ·have h22:=A4 ey6 hb;refine rl.f 8 rfl ?_;cases h22
     exact ⟨_,rfl,(Gh.y0 [0,1])⟩
   ·intro y hC
    subst hC
    cases hb:y6
    ·have h23:=A5 h17 hb;refine RW.cond_f rfl (RW.skip (RW.sf 6 rfl (RW.ret ?_)));cases h23
     exact RRet.y
    ·have h24:=A4 h17 hb;refine RW.cond_t rfl (RW.sf 4 rfl (RW.ret ?_));cases h24
     exact RRet.y
  ·have h25:=A4 h4 hb;refine RW.cond_t rfl (RW.sf 4 rfl (RW.ret ?_));cases h25
   exact RRet.y
theorem Lc {x0:TDisk} {x1:Int} {r:Int} (hF:Bp x0 x1=some r):B2 Tryz.prog 149 [.agg (A6 false x0),.j x1] (.j r):=by
 refine B2.q A0w ?_;unfold Bp at hF;refine RW.sf 2 rfl (RW.sr 2 rfl ?_);obtain ⟨v1,e1,h1⟩:=A2 hF;refine rl.call rfl rfl rfl (A7.y (r':=.str v1) (Kg e1) ?_);obtain ⟨v2,e2,h2⟩:=A2 h1;refine rl.call rfl rfl rfl (A7.y (r':=.tup [.agg (B5 false v2.1),.j v2.2.1,.bool v2.2.2]) (Hu e2) ?_);refine rl.f 8 rfl ?_;refine RW.kp [5,7] [(5,.ptr 1 0),(7,.bool v2.2.2)] [some ⟨A6 false x0,0⟩,some ⟨B5 false v2.1,0⟩] rfl rfl ?_;refine RW.seq (RW.seq ?_);obtain ⟨y3,ey3,h3⟩:=A2 h2
 refine RW.cutq (σ:=Bool) (fun y3=>[(5,.ptr 0 0),(22,.bool y3)]) (fun y3=>[some ⟨B5 false v2.1,0⟩]) (fun y=>y3=y) gg ?_ ?_
 ·refine RW.reg ?_;refine rl.run 3 rfl ?_
  cases hb:(!v2.2.2)
  ·have h4:=A5 ey3 hb;refine rl.run 2 rfl ?_
   refine rl.gen rfl rfl fun b hb=>?_
   cases b
   ·have h5:=A5 h4 hb;refine rl.f 1 rfl ?_;cases h5
    exact ⟨_,rfl,(Gh.y0 [1])⟩
   ·have h6:=A4 h4 hb;refine rl.f 1 rfl ?_;cases h6
    exact ⟨_,rfl,(Gh.y0 [1])⟩
  ·have h7:=A4 ey3 hb;refine rl.f 4 rfl ?_;cases h7
   exact ⟨_,rfl,(Gh.y0 [1])⟩
 ·intro y hC
  subst hC
  cases hb:y3
  ·have h8:=A5 h3 hb;refine RW.cond_f rfl (RW.skip (RW.sf 3 rfl (RW.ret ?_)));cases h8
   exact RRet.y
  ·have h9:=A4 h3 hb;refine RW.cond_t rfl (RW.sf 1 rfl (RW.ret ?_));cases h9
   exact RRet.y
theorem Pe {x0:List UInt8} {x1:Int} {r:(List TFrame)×Int} (hF:X7 x0 x1=some r):B2 Tryz.prog 172 [.str x0,.j x1] (.tup [.lst true 3 (fl (B5 true) r.1) r.1.length,.j r.2]):=by
 refine B2.q Rm ?_;unfold X7 at hF;refine RW.sf 2 rfl (RW.sf 2 rfl (RW.sf 1 rfl ?_));refine RW.gh (Gh.nil_t 6 3 rfl) ?_;obtain ⟨y6,ey6,h2⟩:=A2 hF
 refine RW.cutE (fun y2=>[]) (fun y2=>[]) (fun y=>y6=.inr y) ?_ ?_
 ·refine RW.blk ?_
  refine RW.iter (σ:=Int×(List TFrame)) ey6 (fun s1=>[(0,.str x0),(1,.j x1),(6,.sl 0 0 s1.2.length),(7,.j s1.1)]) (fun s1=>[some ⟨fl (B5 true) s1.2,3⟩]) (Gh.y0 [0]) (fun s1 B o hS1 hB1 hE1=>?_)
  unfold Y6 at hS1;refine RW.blk (RW.sr 2 rfl ?_);obtain ⟨v3,e3,h3⟩:=A2 hS1;refine rl.call rfl rfl rfl (A7.y (r':=.tup [.agg (B5 false v3.1),.j v3.2.1,.bool v3.2.2]) (Hu e3) ?_);refine rl.f 8 rfl (RW.seq (RW.seq ?_));obtain ⟨y4,ey4,h4⟩:=A2 h3
  refine RW.cutq (σ:=Bool) (fun y4=>[(0,.str x0),(1,.j x1),(6,.sl 0 0 s1.2.length),(7,.j s1.1),(8,.ptr 1 0),(9,.j v3.2.1),(26,.bool y4)]) (fun y4=>[some ⟨fl (B5 true) s1.2,3⟩,some ⟨B5 false v3.1,0⟩]) (fun y=>y4=y) gg ?_ ?_
  ·refine RW.reg ?_;refine rl.run 3 rfl ?_
   cases hb:(!v3.2.2)
   ·have h5:=A5 ey4 hb;refine rl.run 3 rfl ?_
    refine rl.gen rfl rfl fun b hb=>?_
    cases b
    ·have h6:=A5 h5 hb;refine rl.f 1 rfl ?_;cases h6
     exact ⟨_,rfl,(Gh.y0 [0,1])⟩
    ·have h7:=A4 h5 hb;refine rl.f 1 rfl ?_;cases h7
     exact ⟨_,rfl,(Gh.y0 [0,1])⟩
   ·have h8:=A4 ey4 hb;refine rl.f 5 rfl ?_;cases h8
    exact ⟨_,rfl,(Gh.y0 [0,1])⟩
  ·intro y hC
   subst hC
   cases hb:y4
   ·have h9:=A5 h4 hb;refine RW.cond_f rfl (RW.skip (RW.sr 3 rfl ?_));obtain ⟨v5,e5,h10⟩:=A2 h9;refine rl.op (U2 rfl rfl (R6 (l:=s1.2) (m:=[v3.1]) (o:=true) Fo rfl rfl (M0 (m:=[v3.1]) (o:=true) Fq rfl rfl) rfl (Fq.fst _ _) e5)) ?_;refine rl.f 1 rfl (RW.reg (rl.f 2 rfl ?_));cases h10
    exact hB1 _ rfl _ _ (Gh.y0 [3])
   ·have h11:=A4 h4 hb;refine RW.cond_t rfl (RW.sf 4 rfl (RW.ret ?_));cases h11;have h12:=elimL h2 (hE1 _ rfl);cases h12
    exact RRet.y
 ·exact fun y=>y.elim
theorem Qm {x0:TDisk} {x1:Int} {r:(List TFrame)×Int} (hF:Ak x0 x1=some r):B2 Tryz.prog 148 [.agg (A6 false x0),.j x1] (.tup [.lst true 3 (fl (B5 true) r.1) r.1.length,.j r.2]):=by
 refine B2.q Uu ?_;unfold Ak at hF;refine RW.sf 3 rfl (RW.sr 2 rfl ?_);obtain ⟨v1,e1,h1⟩:=A2 hF;refine rl.call rfl rfl rfl (A7.y (r':=.j v1) (Lc e1) ?_);refine rl.f 1 rfl (RW.seq (RW.sr 1 rfl ?_))
 refine rl.gen rfl rfl fun b hb=>?_
 cases b
 ·have h2:=A5 h1 hb;refine rl.done (RW.cond_f rfl (RW.skip (RW.sr 2 rfl ?_)));obtain ⟨v2,e2,h3⟩:=A2 h2;refine rl.call rfl rfl rfl (A7.y (r':=.str v2) (Kg e2) ?_);refine rl.run 1 rfl ?_;obtain ⟨v3,e3,h4⟩:=A2 h3;refine rl.call rfl rfl rfl (A7.y (r':=.tup [Ch v3.1,.j v3.2]) (Pe e3) ?_);refine rl.f 5 rfl ?_;refine RW.kp [7,8] [(7,Ch v3.1),(8,.j v3.2)] [some ⟨A6 false x0,0⟩] rfl rfl ?_;refine RW.sr 2 rfl ?_;obtain ⟨v4,e4,h5⟩:=A2 h4;refine rl.op (A9q Fo rfl rfl rfl Kn e4) ?_;obtain ⟨v5,e5,h6⟩:=A2 h5;refine rl.op (U2 rfl rfl (Hp (m:=v4) (o:=true) Fo Bq rfl (Fq.fst _ _) e5)) ?_;refine rl.f 3 rfl (RW.ret ?_);cases h6
  exact RRet.y
 ·have h7:=A4 h1 hb;refine rl.done (RW.cond_t rfl (RW.sf 3 rfl (RW.ret ?_)));cases h7
  exact RRet.y
theorem Cb {x0:TL06Cur} {r:Int×TL06Cur} (hF:J8 x0=some r):C5 Tryz.prog 0 106 [.ptr 0 0] [some ⟨[.str x0.mText,.j x0.mAt,.bool x0.mBad],0⟩] (.j r.1) [some ⟨[.str r.2.mText,.j r.2.mAt,.bool r.2.mBad],0⟩]:=by
 refine C5.q A0x ?_;unfold J8 at hF;refine RW.sf 1 rfl (RW.sdrw (A0.op rfl rfl (A0.op rfl rfl (A0.op rfl rfl (A0.op rfl rfl (A0.op rfl rfl (A0.op rfl rfl (A0.op rfl rfl (A0.op rfl rfl ?_)))))))));obtain ⟨v1,e1,h1⟩:=A2 hF;refine A0.call rfl rfl rfl (A7.y (r':=.tup [.j v1.1,.j v1.2.1,.bool v1.2.2]) (De e1) ⟨rfl,?_⟩);refine A0.op rfl rfl (A0.op rfl rfl (A0.op rfl rfl (A0.op rfl rfl (A0.op rfl rfl (A0.op rfl rfl (A0.op rfl rfl (A0.done ?_)))))));refine RW.kp [0,3,4,5] [(0,.ptr 0 0),(3,.j v1.1),(4,.j v1.2.1),(5,.bool v1.2.2)] [some ⟨[.str x0.mText,.j x0.mAt,.bool x0.mBad],0⟩] rfl rfl ?_;refine RW.seq (RW.sr 5 rfl ?_)
 cases hb:x0.mBad
 ·have h2:=A5 h1 hb;refine rl.f 3 rfl ?_
  cases hb:(!v1.2.2)
  ·have h3:=A5 h2 hb;refine RW.cond_f rfl (RW.skip (RW.sf 5 rfl ?_));refine RW.kp [3] [(3,.j v1.1)] [some ⟨[.str x0.mText,.j v1.2.1,.bool false],0⟩] rfl rfl ?_;refine RW.sf 2 rfl (RW.ret ?_);cases h3
   exact RRetS.m (Gh.rN [0])
  ·have h4:=A4 h2 hb;refine RW.cond_t rfl (RW.sf 4 rfl ?_);refine RW.kp [] [] [some ⟨[.str x0.mText,.j x0.mAt,.bool true],0⟩] rfl rfl ?_;refine RW.sf 1 rfl (RW.ret ?_);cases h4
   exact RRetS.m (Gh.rN [0])
 ·have h5:=A4 h1 hb;refine rl.f 3 rfl (RW.cond_t rfl (RW.sf 4 rfl ?_));refine RW.kp [] [] [some ⟨[.str x0.mText,.j x0.mAt,.bool true],0⟩] rfl rfl ?_;refine RW.sf 1 rfl (RW.ret ?_);cases h5
  exact RRetS.m (Gh.rN [0])
theorem Z7 {x0:TL06Cur} {r:(List UInt8)×TL06Cur} (hF:F0 x0=some r):C5 Tryz.prog 0 189 [.ptr 0 0] [some ⟨[.str x0.mText,.j x0.mAt,.bool x0.mBad],0⟩] (.str r.1) [some ⟨[.str r.2.mText,.j r.2.mAt,.bool r.2.mBad],0⟩]:=by
 refine C5.q Pa ?_;unfold F0 at hF;refine RW.sf 1 rfl (RW.sdrw (A0.op rfl rfl (A0.op rfl rfl (A0.op rfl rfl (A0.op rfl rfl (A0.op rfl rfl (A0.op rfl rfl (A0.op rfl rfl (A0.op rfl rfl ?_)))))))));obtain ⟨v1,e1,h1⟩:=A2 hF;refine A0.call rfl rfl rfl (A7.y (r':=.tup [.str v1.1,.j v1.2.1,.bool v1.2.2]) (Hv e1) ⟨rfl,?_⟩);refine A0.op rfl rfl (A0.op rfl rfl (A0.op rfl rfl (A0.op rfl rfl (A0.op rfl rfl (A0.op rfl rfl (A0.op rfl rfl (A0.done ?_)))))));refine RW.kp [0,3,4,5] [(0,.ptr 0 0),(3,.str v1.1),(4,.j v1.2.1),(5,.bool v1.2.2)] [some ⟨[.str x0.mText,.j x0.mAt,.bool x0.mBad],0⟩] rfl rfl ?_;refine RW.seq (RW.sr 5 rfl ?_)
 cases hb:x0.mBad
 ·have h2:=A5 h1 hb;refine rl.f 3 rfl ?_
  cases hb:(!v1.2.2)
  ·have h3:=A5 h2 hb;refine RW.cond_f rfl (RW.skip (RW.sf 5 rfl ?_));refine RW.kp [3] [(3,.str v1.1)] [some ⟨[.str x0.mText,.j v1.2.1,.bool false],0⟩] rfl rfl ?_;refine RW.sf 2 rfl (RW.ret ?_);cases h3
   exact RRetS.m (Gh.rN [0])
  ·have h4:=A4 h2 hb;refine RW.cond_t rfl (RW.sf 4 rfl ?_);refine RW.kp [] [] [some ⟨[.str x0.mText,.j x0.mAt,.bool true],0⟩] rfl rfl ?_;refine RW.sf 1 rfl (RW.ret ?_);cases h4
   exact RRetS.m (Gh.rN [0])
 ·have h5:=A4 h1 hb;refine rl.f 3 rfl (RW.cond_t rfl (RW.sf 4 rfl ?_));refine RW.kp [] [] [some ⟨[.str x0.mText,.j x0.mAt,.bool true],0⟩] rfl rfl ?_;refine RW.sf 1 rfl (RW.ret ?_);cases h5
  exact RRetS.m (Gh.rN [0])
theorem Vk {x0:List UInt8} {r:TRec×Bool} (hF:M1 x0=some r):B2 Tryz.prog 175 [.str x0] (.tup [.agg (D0 true r.1),.bool r.2]):=by
 refine B2.q Zj ?_;unfold M1 at hF;refine RW.sf 2 rfl (RW.seq (RW.sr 1 rfl ?_))
 refine rl.gen rfl rfl fun b hb=>?_
 cases b
 ·have h1:=A5 hF hb;refine rl.done (RW.cond_f rfl (RW.skip (RW.sf 4 rfl ?_)));refine RW.sdrwF [⟨[.j 0,.j 0,.j 0,.j 0,.j 0,.str [],.str [],.str []],0⟩] ?_;refine A0.op rfl rfl ?_;obtain ⟨v1,e1,h2⟩:=A2 h1;refine A0.op rfl (La rfl rfl e1) ?_;refine A0.op rfl rfl (A0.op rfl rfl ?_);obtain ⟨v2,e2,h3⟩:=A2 h2;refine A0.ccallB rfl rfl rfl (A7.eW (r0:=.j v2.1) (H':=[some ⟨[.j 0,.j 0,.j 0,.j 0,.j 0,.str [],.str [],.str []],0⟩,some ⟨[.str v2.2.mText,.j v2.2.mAt,.bool v2.2.mBad],0⟩,some ⟨[.j 0,.j 0,.j 0,.j 0,.j 0,.str [],.str [],.str []],0⟩]) [⟨[.str x0,.j 1,.bool false],0⟩] [⟨[.str v2.2.mText,.j v2.2.mAt,.bool v2.2.mBad],0⟩] [1] (Cb e2) ⟨(.skip rfl (.here (.rx rfl) (.here (.rx (La rfl rfl e1)) (.here (.rx rfl) .nil)))),?_⟩);refine A0.op rfl rfl ?_;refine A0.flt rfl (.cons rfl .nil) ?_;refine A0.chn rfl rfl ?_;refine A0.done ?_;refine RW.kp [0,2,4,5] [(0,.str x0),(2,.ptr 0 0),(4,.ptr 1 0),(5,.ptr 2 0)] [some ⟨[.j 0,.j 0,.j 0,.j 0,.j 0,.str [],.str [],.str []],0⟩,some ⟨[.str v2.2.mText,.j v2.2.mAt,.bool v2.2.mBad],0⟩,some ⟨[.j (w64 (v1.toNat:Int)),.j v2.1,.j 0,.j 0,.j 0,.str [],.str [],.str []],0⟩] rfl rfl ?_;refine RW.sr 1 rfl ?_;obtain ⟨v3,e3,h4⟩:=A2 h3;refine rl.call rfl rfl rfl (A7.eW (r0:=.j v3.1) (H':=[some ⟨[.j 0,.j 0,.j 0,.j 0,.j 0,.str [],.str [],.str []],0⟩,some ⟨[.str v3.2.mText,.j v3.2.mAt,.bool v3.2.mBad],0⟩,some ⟨[.j (w64 (v1.toNat:Int)),.j v2.1,.j 0,.j 0,.j 0,.str [],.str [],.str []],0⟩]) [⟨[.str v2.2.mText,.j v2.2.mAt,.bool v2.2.mBad],0⟩] [⟨[.str v3.2.mText,.j v3.2.mAt,.bool v3.2.mBad],0⟩] [1] (Cb e3) ?_);refine rl.f 2 rfl (RW.sr 1 rfl ?_);obtain ⟨v4,e4,h5⟩:=A2 h4;refine rl.call rfl rfl rfl (A7.eW (r0:=.j v4.1) (H':=[some ⟨[.j 0,.j 0,.j 0,.j 0,.j 0,.str [],.str [],.str []],0⟩,some ⟨[.str v4.2.mText,.j v4.2.mAt,.bool v4.2.mBad],0⟩,some ⟨[.j (w64 (v1.toNat:Int)),.j v2.1,.j v3.1,.j 0,.j 0,.str [],.str [],.str []],0⟩]) [⟨[.str v3.2.mText,.j v3.2.mAt,.bool v3.2.mBad],0⟩] [⟨[.str v4.2.mText,.j v4.2.mAt,.bool v4.2.mBad],0⟩] [1] (Cb e4) ?_);refine rl.f 2 rfl (RW.sr 1 rfl ?_)
  obtain ⟨v5,e5,h6⟩:=A2 h5;refine rl.call rfl rfl rfl (A7.eW (r0:=.j v5.1) (H':=[some ⟨[.j 0,.j 0,.j 0,.j 0,.j 0,.str [],.str [],.str []],0⟩,some ⟨[.str v5.2.mText,.j v5.2.mAt,.bool v5.2.mBad],0⟩,some ⟨[.j (w64 (v1.toNat:Int)),.j v2.1,.j v3.1,.j v4.1,.j 0,.str [],.str [],.str []],0⟩]) [⟨[.str v4.2.mText,.j v4.2.mAt,.bool v4.2.mBad],0⟩] [⟨[.str v5.2.mText,.j v5.2.mAt,.bool v5.2.mBad],0⟩] [1] (Cb e5) ?_);refine rl.f 2 rfl (RW.sr 1 rfl ?_);obtain ⟨v6,e6,h7⟩:=A2 h6;refine rl.call rfl rfl rfl (A7.eW (r0:=.str v6.1) (H':=[some ⟨[.j 0,.j 0,.j 0,.j 0,.j 0,.str [],.str [],.str []],0⟩,some ⟨[.str v6.2.mText,.j v6.2.mAt,.bool v6.2.mBad],0⟩,some ⟨[.j (w64 (v1.toNat:Int)),.j v2.1,.j v3.1,.j v4.1,.j v5.1,.str [],.str [],.str []],0⟩]) [⟨[.str v5.2.mText,.j v5.2.mAt,.bool v5.2.mBad],0⟩] [⟨[.str v6.2.mText,.j v6.2.mAt,.bool v6.2.mBad],0⟩] [1] (Z7 e6) ?_);refine rl.f 2 rfl ?_;refine RW.kp [0,2,4,5] [(0,.str x0),(2,.ptr 0 0),(4,.ptr 1 0),(5,.ptr 2 0)] [some ⟨[.j 0,.j 0,.j 0,.j 0,.j 0,.str [],.str [],.str []],0⟩,some ⟨[.str v6.2.mText,.j v6.2.mAt,.bool v6.2.mBad],0⟩,some ⟨[.j (w64 (v1.toNat:Int)),.j v2.1,.j v3.1,.j v4.1,.j v5.1,.str v6.1,.str [],.str []],0⟩] rfl rfl ?_;refine RW.sr 1 rfl ?_;obtain ⟨v7,e7,h8⟩:=A2 h7;refine rl.call rfl rfl rfl (A7.eW (r0:=.str v7.1) (H':=[some ⟨[.j 0,.j 0,.j 0,.j 0,.j 0,.str [],.str [],.str []],0⟩,some ⟨[.str v7.2.mText,.j v7.2.mAt,.bool v7.2.mBad],0⟩,some ⟨[.j (w64 (v1.toNat:Int)),.j v2.1,.j v3.1,.j v4.1,.j v5.1,.str v6.1,.str [],.str []],0⟩]) [⟨[.str v6.2.mText,.j v6.2.mAt,.bool v6.2.mBad],0⟩] [⟨[.str v7.2.mText,.j v7.2.mAt,.bool v7.2.mBad],0⟩] [1] (Z7 e7) ?_);refine rl.f 2 rfl (RW.sr 1 rfl ?_);obtain ⟨v8,e8,h9⟩:=A2 h8;refine rl.call rfl rfl rfl (A7.eW (r0:=.str v8.1) (H':=[some ⟨[.j 0,.j 0,.j 0,.j 0,.j 0,.str [],.str [],.str []],0⟩,some ⟨[.str v8.2.mText,.j v8.2.mAt,.bool v8.2.mBad],0⟩,some ⟨[.j (w64 (v1.toNat:Int)),.j v2.1,.j v3.1,.j v4.1,.j v5.1,.str v6.1,.str v7.1,.str []],0⟩]) [⟨[.str v7.2.mText,.j v7.2.mAt,.bool v7.2.mBad],0⟩] [⟨[.str v8.2.mText,.j v8.2.mAt,.bool v8.2.mBad],0⟩] [1] (Z7 e8) ?_)
  refine rl.f 2 rfl (RW.sr 1 rfl ?_);obtain ⟨v9,e9,h10⟩:=A2 h9;refine rl.call rfl rfl rfl (A7.y (r':=.tup [.str v9.1,.bool v9.2]) (Jq e9) ?_);refine rl.f 5 rfl ?_;refine RW.kp [0,2,4,5,6,7] [(0,.str x0),(2,.ptr 0 0),(4,.ptr 1 0),(5,.ptr 2 0),(6,.str v9.1),(7,.bool v9.2)] [some ⟨[.j 0,.j 0,.j 0,.j 0,.j 0,.str [],.str [],.str []],0⟩,some ⟨[.str v8.2.mText,.j v8.2.mAt,.bool v8.2.mBad],0⟩,some ⟨[.j (w64 (v1.toNat:Int)),.j v2.1,.j v3.1,.j v4.1,.j v5.1,.str v6.1,.str v7.1,.str v8.1],0⟩] rfl rfl ?_;refine RW.seq (RW.seq ?_);obtain ⟨y10,ey10,h11⟩:=A2 h10
  refine RW.cutq (σ:=Bool) (fun y10=>[(2,.ptr 0 0),(5,.ptr 1 0),(55,.bool y10)]) (fun y10=>[some ⟨[.j 0,.j 0,.j 0,.j 0,.j 0,.str [],.str [],.str []],0⟩,some ⟨[.j (w64 (v1.toNat:Int)),.j v2.1,.j v3.1,.j v4.1,.j v5.1,.str v6.1,.str v7.1,.str v8.1],0⟩]) (fun y=>y10=y) gg ?_ ?_
  ·refine RW.reg ?_;refine rl.run 5 rfl ?_
   cases hb:v8.2.mBad
   ·have h12:=A5 ey10 hb;refine rl.run 4 rfl ?_
    cases hb:(!v9.2)
    ·have h13:=A5 h12 hb;refine rl.run 2 rfl ?_
     refine rl.gen rfl rfl fun b hb=>?_
     cases b
     ·have h14:=A5 h13 hb;refine rl.f 1 rfl ?_;cases h14
      exact ⟨_,rfl,(Gh.y0 [0,2])⟩
     ·have h15:=A4 h13 hb;refine rl.f 1 rfl ?_;cases h15
      exact ⟨_,rfl,(Gh.y0 [0,2])⟩
    ·have h16:=A4 h12 hb;refine rl.f 4 rfl ?_;cases h16
     exact ⟨_,rfl,(Gh.y0 [0,2])⟩
   ·have h17:=A4 ey10 hb;refine rl.f 8 rfl ?_;cases h17
    exact ⟨_,rfl,(Gh.y0 [0,2])⟩
  ·intro y hC
   subst hC
   cases hb:y10
   ·have h18:=A5 h11 hb;refine RW.cond_f rfl (RW.skip (RW.sf 3 rfl (RW.ret ?_)));cases h18
    exact RRet.y
   ·have h19:=A4 h11 hb;refine RW.cond_t rfl (RW.sf 3 rfl (RW.ret ?_));cases h19
    exact RRet.y
 ·have h20:=A4 hF hb;refine rl.done (RW.cond_t rfl (RW.sf 3 rfl (RW.ret ?_)));cases h20
  exact RRet.y
theorem Qj {x0:TFrame} {r:TItem×Bool} (hF:Ai x0=some r):B2 Tryz.prog 150 [.agg (B5 false x0)] (.tup [.agg (A8 true r.1),.bool r.2]):=by
 refine B2.q Ve ?_;unfold Ai at hF;refine RW.sf 3 rfl (RW.sr 2 rfl ?_);obtain ⟨v1,e1,h1⟩:=A2 hF;refine rl.call rfl rfl rfl (A7.y (r':=.tup [.agg (D0 false v1.1),.bool v1.2]) (Vk e1) ?_);refine rl.f 6 rfl (RW.seq (RW.sr 1 rfl ?_));obtain ⟨v2,e2,h2⟩:=A2 h1;refine rl.call rfl rfl rfl (A7.y (r':=.bool v2) (Fu e2) ?_)
 cases hb:v2
 ·have h3:=A5 h2 hb;refine rl.f 5 rfl ?_;refine RW.kp [1,2,4,18] [(1,.ptr 0 0),(2,.ptr 1 0),(4,.ptr 2 0),(18,.bool true)] [some ⟨B5 false x0,0⟩,some ⟨[.j 0,.j 0,.j 0,.j 0,.j 0,.j 0,.str [],.str [],.str []],0⟩,some ⟨D0 false v1.1,0⟩] rfl rfl ?_;refine RW.cond_t rfl (RW.sf 3 rfl (RW.ret ?_));cases h3
  exact RRet.y
 ·have h4:=A4 h2 hb;refine rl.f 5 rfl ?_;refine RW.kp [1,2,4,18] [(1,.ptr 0 0),(2,.ptr 1 0),(4,.ptr 2 0),(18,.bool (!v1.2))] [some ⟨B5 false x0,0⟩,some ⟨[.j 0,.j 0,.j 0,.j 0,.j 0,.j 0,.str [],.str [],.str []],0⟩,some ⟨D0 false v1.1,0⟩] rfl rfl ?_
  cases hb:(!v1.2)
  ·have h5:=A5 h4 hb;refine RW.cond_f rfl (RW.skip (RW.sf 6 rfl (RW.ret ?_)));cases h5
   exact RRet.y
  ·have h6:=A4 h4 hb;refine RW.cond_t rfl (RW.sf 3 rfl (RW.ret ?_));cases h6
   exact RRet.y
theorem Kw {x0:TDisk} {x1:Int} {r:TSeg} (hF:U3 x0 x1=some r):B2 Tryz.prog 92 [.agg (A6 false x0),.j x1] (.agg (A3 true r)):=by
 refine B2.q A13 ?_;unfold U3 at hF;refine RW.sf 2 rfl (RW.sr 2 rfl ?_);obtain ⟨v1,e1,h1⟩:=A2 hF;refine rl.call rfl rfl rfl (A7.y (r':=.tup [Ch v1.1,.j v1.2]) (Qm e1) ?_);refine rl.f 5 rfl (RW.sr 3 rfl ?_);obtain ⟨v2,e2,h2⟩:=A2 h1;refine rl.call rfl rfl rfl (A7.y (r':=.j v2) (Lc e2) ?_);refine rl.f 4 rfl ?_;refine RW.kp [4,5,7] [(4,.ptr 1 0),(5,Ch v1.1),(7,.ptr 2 0)] [some ⟨A6 false x0,0⟩,some ⟨[.j 0,.j 0,.j 0,.nils],0⟩,some ⟨[.j x1,.j v2,.j v1.2,.nils],0⟩] rfl rfl ?_;refine RW.seq (RW.sf 1 rfl ?_);refine RW.gh (Gh.nil_c 2 3 9 rfl rfl) ?_;obtain ⟨y8,ey8,h4⟩:=A2 h2
 refine RW.cutq (σ:=(List TItem)) (fun y4=>[(4,.ptr 0 0),(7,.ptr 1 0)]) (fun y4=>[some ⟨[.j 0,.j 0,.j 0,.nils],0⟩,some ⟨[.j x1,.j v2,.j v1.2,.sl 2 0 y4.length],0⟩,some ⟨fl (A8 true) y4,9⟩]) (fun y=>y8=y) gg ?_ ?_
 ·refine RW.blk ?_
  refine RW.iter (σ:=Int×(List TItem)) ey8 (fun s3=>[(4,.ptr 0 0),(5,Ch v1.1),(7,.ptr 1 0),(8,.j s3.1)]) (fun s3=>[some ⟨[.j 0,.j 0,.j 0,.nils],0⟩,some ⟨[.j x1,.j v2,.j v1.2,.sl 2 0 s3.2.length],0⟩,some ⟨fl (A8 true) s3.2,9⟩]) (Gh.y0 [1,2,3]) (fun s3 B o hS3 hB3 hE3=>?_)
  unfold Ec at hS3;refine RW.seq (RW.sr 3 rfl ?_)
  refine rl.gen rfl rfl fun b hb=>?_
  cases b
  ·have h5:=A5 hS3 hb;refine rl.done (RW.cond_f rfl (RW.exit (C9 ?_)));cases h5
   exact ⟨_,(hE3 _ rfl).symm,(Gh.y0 [0,1,2])⟩
  ·have h6:=A4 hS3 hb;refine rl.done (RW.cond_t rfl (RW.skip (RW.seq (RW.blk (RW.sr 2 rfl ?_)))));obtain ⟨v5,e5,h7⟩:=A2 h6;refine rl.op (C1 (enc:=B5) (o:=false) rfl rfl rfl e5) ?_;refine rl.op (H6 (off':=0) (vs:=(B5 false v5)) Fo rfl e5 rfl rfl rfl) ?_;obtain ⟨v6,e6,h8⟩:=A2 h7;refine rl.call rfl rfl rfl (A7.y (r':=.tup [.agg (A8 false v6.1),.bool v6.2]) (Qj e6) ?_);refine rl.f 6 rfl ?_;refine RW.kp [4,5,7,8,9,10] [(4,.ptr 0 0),(5,Ch v1.1),(7,.ptr 1 0),(8,.j s3.1),(9,.ptr 3 0),(10,.bool v6.2)] [some ⟨[.j 0,.j 0,.j 0,.nils],0⟩,some ⟨[.j x1,.j v2,.j v1.2,.sl 2 0 s3.2.length],0⟩,some ⟨fl (A8 true) s3.2,9⟩,some ⟨A8 false v6.1,0⟩] rfl rfl ?_;refine RW.sf 1 rfl ?_
   cases hb:v6.2
   ·have h9:=A5 h8 hb;refine RW.cond_f rfl (RW.skip (RW.reg (rl.f 3 rfl ?_)));cases h9
    exact hB3 _ rfl _ _ (Gh.y0 [0,1,2])
   ·have h10:=A4 h8 hb;refine RW.cond_t rfl (RW.reg (rl.run 4 rfl ?_));obtain ⟨v7,e7,h11⟩:=A2 h10;refine rl.op (U2 rfl rfl (R6 (l:=s3.2) (m:=[v6.1]) (o:=true) C2 rfl rfl (M0 (m:=[v6.1]) (o:=true) M9 rfl rfl) rfl (M9.fst _ _) e7)) ?_;refine rl.f 2 rfl (RW.reg (rl.f 3 rfl ?_));cases h11
    exact hB3 _ rfl _ _ (Gh.y0 [0,1,5])
 ·intro y4 hC
  subst hC;refine RW.sf 2 rfl (RW.ret ?_);cases h4
  exact RRet.y
theorem Ub {x0:List TItem} {r:Bool} (hF:Cs x0=some r):B2 Tryz.prog 93 [E8 x0] (.bool r):=by
 refine B2.q Zo ?_;unfold Cs at hF;refine RW.sf 1 rfl (RW.seq (RW.sf 1 rfl ?_));obtain ⟨y16,ey16,h2⟩:=A2 hF
 refine RW.cutq (σ:=Unit) (fun y2=>[(0,E8 x0)]) (fun y2=>[]) (fun y=>y16=.inr y) gg ?_ ?_
 ·refine RW.blk ?_
  refine RW.iter (σ:=Int) ey16 (fun s1=>[(0,E8 x0),(3,.j s1)]) (fun s1=>[]) (Gh.y0 []) (fun s1 B o hS1 hB1 hE1=>?_)
  unfold Ab at hS1;refine RW.seq (RW.sr 3 rfl ?_)
  refine rl.gen rfl rfl fun b hb=>?_
  cases b
  ·have h3:=A5 hS1 hb;refine rl.done (RW.cond_f rfl (RW.exit (C9 ?_)));cases h3
   exact ⟨_,(hE1 _ rfl).symm,(Gh.y0 [])⟩
  ·have h4:=A4 hS1 hb;refine rl.done (RW.cond_t rfl (RW.skip (RW.seq (RW.blk (RW.seq (RW.seq ?_))))));obtain ⟨y3,ey3,h5⟩:=A2 h4
   refine RW.cutq (σ:=Bool) (fun y3=>[(0,E8 x0),(3,.j s1),(26,.bool y3)]) (fun y3=>[]) (fun y=>y3=y) gg ?_ ?_
   ·refine RW.reg ?_;refine rl.run 2 rfl ?_;obtain ⟨v4,e4,h6⟩:=A2 ey3;refine rl.op (C1 (enc:=A8) (o:=false) rfl rfl rfl e4) ?_;refine rl.run 1 rfl ?_;refine rl.op (E7 (off':=0) C2 rfl e4 rfl rfl rfl) ?_;obtain ⟨v5,e5,h7⟩:=A2 h6;refine rl.call rfl rfl rfl (A7.y (r':=.bool v5) (B8 e5) ?_)
    cases hb:v5
    ·have h8:=A5 h7 hb;refine rl.f 10 rfl ?_;cases h8
     exact ⟨_,rfl,(Gh.y0 [])⟩
    ·have h9:=A4 h7 hb;refine rl.run 4 rfl ?_;obtain ⟨v6,e6,h10⟩:=A2 h9;refine rl.gop rfl (C1 (enc:=A8) (o:=false) rfl rfl rfl e6) ?_;refine rl.run 1 rfl ?_;refine rl.gop rfl (H6 (off':=1) (vs:=(D0 false v6.Rec)) C2 rfl e6 rfl rfl rfl) ?_;obtain ⟨v7,e7,h11⟩:=A2 h10;refine rl.call rfl rfl rfl (A7.y (r':=.bool v7) (Mb e7) ?_)
     cases hb:v7
     ·have h12:=A5 h11 hb;refine rl.f 2 rfl ?_;cases h12
      exact ⟨_,rfl,(Gh.y0 [])⟩
     ·have h13:=A4 h11 hb;refine rl.f 2 rfl ?_;cases h13
      exact ⟨_,rfl,(Gh.y0 [])⟩
   ·intro y hC
    subst hC
    cases hb:y3
    ·have h14:=A5 h5 hb;refine RW.cond_f rfl (RW.skip (RW.sf 1 rfl ?_));obtain ⟨y15,ey15,h16⟩:=A2 h14
     refine RW.cutq (σ:=Unit) (fun y9=>[(0,E8 x0),(3,.j s1)]) (fun y9=>[]) (fun y=>y15=.inr y) gg ?_ ?_
     ·refine RW.blk ?_
      refine RW.iter (σ:=Int) ey15 (fun s8=>[(0,E8 x0),(3,.j s1),(4,.j s8)]) (fun s8=>[]) (Gh.y0 []) (fun s8 B o hS15 hB15 hE15=>?_)
      unfold Ad at hS15;refine RW.seq (RW.sr 2 rfl ?_)
      refine rl.gen rfl rfl fun b hb=>?_
      cases b
      ·have h17:=A5 hS15 hb;refine rl.done (RW.cond_f rfl (RW.exit (C9 ?_)));cases h17
       exact ⟨_,(hE15 _ rfl).symm,(Gh.y0 [])⟩
      ·have h18:=A4 hS15 hb;refine rl.done (RW.cond_t rfl (RW.skip (RW.seq (RW.blk (RW.seq ?_)))));obtain ⟨y10,ey10,h19⟩:=A2 h18
       refine RW.cutq (σ:=Bool) (fun y10=>[(0,E8 x0),(3,.j s1),(4,.j s8),(53,.bool y10)]) (fun y10=>[]) (fun y=>y10=y) gg ?_ ?_
       ·refine RW.drw ?_;refine A0.op rfl rfl (A0.op rfl rfl ?_);obtain ⟨v11,e11,h20⟩:=A2 ey10;refine A0.op rfl (C1 (enc:=A8) (o:=false) rfl rfl rfl e11) ?_;refine A0.op rfl rfl ?_;refine A0.op rfl (E7 (off':=0) C2 rfl e11 rfl rfl rfl) ?_;refine A0.op rfl rfl (A0.op rfl rfl ?_);obtain ⟨v12,e12,h21⟩:=A2 h20;refine A0.op rfl (C1 (enc:=A8) (o:=false) rfl rfl rfl e12) ?_;refine A0.op rfl rfl ?_;refine A0.op rfl (E7 (off':=0) C2 rfl e12 rfl rfl rfl) ?_
        refine A0.gen rfl rfl fun b hb=>?_
        cases b
        ·have h22:=A5 h21 hb;refine A0.op rfl rfl (A0.off rfl (A0.off rfl (A0.off rfl (A0.off rfl (A0.off rfl (A0.off rfl (A0.off rfl (A0.off rfl (A0.off rfl (A0.op rfl rfl (A0.done ?_)))))))))));cases h22
         exact ⟨_,rfl,(Gh.y0 [])⟩
        ·have h23:=A4 h21 hb;refine A0.op rfl rfl (A0.op rfl rfl (A0.op rfl rfl ?_));obtain ⟨v13,e13,h24⟩:=A2 h23;refine A0.op rfl (C1 (enc:=A8) (o:=false) rfl rfl rfl e13) ?_;refine A0.op rfl (H6 (off':=0) (vs:=(A8 false v13)) C2 rfl e13 rfl rfl rfl) ?_;refine A0.op rfl rfl (A0.op rfl rfl ?_);obtain ⟨v14,e14,h25⟩:=A2 h24;refine A0.op rfl (C1 (enc:=A8) (o:=false) rfl rfl rfl e14) ?_;refine A0.op rfl (H6 (off':=0) (vs:=(A8 false v14)) C2 rfl e14 rfl rfl rfl) ?_
         refine A0.gen rfl rfl fun b hb=>?_
         cases b
         ·have h26:=A5 h25 hb;refine A0.op rfl rfl (A0.done ?_);cases h26
          exact ⟨_,rfl,(Gh.y0 [])⟩
         ·have h27:=A4 h25 hb;refine A0.op rfl rfl (A0.done ?_);cases h27
          exact ⟨_,rfl,(Gh.y0 [])⟩
       ·intro y hC
        subst hC
        cases hb:y10
        ·have h28:=A5 h19 hb;refine RW.cond_f rfl (RW.skip (RW.reg (rl.f 3 rfl ?_)));cases h28
         exact hB15 _ rfl _ _ (Gh.y0 [])
        ·have h29:=A4 h19 hb;refine RW.cond_t rfl (RW.sf 1 rfl (RW.ret ?_));cases h29;have h30:=elimL h16 (hE15 _ rfl);cases h30;have h31:=elimL h2 (hE1 _ rfl);cases h31
         exact RRet.y
     ·intro y9 hC
      have h16:=elimR h16 hC;refine RW.reg (rl.f 3 rfl ?_);cases h16
      exact hB1 _ rfl _ _ (Gh.y0 [])
    ·have h32:=A4 h5 hb;refine RW.cond_t rfl (RW.sf 1 rfl (RW.ret ?_));cases h32;have h33:=elimL h2 (hE1 _ rfl);cases h33
     exact RRet.y
 ·intro y2 hC
  have h2:=elimR h2 hC;refine RW.sf 4 rfl (RW.ret ?_);cases h2
  exact RRet.y
end Go.Proofs.YtldndhdohlfpgaaGreat.V
