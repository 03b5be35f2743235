/- What a call comes to. -/
import Derived.Test.YtldndhdohlfpgaaGreatXD1
namespace Go.Proofs.YtldndhdohlfpgaaGreat.V
open Go Go.Proofs Go.RowKit
set_option maxRecDepth 100000
set_option maxHeartbeats 4000000
theorem Ru {x0:TL01Cur} {B0_ o0_:Nat} {r:TLog×TL01Cur} (hF:X7 x0=some r):C0 Tryz.prog 0 46 [.ptr 0 0] [some ⟨[pvB B0_ o0_ x0.mB,.j x0.mI,.j x0.mH],0⟩] (.agg (L1 1 2 3 r.1)) [some ⟨[pvB B0_ o0_ x0.mB,.j r.2.mI,.j r.2.mH],0⟩,some ⟨fl (encS true) r.1.Disk.Sectors,1⟩,some ⟨fl (A1 true) r.1.Disk.Cache,2⟩,some ⟨fl (A8 true) r.1.Used,4⟩]:=by
 refine C0.p A17 ?_;unfold X7 at hF;refine RW.sf 1 rfl (RW.sr 1 rfl ?_);obtain ⟨v1,e1,h1⟩:=A2 hF;refine rl.call rfl rfl rfl (A6.eN (r0:=.j v1.1) (H':=[some ⟨[pvB B0_ o0_ x0.mB,.j v1.2.mI,.j v1.2.mH],0⟩,some ⟨[.nils,.nils,.j 0,.nils,.j 0,.j 0,.j 0,.j 0],0⟩]) [⟨[pvB B0_ o0_ x0.mB,.j x0.mI,.j x0.mH],0⟩] [⟨[pvB B0_ o0_ x0.mB,.j v1.2.mI,.j v1.2.mH],0⟩] [] [0] [pvB B0_ o0_ x0.mB] (A9 e1) ?_);refine rl.run 1 rfl ?_;obtain ⟨v2,e2,h2⟩:=A2 h1;refine rl.call rfl rfl rfl (A6.z (r':=.tup [.agg (L1 2 3 4 v2.1),.bool v2.2]) (H':=[some ⟨[pvB B0_ o0_ x0.mB,.j v1.2.mI,.j v1.2.mH],0⟩,some ⟨[.nils,.nils,.j 0,.nils,.j 0,.j 0,.j 0,.j 0],0⟩,some ⟨fl (encS true) v2.1.Disk.Sectors,1⟩,some ⟨fl (A1 true) v2.1.Disk.Cache,2⟩,some ⟨fl (A8 true) v2.1.Used,4⟩]) (Ph e2) ?_);refine rl.f 6 rfl (RW.seq (RW.sf 1 rfl ?_));obtain ⟨y9,ey9,h4⟩:=A2 h2
 refine RW.cutq (σ:=Int×Int×Int×Int×Int×Int×Int×(List (List UInt8))×(List TWrite)×(List TSeg)) (fun y4=>[(2,.ptr 1 0),(3,.ptr 2 0)]) (fun y4=>[some ⟨[pvB B0_ o0_ x0.mB,.j y4.1,.j y4.2.1],0⟩,some ⟨[.nils,.nils,.j 0,.nils,.j 0,.j 0,.j 0,.j 0],0⟩,some ⟨[.sl 3 0 y4.2.2.2.2.2.2.2.1.length,.sl 4 0 y4.2.2.2.2.2.2.2.2.1.length,.j y4.2.2.1,.sl 5 0 y4.2.2.2.2.2.2.2.2.2.length,.j y4.2.2.2.1,.j y4.2.2.2.2.1,.j y4.2.2.2.2.2.1,.j y4.2.2.2.2.2.2.1],0⟩,some ⟨fl (encS true) y4.2.2.2.2.2.2.2.1,1⟩,some ⟨fl (A1 true) y4.2.2.2.2.2.2.2.2.1,2⟩,some ⟨fl (A8 true) y4.2.2.2.2.2.2.2.2.2,4⟩]) (fun y=>y9=y) gg ?_ ?_
 ·refine RW.blk ?_
  refine RW.iter (σ:=Int×Int×Int×Int×Int×Int×Int×Int×(List (List UInt8))×(List TWrite)×(List TSeg)) ey9 (fun s3=>[(0,.ptr 0 0),(2,.ptr 1 0),(3,.ptr 2 0),(5,.j s3.1)]) (fun s3=>[some ⟨[pvB B0_ o0_ x0.mB,.j s3.2.1,.j s3.2.2.1],0⟩,some ⟨[.nils,.nils,.j 0,.nils,.j 0,.j 0,.j 0,.j 0],0⟩,some ⟨[.sl 3 0 s3.2.2.2.2.2.2.2.2.1.length,.sl 4 0 s3.2.2.2.2.2.2.2.2.2.1.length,.j s3.2.2.2.1,.sl 5 0 s3.2.2.2.2.2.2.2.2.2.2.length,.j s3.2.2.2.2.1,.j s3.2.2.2.2.2.1,.j s3.2.2.2.2.2.2.1,.j s3.2.2.2.2.2.2.2.1],0⟩,some ⟨fl (encS true) s3.2.2.2.2.2.2.2.2.1,1⟩,some ⟨fl (A1 true) s3.2.2.2.2.2.2.2.2.2.1,2⟩,some ⟨fl (A8 true) s3.2.2.2.2.2.2.2.2.2.2,4⟩]) (Gh.rN [0,1,5,2,3,4]) (fun s3 B o hS3 hB3 hE3=>?_)
  unfold Y0 at hS3;refine RW.seq (RW.sr 2 rfl ?_);obtain ⟨v5,e5,h5⟩:=A2 hS3;refine rl.call rfl rfl rfl (A6.eN (r0:=.j v5.1) (H':=[some ⟨[pvB B0_ o0_ x0.mB,.j v5.2.mI,.j v5.2.mH],0⟩,some ⟨[.nils,.nils,.j 0,.nils,.j 0,.j 0,.j 0,.j 0],0⟩,some ⟨[.sl 3 0 s3.2.2.2.2.2.2.2.2.1.length,.sl 4 0 s3.2.2.2.2.2.2.2.2.2.1.length,.j s3.2.2.2.1,.sl 5 0 s3.2.2.2.2.2.2.2.2.2.2.length,.j s3.2.2.2.2.1,.j s3.2.2.2.2.2.1,.j s3.2.2.2.2.2.2.1,.j s3.2.2.2.2.2.2.2.1],0⟩,some ⟨fl (encS true) s3.2.2.2.2.2.2.2.2.1,1⟩,some ⟨fl (A1 true) s3.2.2.2.2.2.2.2.2.2.1,2⟩,some ⟨fl (A8 true) s3.2.2.2.2.2.2.2.2.2.2,4⟩]) [⟨[pvB B0_ o0_ x0.mB,.j s3.2.1,.j s3.2.2.1],0⟩] [⟨[pvB B0_ o0_ x0.mB,.j v5.2.mI,.j v5.2.mH],0⟩] [] [0] [pvB B0_ o0_ x0.mB] (A9 e5) ?_)
  refine rl.gen rfl rfl fun b hb=>?_
  cases b
  ·have h6:=A4 h5 hb;refine rl.done (RW.cond_f rfl (RW.exit (C7 ?_)));cases h6
   exact ⟨_,(hE3 _ rfl).symm,(Gh.rN [0,1,2,3,4,5])⟩
  ·have h7:=A5 h5 hb;refine rl.done (RW.cond_t rfl (RW.skip (RW.seq (RW.blk ?_))));refine RW.sdrwF [⟨[.j 0,.j 0,.j 0,.j 0,.j 0,.j 0,.str [],.str [],.str []],0⟩] ?_;refine A0.op rfl rfl (A0.op rfl rfl (A0.op rfl rfl ?_));obtain ⟨v6,e6,h8⟩:=A2 h7;refine A0.ccallB rfl rfl rfl (A6.eN (r0:=.agg (G4 false v6.1)) (H':=[some ⟨[pvB B0_ o0_ x0.mB,.j v6.2.mI,.j v6.2.mH],0⟩,some ⟨[.nils,.nils,.j 0,.nils,.j 0,.j 0,.j 0,.j 0],0⟩,some ⟨[.sl 3 0 s3.2.2.2.2.2.2.2.2.1.length,.sl 4 0 s3.2.2.2.2.2.2.2.2.2.1.length,.j s3.2.2.2.1,.sl 5 0 s3.2.2.2.2.2.2.2.2.2.2.length,.j s3.2.2.2.2.1,.j s3.2.2.2.2.2.1,.j s3.2.2.2.2.2.2.1,.j s3.2.2.2.2.2.2.2.1],0⟩,some ⟨fl (encS true) s3.2.2.2.2.2.2.2.2.1,1⟩,some ⟨fl (A1 true) s3.2.2.2.2.2.2.2.2.2.1,2⟩,some ⟨fl (A8 true) s3.2.2.2.2.2.2.2.2.2.2,4⟩,some ⟨[.j 0,.j 0,.j 0,.j 0,.j 0,.j 0,.str [],.str [],.str []],0⟩]) [⟨[pvB B0_ o0_ x0.mB,.j v5.2.mI,.j v5.2.mH],0⟩] [⟨[pvB B0_ o0_ x0.mB,.j v6.2.mI,.j v6.2.mH],0⟩] [] [0] [pvB B0_ o0_ x0.mB] (Uj e6) ⟨(.skip rfl (.here (.rx rfl) (.here (.rx rfl) .nil))),?_⟩);refine A0.op rfl rfl ?_;refine A0.flt rfl (.cons rfl .nil) ?_;refine A0.chn rfl rfl ?_;refine A0.done (RW.sr 2 rfl ?_);obtain ⟨v7,e7,h9⟩:=A2 h8;refine rl.call rfl rfl rfl (A6.y (r':=.bool v7) (Vk e7) ?_)
   cases hb:v7
   ·have h10:=A4 h9 hb;refine rl.done ?_;refine RW.kp [0,2,3,5,6,27] [(0,.ptr 0 0),(2,.ptr 1 0),(3,.ptr 2 0),(5,.j s3.1),(6,.ptr 6 0),(27,.bool false)] [some ⟨[pvB B0_ o0_ x0.mB,.j v6.2.mI,.j v6.2.mH],0⟩,some ⟨[.nils,.nils,.j 0,.nils,.j 0,.j 0,.j 0,.j 0],0⟩,some ⟨[.sl 3 0 s3.2.2.2.2.2.2.2.2.1.length,.sl 4 0 s3.2.2.2.2.2.2.2.2.2.1.length,.j s3.2.2.2.1,.sl 5 0 s3.2.2.2.2.2.2.2.2.2.2.length,.j s3.2.2.2.2.1,.j s3.2.2.2.2.2.1,.j s3.2.2.2.2.2.2.1,.j s3.2.2.2.2.2.2.2.1],0⟩,some ⟨fl (encS true) s3.2.2.2.2.2.2.2.2.1,1⟩,some ⟨fl (A1 true) s3.2.2.2.2.2.2.2.2.2.1,2⟩,some ⟨fl (A8 true) s3.2.2.2.2.2.2.2.2.2.2,4⟩,some ⟨[.j s3.2.2.2.2.2.1,.j v6.1.Kind,.j v6.1.Valid,.j v6.1.Uid,.j v6.1.Next,.j v6.1.Flags,.str v6.1.User,.str v6.1.Name,.str v6.1.Text],0⟩] rfl rfl ?_;refine RW.cond_f rfl (RW.skip (RW.reg (rl.f 3 rfl ?_)));cases h10
    exact hB3 _ rfl _ _ (Gh.rN [0,1,2,3,4,5])
   ·have h11:=A5 h9 hb;refine rl.done ?_;refine RW.kp [0,2,3,5,6,27] [(0,.ptr 0 0),(2,.ptr 1 0),(3,.ptr 2 0),(5,.j s3.1),(6,.ptr 6 0),(27,.bool true)] [some ⟨[pvB B0_ o0_ x0.mB,.j v6.2.mI,.j v6.2.mH],0⟩,some ⟨[.nils,.nils,.j 0,.nils,.j 0,.j 0,.j 0,.j 0],0⟩,some ⟨[.sl 3 0 s3.2.2.2.2.2.2.2.2.1.length,.sl 4 0 s3.2.2.2.2.2.2.2.2.2.1.length,.j s3.2.2.2.1,.sl 5 0 s3.2.2.2.2.2.2.2.2.2.2.length,.j s3.2.2.2.2.1,.j s3.2.2.2.2.2.1,.j s3.2.2.2.2.2.2.1,.j s3.2.2.2.2.2.2.2.1],0⟩,some ⟨fl (encS true) s3.2.2.2.2.2.2.2.2.1,1⟩,some ⟨fl (A1 true) s3.2.2.2.2.2.2.2.2.2.1,2⟩,some ⟨fl (A8 true) s3.2.2.2.2.2.2.2.2.2.2,4⟩,some ⟨[.j s3.2.2.2.2.2.1,.j v6.1.Kind,.j v6.1.Valid,.j v6.1.Uid,.j v6.1.Next,.j v6.1.Flags,.str v6.1.User,.str v6.1.Name,.str v6.1.Text],0⟩] rfl rfl ?_;refine RW.cond_t rfl ?_
    refine RW.gh (Gh.absorbq (b:=2) (j:=0) (m:=3) rfl rfl rfl (by decide) (by decide) rfl (ekS.flen true _) (ekS.fown _)) ?_
    refine RW.gh (Gh.absorbq (b:=2) (j:=1) (m:=4) rfl rfl rfl (by decide) (by decide) rfl (B4.flen true _) (B4.fown _)) ?_
    refine RW.gh (Gh.absorbq (b:=2) (j:=3) (m:=5) rfl rfl rfl (by decide) (by decide) rfl (C1.flen true _) (C1.fown _)) ?_
    refine RW.reg (rl.run 1 rfl ?_);obtain ⟨v8,e8,h12⟩:=A2 h11;refine rl.call rfl rfl rfl (A6.eW (r0:=.bool v8.1) (H':=[some ⟨[pvB B0_ o0_ x0.mB,.j v6.2.mI,.j v6.2.mH],0⟩,some ⟨[.nils,.nils,.j 0,.nils,.j 0,.j 0,.j 0,.j 0],0⟩,some ⟨C2 true v8.2,0⟩,none,none,none,some ⟨[.j s3.2.2.2.2.2.1,.j v6.1.Kind,.j v6.1.Valid,.j v6.1.Uid,.j v6.1.Next,.j v6.1.Flags,.str v6.1.User,.str v6.1.Name,.str v6.1.Text],0⟩]) [⟨[.lst true 1 (fl (encS true) s3.2.2.2.2.2.2.2.2.1) s3.2.2.2.2.2.2.2.2.1.length,.lst true 2 (fl (A1 true) s3.2.2.2.2.2.2.2.2.2.1) s3.2.2.2.2.2.2.2.2.2.1.length,.j s3.2.2.2.1,.lst true 4 (fl (A8 true) s3.2.2.2.2.2.2.2.2.2.2) s3.2.2.2.2.2.2.2.2.2.2.length,.j s3.2.2.2.2.1,.j s3.2.2.2.2.2.1,.j s3.2.2.2.2.2.2.1,.j s3.2.2.2.2.2.2.2.1],0⟩] [⟨C2 true v8.2,0⟩] [2] (Lo e8) ?_);refine rl.done ?_
    refine RW.gh (Gh.expose (b:=2) (j:=0) rfl rfl (by decide) (ekS.fown _)) ?_
    refine RW.gh (Gh.expose (b:=2) (j:=1) rfl rfl (by decide) (B4.fown _)) ?_
    refine RW.gh (Gh.expose (b:=2) (j:=3) rfl rfl (by decide) (C1.fown _)) ?_
    refine RW.reg (rl.f 3 rfl ?_);cases h12
    exact hB3 _ rfl _ _ (Gh.rN [0,1,2,7,8,9])
 ·intro y4 hC
  subst hC;refine RW.sf 2 rfl (RW.ret ?_);cases h4
  exact RRetM.m [0,3,4,5] Gh.refl
theorem Ea {x0:TL01Cur} {B0_ o0_:Nat} {r:TCheck×TL01Cur×List TRef×Int×Int} (hF:P8 x0=some r):C0 Tryz.prog 0 94 [.ptr 0 0] [some ⟨[pvB B0_ o0_ x0.mB,.j x0.mI,.j x0.mH],0⟩] (.agg [.j r.1.Stamp,.j r.1.NextGen,.j r.1.NextSeq,.j r.1.NextValid,.sl 1 ((r.2.2.2.1:Int).toNat*2) r.1.Refs.length]) [some ⟨[pvB B0_ o0_ x0.mB,.j r.2.1.mI,.j r.2.1.mH],0⟩,some ⟨fl (B8 true) r.2.2.1,2⟩]:=by
 refine C0.p Xn ?_;unfold P8 at hF;refine RW.sf 1 rfl (RW.sr 1 rfl ?_);obtain ⟨v1,e1,h1⟩:=A2 hF;refine rl.call rfl rfl rfl (A6.eN (r0:=.agg (L1 2 3 4 v1.1)) (H':=[some ⟨[pvB B0_ o0_ x0.mB,.j v1.2.mI,.j v1.2.mH],0⟩,some ⟨[.j 0,.j 0,.j 0,.j 0,.nils],0⟩,some ⟨fl (encS true) v1.1.Disk.Sectors,1⟩,some ⟨fl (A1 true) v1.1.Disk.Cache,2⟩,some ⟨fl (A8 true) v1.1.Used,4⟩]) [⟨[pvB B0_ o0_ x0.mB,.j x0.mI,.j x0.mH],0⟩] [⟨[pvB B0_ o0_ x0.mB,.j v1.2.mI,.j v1.2.mH],0⟩] [⟨fl (encS true) v1.1.Disk.Sectors,1⟩,⟨fl (A1 true) v1.1.Disk.Cache,2⟩,⟨fl (A8 true) v1.1.Used,4⟩] [0] [pvB B0_ o0_ x0.mB] (Ru e1) ?_);obtain ⟨v2,e2,h2⟩:=A2 h1;refine rl.call rfl rfl rfl (A6.z (r':=.agg (Ez 5 v2)) (H':=[some ⟨[pvB B0_ o0_ x0.mB,.j v1.2.mI,.j v1.2.mH],0⟩,some ⟨[.j 0,.j 0,.j 0,.j 0,.nils],0⟩,some ⟨fl (encS true) v1.1.Disk.Sectors,1⟩,some ⟨fl (A1 true) v1.1.Disk.Cache,2⟩,some ⟨fl (A8 true) v1.1.Used,4⟩,some ⟨fl (B8 true) v2.Refs,2⟩]) (Jv e2) ?_);refine rl.f 2 rfl (RW.seq (RW.sr 1 rfl ?_));obtain ⟨v3,e3,h3⟩:=A2 h2;refine rl.call rfl rfl rfl (A6.eN (r0:=.j v3.1) (H':=[some ⟨[pvB B0_ o0_ x0.mB,.j v3.2.mI,.j v3.2.mH],0⟩,some ⟨[.j 0,.j 0,.j 0,.j 0,.nils],0⟩,some ⟨fl (encS true) v1.1.Disk.Sectors,1⟩,some ⟨fl (A1 true) v1.1.Disk.Cache,2⟩,some ⟨fl (A8 true) v1.1.Used,4⟩,some ⟨fl (B8 true) v2.Refs,2⟩,some ⟨Ez 5 v2,0⟩]) [⟨[pvB B0_ o0_ x0.mB,.j v1.2.mI,.j v1.2.mH],0⟩] [⟨[pvB B0_ o0_ x0.mB,.j v3.2.mI,.j v3.2.mH],0⟩] [] [0] [pvB B0_ o0_ x0.mB] (A9 e3) ?_);refine rl.done (RW.blk (RW.sreg ?_))
 refine rl.gen rfl rfl fun b hb=>?_
 cases b
 ·have h4:=A4 h3 hb;refine rl.f 1 rfl (RW.cond_f rfl (RW.sreg ?_))
  refine rl.gen rfl rfl fun b hb=>?_
  cases b
  ·have h5:=A4 h4 hb;refine rl.f 1 rfl (RW.cond_f rfl (RW.sreg ?_))
   refine rl.gen rfl rfl fun b hb=>?_
   cases b
   ·have h6:=A4 h5 hb;refine rl.f 1 rfl (RW.cond_f rfl (RW.sreg ?_))
    refine rl.gen rfl rfl fun b hb=>?_
    cases b
    ·have h7:=A4 h6 hb;refine rl.f 1 rfl ?_;refine RW.kp [2,3,33] [(2,.ptr 1 0),(3,.ptr 6 0),(33,.bool false)] [some ⟨[pvB B0_ o0_ x0.mB,.j v3.2.mI,.j v3.2.mH],0⟩,some ⟨[.j 0,.j 0,.j 0,.j 0,.nils],0⟩,some ⟨fl (encS true) v1.1.Disk.Sectors,1⟩,some ⟨fl (A1 true) v1.1.Disk.Cache,2⟩,some ⟨fl (A8 true) v1.1.Used,4⟩,some ⟨fl (B8 true) v2.Refs,2⟩,some ⟨Ez 5 v2,0⟩] rfl rfl ?_;refine RW.cond_f rfl (RW.skip (RW.sf 2 rfl (RW.ret ?_)));cases h7
     exact RRetM.m [0,5] Gh.refl
    ·have h8:=A5 h6 hb;refine rl.f 1 rfl ?_;refine RW.kp [2,3,33] [(2,.ptr 1 0),(3,.ptr 6 0),(33,.bool true)] [some ⟨[pvB B0_ o0_ x0.mB,.j v3.2.mI,.j v3.2.mH],0⟩,some ⟨[.j 0,.j 0,.j 0,.j 0,.nils],0⟩,some ⟨fl (encS true) v1.1.Disk.Sectors,1⟩,some ⟨fl (A1 true) v1.1.Disk.Cache,2⟩,some ⟨fl (A8 true) v1.1.Used,4⟩,some ⟨fl (B8 true) v2.Refs,2⟩,some ⟨Ez 5 v2,0⟩] rfl rfl ?_;refine RW.cond_t rfl (RW.reg (rl.run 2 rfl ?_));obtain ⟨v4,e4,h9⟩:=A2 h8;refine rl.op (Tp (i:=1) rfl rfl rfl rfl rfl Em e4) ?_;refine rl.f 2 rfl (RW.sf 2 rfl (RW.ret ?_));cases h9
     exact RRetM.m [0,5] Gh.refl
   ·have h10:=A5 h5 hb;refine rl.f 1 rfl (RW.cond_t rfl (RW.drw (A0.op rfl rfl (A0.op rfl rfl (A0.op rfl rfl ?_)))));obtain ⟨v5,e5,h11⟩:=A2 h10;refine A0.ccallB rfl rfl rfl (A6.eN (r0:=.j v5.1) (H':=[some ⟨[pvB B0_ o0_ x0.mB,.j v5.2.mI,.j v5.2.mH],0⟩,some ⟨[.j 0,.j 0,.j 0,.j 0,.nils],0⟩,some ⟨fl (encS true) v1.1.Disk.Sectors,1⟩,some ⟨fl (A1 true) v1.1.Disk.Cache,2⟩,some ⟨fl (A8 true) v1.1.Used,4⟩,some ⟨fl (B8 true) v2.Refs,2⟩,some ⟨Ez 5 v2,0⟩]) [⟨[pvB B0_ o0_ x0.mB,.j v3.2.mI,.j v3.2.mH],0⟩] [⟨[pvB B0_ o0_ x0.mB,.j v5.2.mI,.j v5.2.mH],0⟩] [] [0] [pvB B0_ o0_ x0.mB] (A9 e5) ⟨(.skip rfl (.here (.rx rfl) (.here (.rx rfl) .nil))),?_⟩);refine A0.opA rfl rfl (.here (.rx rfl) .nil) ?_;obtain ⟨v6,e6,h12⟩:=A2 h11;refine A0.ccallB rfl rfl rfl (A6.eN (r0:=.j v6.1) (H':=[some ⟨[pvB B0_ o0_ x0.mB,.j v6.2.mI,.j v6.2.mH],0⟩,some ⟨[.j 0,.j 0,.j 0,.j 0,.nils],0⟩,some ⟨fl (encS true) v1.1.Disk.Sectors,1⟩,some ⟨fl (A1 true) v1.1.Disk.Cache,2⟩,some ⟨fl (A8 true) v1.1.Used,4⟩,some ⟨fl (B8 true) v2.Refs,2⟩,some ⟨Ez 5 v2,0⟩]) [⟨[pvB B0_ o0_ x0.mB,.j v5.2.mI,.j v5.2.mH],0⟩] [⟨[pvB B0_ o0_ x0.mB,.j v6.2.mI,.j v6.2.mH],0⟩] [] [0] [pvB B0_ o0_ x0.mB] (A9 e6) ⟨(.skip rfl (.skip rfl (.here (.rx rfl) (.here (.rx rfl) .nil)))),?_⟩);refine A0.op rfl rfl ?_;refine A0.chnB rfl rfl (.skip rfl (.skip rfl (.skip rfl (.here (.rx rfl) (.here (.rx rfl) .nil))))) ?_;obtain ⟨v7,e7,h13⟩:=A2 h12;refine A0.chn rfl (T9 rfl rfl (M6 (l:=v2.Refs) (m:=[({ No:=v5.1,Gen:=v6.1 }:TRef)]) (o:=true) U6 rfl rfl (J3 (m:=[({ No:=v5.1,Gen:=v6.1 }:TRef)]) (o:=true) Ch rfl rfl) rfl (Ch.fst _ _) e7)) ?_;refine A0.op rfl rfl ?_;refine A0.chn rfl rfl ?_;refine A0.done (RW.sf 2 rfl ?_);refine RW.kp [2] [(2,.ptr 1 0)] [some ⟨[pvB B0_ o0_ x0.mB,.j v6.2.mI,.j v6.2.mH],0⟩,some ⟨[.j v2.Stamp,.j v2.NextGen,.j v2.NextSeq,.j v2.NextValid,.sl 8 0 v7.length],0⟩,some ⟨fl (encS true) v1.1.Disk.Sectors,1⟩,some ⟨fl (A1 true) v1.1.Disk.Cache,2⟩,some ⟨fl (A8 true) v1.1.Used,4⟩,none,some ⟨[.j v2.Stamp,.j v2.NextGen,.j v2.NextSeq,.j v2.NextValid,.sl 8 0 v7.length],0⟩,some ⟨fl (B8 true) [({ No:=v5.1,Gen:=v6.1 }:TRef)],2⟩,some ⟨fl (B8 true) v7,2⟩] rfl rfl ?_
    refine RW.ret ?_;cases h13
    exact RRetM.m [0,8] Gh.refl
  ·have h14:=A5 h4 hb;refine rl.f 1 rfl (RW.cond_t rfl (RW.reg (rl.run 2 rfl ?_)));obtain ⟨v8,e8,h15⟩:=A2 h14;refine rl.call rfl rfl rfl (A6.eN (r0:=.j v8.1) (H':=[some ⟨[pvB B0_ o0_ x0.mB,.j v8.2.mI,.j v8.2.mH],0⟩,some ⟨[.j 0,.j 0,.j 0,.j 0,.nils],0⟩,some ⟨fl (encS true) v1.1.Disk.Sectors,1⟩,some ⟨fl (A1 true) v1.1.Disk.Cache,2⟩,some ⟨fl (A8 true) v1.1.Used,4⟩,some ⟨fl (B8 true) v2.Refs,2⟩,some ⟨Ez 5 v2,0⟩,some ⟨fl (encI true) ([0,1,1000000000]:List Int),1⟩]) [⟨[pvB B0_ o0_ x0.mB,.j v3.2.mI,.j v3.2.mH],0⟩,⟨fl (encI true) ([0,1,1000000000]:List Int),1⟩] [⟨[pvB B0_ o0_ x0.mB,.j v8.2.mI,.j v8.2.mH],0⟩,⟨fl (encI true) ([0,1,1000000000]:List Int),1⟩] [] [0,7] [pvB B0_ o0_ x0.mB] (Cb e8) ?_);refine rl.f 2 rfl (RW.sf 2 rfl ?_);refine RW.kp [2] [(2,.ptr 1 0)] [some ⟨[pvB B0_ o0_ x0.mB,.j v8.2.mI,.j v8.2.mH],0⟩,some ⟨[.j v2.Stamp,.j v8.1,.j v2.NextSeq,.j v2.NextValid,.sl 5 0 v2.Refs.length],0⟩,some ⟨fl (encS true) v1.1.Disk.Sectors,1⟩,some ⟨fl (A1 true) v1.1.Disk.Cache,2⟩,some ⟨fl (A8 true) v1.1.Used,4⟩,some ⟨fl (B8 true) v2.Refs,2⟩,some ⟨[.j v2.Stamp,.j v8.1,.j v2.NextSeq,.j v2.NextValid,.sl 5 0 v2.Refs.length],0⟩,some ⟨fl (encI true) ([0,1,1000000000]:List Int),1⟩] rfl rfl ?_;refine RW.ret ?_;cases h15
   exact RRetM.m [0,5] Gh.refl
 ·have h16:=A5 h3 hb;refine rl.f 1 rfl (RW.cond_t rfl (RW.reg (rl.run 2 rfl ?_)));obtain ⟨v9,e9,h17⟩:=A2 h16;refine rl.call rfl rfl rfl (A6.eN (r0:=.j v9.1) (H':=[some ⟨[pvB B0_ o0_ x0.mB,.j v9.2.mI,.j v9.2.mH],0⟩,some ⟨[.j 0,.j 0,.j 0,.j 0,.nils],0⟩,some ⟨fl (encS true) v1.1.Disk.Sectors,1⟩,some ⟨fl (A1 true) v1.1.Disk.Cache,2⟩,some ⟨fl (A8 true) v1.1.Used,4⟩,some ⟨fl (B8 true) v2.Refs,2⟩,some ⟨Ez 5 v2,0⟩,some ⟨fl (encI true) ([0,1000000000,1000000001]:List Int),1⟩]) [⟨[pvB B0_ o0_ x0.mB,.j v3.2.mI,.j v3.2.mH],0⟩,⟨fl (encI true) ([0,1000000000,1000000001]:List Int),1⟩] [⟨[pvB B0_ o0_ x0.mB,.j v9.2.mI,.j v9.2.mH],0⟩,⟨fl (encI true) ([0,1000000000,1000000001]:List Int),1⟩] [] [0,7] [pvB B0_ o0_ x0.mB] (Cb e9) ?_);refine rl.f 2 rfl (RW.sf 2 rfl ?_);refine RW.kp [2] [(2,.ptr 1 0)] [some ⟨[pvB B0_ o0_ x0.mB,.j v9.2.mI,.j v9.2.mH],0⟩,some ⟨[.j v9.1,.j v2.NextGen,.j v2.NextSeq,.j v2.NextValid,.sl 5 0 v2.Refs.length],0⟩,some ⟨fl (encS true) v1.1.Disk.Sectors,1⟩,some ⟨fl (A1 true) v1.1.Disk.Cache,2⟩,some ⟨fl (A8 true) v1.1.Used,4⟩,some ⟨fl (B8 true) v2.Refs,2⟩,some ⟨[.j v9.1,.j v2.NextGen,.j v2.NextSeq,.j v2.NextValid,.sl 5 0 v2.Refs.length],0⟩,some ⟨fl (encI true) ([0,1000000000,1000000001]:List Int),1⟩] rfl rfl ?_;refine RW.ret ?_;cases h17
  exact RRetM.m [0,5] Gh.refl
theorem Kv {x0:List Int} {r:TCheck} (hF:T2 x0=some r):A7 Tryz.prog 35 [L_B x0] (.agg (B6 false r)):=by
 refine A7.q Mf ?_;unfold T2 at hF;refine RW.sf 1 rfl ?_
 refine RW.pin 0 rfl fun B1 o1=>?_
 refine RW.sr 1 rfl ?_;obtain ⟨v2,e2,h1⟩:=A2 hF;refine rl.call rfl rfl rfl (A6.eN (r0:=.ptr 1 0) (H':=[some ⟨[.j 0,.j 0,.j 0,.j 0,.nils],0⟩,some ⟨[pvB B1 o1 x0,.j v2.mI,.j v2.mH],0⟩]) [] [] [⟨[pvB B1 o1 x0,.j v2.mI,.j v2.mH],0⟩] [] [pvB B1 o1 x0] (Ft e2) ?_);obtain ⟨v3,e3,h2⟩:=A2 h1;refine rl.call rfl rfl rfl (A6.eN (r0:=.agg [.j v3.1.Stamp,.j v3.1.NextGen,.j v3.1.NextSeq,.j v3.1.NextValid,.sl 2 ((v3.2.2.2.1:Int).toNat*2) v3.1.Refs.length]) (H':=[some ⟨[.j 0,.j 0,.j 0,.j 0,.nils],0⟩,some ⟨[pvB B1 o1 x0,.j v3.2.1.mI,.j v3.2.1.mH],0⟩,some ⟨fl (B8 true) v3.2.2.1,2⟩]) [⟨[pvB B1 o1 x0,.j v2.mI,.j v2.mH],0⟩] [⟨[pvB B1 o1 x0,.j v3.2.1.mI,.j v3.2.1.mH],0⟩] [⟨fl (B8 true) v3.2.2.1,2⟩] [1] [pvB B1 o1 x0] (Ea (Kk e3)) ?_);refine rl.f 1 rfl (RW.ret ?_);cases h2
 exact RRet.m rfl (OutL.agg (.i (.i (.i (.i (.cons (OutR.viewq Ch rfl (Ki (p:=fun r:TCheck×TL01Cur×List TRef×Int×Int=>sub? r.2.2.1 r.2.2.2.1 r.2.2.2.2=some r.1.Refs) e3)) rfl .nil))))))
theorem W1 {x0:TL01Cur} {x1:Int} {B0_ o0_:Nat} {r:(List UInt8)×TL01Cur} (hF:G9 x0 x1=some r):C0 Tryz.prog 0 155 [.ptr 0 0,.j x1] [some ⟨[pvB B0_ o0_ x0.mB,.j x0.mI,.j x0.mH],0⟩] (.str r.1) [some ⟨[pvB B0_ o0_ x0.mB,.j r.2.mI,.j r.2.mH],0⟩]:=by
 refine C0.q Zo ?_;unfold G9 at hF;refine RW.sf 1 rfl (RW.seq (RW.sr 1 rfl ?_))
 refine rl.gen rfl rfl fun b hb=>?_
 cases b
 ·have h1:=A4 hF hb;refine rl.done (RW.cond_f rfl (RW.skip (RW.sf 2 rfl (RW.seq (RW.sf 1 rfl ?_)))));refine RW.gh (Gh.nil_t 5 1 rfl) ?_;obtain ⟨y5,ey5,h3⟩:=A2 h1
  refine RW.cutq (σ:=Int×Int×(List Int)) (fun y2=>[(5,.sl 1 0 y2.2.2.length)]) (fun y2=>[some ⟨[pvB B0_ o0_ x0.mB,.j y2.1,.j y2.2.1],0⟩,some ⟨fl (encB true) y2.2.2,1⟩]) (fun y=>y5=y) gg ?_ ?_
  ·refine RW.blk ?_
   refine RW.iter (σ:=Int×Int×Int×(List Int)) ey5 (fun s1=>[(0,.ptr 0 0),(1,.j x1),(5,.sl 1 0 s1.2.2.2.length),(6,.j s1.1)]) (fun s1=>[some ⟨[pvB B0_ o0_ x0.mB,.j s1.2.1,.j s1.2.2.1],0⟩,some ⟨fl (encB true) s1.2.2.2,1⟩]) (Gh.rN [0,1]) (fun s1 B o hS2 hB2 hE2=>?_)
   unfold W7 at hS2;refine RW.seq (RW.sr 2 rfl ?_)
   refine rl.gen rfl rfl fun b hb=>?_
   cases b
   ·have h4:=A4 hS2 hb;refine rl.done (RW.cond_f rfl (RW.exit (C7 ?_)));cases h4
    exact ⟨_,(hE2 _ rfl).symm,(Gh.rN [0,1])⟩
   ·have h5:=A5 hS2 hb;refine rl.done (RW.cond_t rfl (RW.skip (RW.seq (RW.blk (RW.reg (rl.run 2 rfl ?_))))));obtain ⟨v3,e3,h6⟩:=A2 h5;refine rl.call rfl rfl rfl (A6.eN (r0:=.j v3.1) (H':=[some ⟨[pvB B0_ o0_ x0.mB,.j v3.2.mI,.j v3.2.mH],0⟩,some ⟨fl (encB true) s1.2.2.2,1⟩]) [⟨[pvB B0_ o0_ x0.mB,.j s1.2.1,.j s1.2.2.1],0⟩] [⟨[pvB B0_ o0_ x0.mB,.j v3.2.mI,.j v3.2.mH],0⟩] [] [0] [pvB B0_ o0_ x0.mB] (M7 e3) ?_);refine rl.run 2 rfl ?_;obtain ⟨v4,e4,h7⟩:=A2 h6;refine rl.op (T9 rfl rfl (M6 (l:=s1.2.2.2) (m:=[IntKind.u8.wrap v3.1]) (o:=true) ekB rfl rfl (J3 (m:=[IntKind.u8.wrap v3.1]) (o:=true) fkB rfl rfl) rfl (fkB.fst _ _) e4)) ?_;refine rl.f 1 rfl (RW.reg (rl.f 3 rfl ?_));cases h7
    exact hB2 _ rfl _ _ (Gh.rN [0,3])
  ·intro y2 hC
   subst hC;refine RW.sr 1 rfl ?_;refine rl.op (Gq (o:=true) (l:=y5.2.2) rfl rfl) ?_;refine rl.f 1 rfl (RW.ret ?_);cases h3
   exact RRetS.m (Gh.rN [0])
 ·have h8:=A5 hF hb;refine rl.done (RW.cond_t rfl (RW.reg (rl.f 1 rfl (RW.sf 2 rfl (RW.seq (RW.sf 1 rfl ?_))))));refine RW.gh (Gh.nil_t 5 1 rfl) ?_;obtain ⟨y10,ey10,h10⟩:=A2 h8
  refine RW.cutq (σ:=Int×Int×(List Int)) (fun y7=>[(5,.sl 1 0 y7.2.2.length)]) (fun y7=>[some ⟨[pvB B0_ o0_ x0.mB,.j y7.1,.j y7.2.1],0⟩,some ⟨fl (encB true) y7.2.2,1⟩]) (fun y=>y10=y) gg ?_ ?_
  ·refine RW.blk ?_
   refine RW.iter (σ:=Int×Int×Int×(List Int)) ey10 (fun s6=>[(0,.ptr 0 0),(1,.j 5000),(5,.sl 1 0 s6.2.2.2.length),(6,.j s6.1)]) (fun s6=>[some ⟨[pvB B0_ o0_ x0.mB,.j s6.2.1,.j s6.2.2.1],0⟩,some ⟨fl (encB true) s6.2.2.2,1⟩]) (Gh.rN [0,1]) (fun s6 B o hS9 hB9 hE9=>?_)
   unfold Hu at hS9;refine RW.seq (RW.sr 2 rfl ?_)
   refine rl.gen rfl rfl fun b hb=>?_
   cases b
   ·have h11:=A4 hS9 hb;refine rl.done (RW.cond_f rfl (RW.exit (C7 ?_)));cases h11
    exact ⟨_,(hE9 _ rfl).symm,(Gh.rN [0,1])⟩
   ·have h12:=A5 hS9 hb;refine rl.done (RW.cond_t rfl (RW.skip (RW.seq (RW.blk (RW.reg (rl.run 2 rfl ?_))))));obtain ⟨v8,e8,h13⟩:=A2 h12;refine rl.call rfl rfl rfl (A6.eN (r0:=.j v8.1) (H':=[some ⟨[pvB B0_ o0_ x0.mB,.j v8.2.mI,.j v8.2.mH],0⟩,some ⟨fl (encB true) s6.2.2.2,1⟩]) [⟨[pvB B0_ o0_ x0.mB,.j s6.2.1,.j s6.2.2.1],0⟩] [⟨[pvB B0_ o0_ x0.mB,.j v8.2.mI,.j v8.2.mH],0⟩] [] [0] [pvB B0_ o0_ x0.mB] (M7 e8) ?_);refine rl.run 2 rfl ?_;obtain ⟨v9,e9,h14⟩:=A2 h13;refine rl.op (T9 rfl rfl (M6 (l:=s6.2.2.2) (m:=[IntKind.u8.wrap v8.1]) (o:=true) ekB rfl rfl (J3 (m:=[IntKind.u8.wrap v8.1]) (o:=true) fkB rfl rfl) rfl (fkB.fst _ _) e9)) ?_;refine rl.f 1 rfl (RW.reg (rl.f 3 rfl ?_));cases h14
    exact hB9 _ rfl _ _ (Gh.rN [0,3])
  ·intro y7 hC
   subst hC;refine RW.sr 1 rfl ?_;refine rl.op (Gq (o:=true) (l:=y10.2.2) rfl rfl) ?_;refine rl.f 1 rfl (RW.ret ?_);cases h10
   exact RRetS.m (Gh.rN [0])
theorem Ms {x0:TL01Cur} {x1:List UInt8} {B0_ o0_:Nat} {r:(List UInt8)×TL01Cur} (hF:W0 x0 x1=some r):C0 Tryz.prog 0 100 [.ptr 0 0,.str x1] [some ⟨[pvB B0_ o0_ x0.mB,.j x0.mI,.j x0.mH],0⟩] (.str r.1) [some ⟨[pvB B0_ o0_ x0.mB,.j r.2.mI,.j r.2.mH],0⟩]:=by
 refine C0.q Vb ?_;unfold W0 at hF;refine RW.sf 1 rfl (RW.seq (RW.sr 1 rfl ?_));obtain ⟨v1,e1,h1⟩:=A2 hF;refine rl.call rfl rfl rfl (A6.eN (r0:=.j v1.1) (H':=[some ⟨[pvB B0_ o0_ x0.mB,.j v1.2.mI,.j v1.2.mH],0⟩]) [⟨[pvB B0_ o0_ x0.mB,.j x0.mI,.j x0.mH],0⟩] [⟨[pvB B0_ o0_ x0.mB,.j v1.2.mI,.j v1.2.mH],0⟩] [] [0] [pvB B0_ o0_ x0.mB] (A9 e1) ?_);refine rl.done (RW.blk (RW.sreg ?_))
 refine rl.gen rfl rfl fun b hb=>?_
 cases b
 ·have h2:=A4 h1 hb;refine rl.f 1 rfl (RW.cond_f rfl (RW.sreg ?_))
  refine rl.gen rfl rfl fun b hb=>?_
  cases b
  ·have h3:=A4 h2 hb;refine rl.f 1 rfl (RW.cond_f rfl (RW.seq (RW.sreg ?_)))
   refine rl.gen rfl rfl fun b hb=>?_
   cases b
   ·have h4:=A4 h3 hb;refine rl.f 1 rfl ?_;obtain ⟨y2,ey2,h5⟩:=A2 h4
    refine RW.cutq (σ:=Bool) (fun y2=>[(0,.ptr 0 0),(1,.str x1),(23,.bool y2)]) (fun y2=>[some ⟨[pvB B0_ o0_ x0.mB,.j v1.2.mI,.j v1.2.mH],0⟩]) (fun y=>y2=y) gg ?_ ?_
    ·refine RW.cond_f rfl ?_;refine RW.reg ?_
     refine rl.gen rfl rfl fun b hb=>?_
     cases b
     ·have h6:=A4 ey2 hb;refine rl.f 1 rfl ?_;cases h6
      exact ⟨_,rfl,(Gh.rN [0])⟩
     ·have h7:=A5 ey2 hb;refine rl.f 1 rfl ?_;cases h7
      exact ⟨_,rfl,(Gh.rN [0])⟩
    ·intro y hC
     subst hC
     cases hb:y2
     ·have h8:=A4 h5 hb;refine RW.cond_f rfl (RW.skip (RW.sf 2 rfl (RW.ret ?_)));cases h8
      exact RRetS.m (Gh.rN [0])
     ·have h9:=A5 h5 hb;refine RW.cond_t rfl (RW.sr 2 rfl ?_)
      refine rl.gen rfl rfl fun b hb=>?_
      cases b
      ·have h10:=A4 h9 hb;refine rl.done (RW.cond_f rfl (RW.skip (RW.sf 2 rfl (RW.ret ?_))));cases h10
       exact RRetS.m (Gh.rN [0])
      ·have h11:=A5 h9 hb;refine rl.done (RW.cond_t rfl (RW.sr 3 rfl ?_));obtain ⟨v3,e3,h12⟩:=A2 h11;refine rl.call rfl rfl rfl (A6.eN (r0:=.j v3.1) (H':=[some ⟨[pvB B0_ o0_ x0.mB,.j v3.2.mI,.j v3.2.mH],0⟩]) [⟨[pvB B0_ o0_ x0.mB,.j v1.2.mI,.j v1.2.mH],0⟩] [⟨[pvB B0_ o0_ x0.mB,.j v3.2.mI,.j v3.2.mH],0⟩] [] [0] [pvB B0_ o0_ x0.mB] (A9 e3) ?_);refine rl.f 1 rfl (RW.sdrw (A0.op rfl rfl (A0.op rfl rfl ?_)));obtain ⟨v4,e4,h13⟩:=A2 h12;refine A0.op rfl (V4 rfl rfl rfl T5 e4) ?_;refine A0.op rfl rfl ?_;obtain ⟨v5,e5,h14⟩:=A2 h13;refine A0.ccallB rfl rfl rfl (A6.eN (r0:=.str v5.1) (H':=[some ⟨[pvB B0_ o0_ x0.mB,.j v5.2.mI,.j v5.2.mH],0⟩]) [⟨[pvB B0_ o0_ x0.mB,.j v3.2.mI,.j v3.2.mH],0⟩] [⟨[pvB B0_ o0_ x0.mB,.j v5.2.mI,.j v5.2.mH],0⟩] [] [0] [pvB B0_ o0_ x0.mB] (W1 e5) ⟨(.skip rfl (.here (.rx (V4 rfl rfl rfl T5 e4)) (.here (.rx rfl) (.here (.rx rfl) .nil)))),?_⟩);obtain ⟨v6,e6,h15⟩:=A2 h14;refine A0.op rfl (M0 rfl rfl e6) ?_;refine A0.opA rfl rfl (.here (.rx rfl) .nil) ?_;refine A0.opA rfl rfl (.here (.rx rfl) .nil) ?_;refine A0.opA rfl rfl (.here (.rx rfl) .nil) ?_;obtain ⟨v7,e7,h16⟩:=A2 h15;refine A0.opA rfl (V4 rfl rfl rfl Em e7) (.here (.rx (V4 rfl rfl rfl Em e7)) .nil) ?_;obtain ⟨v8,e8,h17⟩:=A2 h16;refine A0.op rfl (M0 rfl rfl e8) ?_;refine A0.op rfl rfl (A0.done ?_);refine RW.kp [4] [(4,.str v8)] [some ⟨[pvB B0_ o0_ x0.mB,.j v5.2.mI,.j v5.2.mH],0⟩] rfl rfl ?_;refine RW.ret ?_;cases h17
       exact RRetS.m (Gh.rN [0])
   ·have h18:=A5 h3 hb;refine rl.f 1 rfl (RW.cond_t rfl (RW.skip (RW.cond_t rfl (RW.sr 2 rfl ?_))))
    refine rl.gen rfl rfl fun b hb=>?_
    cases b
    ·have h19:=A4 h18 hb;refine rl.done ?_;refine RW.kp [0,1,28] [(0,.ptr 0 0),(1,.str x1),(28,.bool false)] [some ⟨[pvB B0_ o0_ x0.mB,.j v1.2.mI,.j v1.2.mH],0⟩] rfl rfl ?_;refine RW.cond_f rfl (RW.skip (RW.sf 2 rfl (RW.ret ?_)));cases h19
     exact RRetS.m (Gh.rN [0])
    ·have h20:=A5 h18 hb;refine rl.done ?_;refine RW.kp [0,1,28] [(0,.ptr 0 0),(1,.str x1),(28,.bool true)] [some ⟨[pvB B0_ o0_ x0.mB,.j v1.2.mI,.j v1.2.mH],0⟩] rfl rfl ?_;refine RW.cond_t rfl (RW.sr 3 rfl ?_);obtain ⟨v9,e9,h21⟩:=A2 h20;refine rl.call rfl rfl rfl (A6.eN (r0:=.j v9.1) (H':=[some ⟨[pvB B0_ o0_ x0.mB,.j v9.2.mI,.j v9.2.mH],0⟩]) [⟨[pvB B0_ o0_ x0.mB,.j v1.2.mI,.j v1.2.mH],0⟩] [⟨[pvB B0_ o0_ x0.mB,.j v9.2.mI,.j v9.2.mH],0⟩] [] [0] [pvB B0_ o0_ x0.mB] (A9 e9) ?_);refine rl.f 1 rfl (RW.sdrw (A0.op rfl rfl (A0.op rfl rfl ?_)));obtain ⟨v10,e10,h22⟩:=A2 h21;refine A0.op rfl (V4 rfl rfl rfl T5 e10) ?_;refine A0.op rfl rfl ?_;obtain ⟨v11,e11,h23⟩:=A2 h22;refine A0.ccallB rfl rfl rfl (A6.eN (r0:=.str v11.1) (H':=[some ⟨[pvB B0_ o0_ x0.mB,.j v11.2.mI,.j v11.2.mH],0⟩]) [⟨[pvB B0_ o0_ x0.mB,.j v9.2.mI,.j v9.2.mH],0⟩] [⟨[pvB B0_ o0_ x0.mB,.j v11.2.mI,.j v11.2.mH],0⟩] [] [0] [pvB B0_ o0_ x0.mB] (W1 e11) ⟨(.skip rfl (.here (.rx (V4 rfl rfl rfl T5 e10)) (.here (.rx rfl) (.here (.rx rfl) .nil)))),?_⟩);obtain ⟨v12,e12,h24⟩:=A2 h23;refine A0.op rfl (M0 rfl rfl e12) ?_;refine A0.opA rfl rfl (.here (.rx rfl) .nil) ?_;refine A0.opA rfl rfl (.here (.rx rfl) .nil) ?_;refine A0.opA rfl rfl (.here (.rx rfl) .nil) ?_;obtain ⟨v13,e13,h25⟩:=A2 h24;refine A0.opA rfl (V4 rfl rfl rfl Em e13) (.here (.rx (V4 rfl rfl rfl Em e13)) .nil) ?_;obtain ⟨v14,e14,h26⟩:=A2 h25;refine A0.op rfl (M0 rfl rfl e14) ?_;refine A0.op rfl rfl (A0.done ?_);refine RW.kp [4] [(4,.str v14)] [some ⟨[pvB B0_ o0_ x0.mB,.j v11.2.mI,.j v11.2.mH],0⟩] rfl rfl ?_;refine RW.ret ?_;cases h26
     exact RRetS.m (Gh.rN [0])
  ·have h27:=A5 h2 hb;refine rl.f 1 rfl (RW.cond_t rfl (RW.sr 5 rfl ?_));obtain ⟨v15,e15,h28⟩:=A2 h27;refine rl.call rfl rfl rfl (A6.eN (r0:=.j v15.1) (H':=[some ⟨[pvB B0_ o0_ x0.mB,.j v15.2.mI,.j v15.2.mH],0⟩]) [⟨[pvB B0_ o0_ x0.mB,.j v1.2.mI,.j v1.2.mH],0⟩] [⟨[pvB B0_ o0_ x0.mB,.j v15.2.mI,.j v15.2.mH],0⟩] [] [0] [pvB B0_ o0_ x0.mB] (A9 e15) ?_);obtain ⟨v16,e16,h29⟩:=A2 h28;refine rl.op (V4 rfl rfl rfl T5 e16) ?_;refine rl.f 1 rfl ?_;refine RW.kp [4] [(4,.str v16)] [some ⟨[pvB B0_ o0_ x0.mB,.j v15.2.mI,.j v15.2.mH],0⟩] rfl rfl ?_;refine RW.ret ?_;cases h29
   exact RRetS.m (Gh.rN [0])
 ·have h30:=A5 h1 hb;refine rl.f 1 rfl (RW.cond_t rfl (RW.sr 2 rfl ?_));obtain ⟨v17,e17,h31⟩:=A2 h30;refine rl.call rfl rfl rfl (A6.eN (r0:=.str v17.1) (H':=[some ⟨[pvB B0_ o0_ x0.mB,.j v17.2.mI,.j v17.2.mH],0⟩]) [⟨[pvB B0_ o0_ x0.mB,.j v1.2.mI,.j v1.2.mH],0⟩] [⟨[pvB B0_ o0_ x0.mB,.j v17.2.mI,.j v17.2.mH],0⟩] [] [0] [pvB B0_ o0_ x0.mB] (W1 e17) ?_);obtain ⟨v18,e18,h32⟩:=A2 h31;refine rl.op (M0 rfl rfl e18) ?_;refine rl.f 1 rfl (RW.ret ?_);cases h32
  exact RRetS.m (Gh.rN [0])
theorem La {x0:List Int} {r:List UInt8} (hF:R8 x0=some r):A7 Tryz.prog 38 [L_B x0] (.str r):=by
 refine A7.q Mn ?_;unfold R8 at hF;refine RW.sf 1 rfl ?_
 refine RW.pin 0 rfl fun B1 o1=>?_
 refine RW.sr 1 rfl ?_;obtain ⟨v2,e2,h1⟩:=A2 hF;refine rl.call rfl rfl rfl (A6.eN (r0:=.ptr 0 0) (H':=[some ⟨[pvB B1 o1 x0,.j v2.mI,.j v2.mH],0⟩]) [] [] [⟨[pvB B1 o1 x0,.j v2.mI,.j v2.mH],0⟩] [] [pvB B1 o1 x0] (Ft e2) ?_);refine rl.f 1 rfl (RW.sr 1 rfl ?_);obtain ⟨v3,e3,h2⟩:=A2 h1;refine rl.call rfl rfl rfl (A6.eN (r0:=.j v3.1) (H':=[some ⟨[pvB B1 o1 x0,.j v3.2.mI,.j v3.2.mH],0⟩]) [⟨[pvB B1 o1 x0,.j v2.mI,.j v2.mH],0⟩] [⟨[pvB B1 o1 x0,.j v3.2.mI,.j v3.2.mH],0⟩] [] [0] [pvB B1 o1 x0] (A9 e3) ?_);refine rl.f 1 rfl (RW.sr 1 rfl ?_);obtain ⟨v4,e4,h3⟩:=A2 h2;refine rl.call rfl rfl rfl (A6.eN (r0:=.agg [.j v4.1.Stamp,.j v4.1.NextGen,.j v4.1.NextSeq,.j v4.1.NextValid,.sl 1 ((v4.2.2.2.1:Int).toNat*2) v4.1.Refs.length]) (H':=[some ⟨[pvB B1 o1 x0,.j v4.2.1.mI,.j v4.2.1.mH],0⟩,some ⟨fl (B8 true) v4.2.2.1,2⟩]) [⟨[pvB B1 o1 x0,.j v3.2.mI,.j v3.2.mH],0⟩] [⟨[pvB B1 o1 x0,.j v4.2.1.mI,.j v4.2.1.mH],0⟩] [⟨fl (B8 true) v4.2.2.1,2⟩] [0] [pvB B1 o1 x0] (Ea (Kk e4)) ?_);obtain ⟨v5,e5,h4⟩:=A2 h3
 refine rl.call rfl rfl rfl (A6.val (r':=.tup [.str v5.1,.bool v5.2]) Ty (Q8 e5) (.cons (DFL.agg (.cons .int (.cons .int (.cons .int (.cons .int (.cons (DF.slp U6 rfl (Ki (p:=fun r:TCheck×TL01Cur×List TRef×Int×Int=>sub? r.2.2.1 r.2.2.2.1 r.2.2.2.2=some r.1.Refs) e4)) .nil)))))) .nil) (FlL.tup (.cons .refl (.cons .refl .nil))) ?_)
 refine rl.f 5 rfl ?_;refine RW.kp [3,4,5] [(3,.ptr 0 0),(4,.j v3.1),(5,.str v5.1)] [some ⟨[pvB B1 o1 x0,.j v4.2.1.mI,.j v4.2.1.mH],0⟩,some ⟨fl (B8 true) v4.2.2.1,2⟩] rfl rfl ?_;refine RW.seq (RW.sr 1 rfl ?_)
 refine rl.gen rfl rfl fun b hb=>?_
 cases b
 ·have h5:=A4 h4 hb;refine rl.done (RW.cond_f rfl (RW.skip (RW.sr 1 rfl ?_)));obtain ⟨v6,e6,h6⟩:=A2 h5;refine rl.op (M0 rfl rfl e6) ?_;refine rl.f 1 rfl (RW.ret ?_);cases h6
  exact RRet.y
 ·have h7:=A5 h4 hb;refine rl.done (RW.cond_t rfl (RW.sr 2 rfl ?_));obtain ⟨v7,e7,h8⟩:=A2 h7;refine rl.call rfl rfl rfl (A6.eN (r0:=.str v7.1) (H':=[some ⟨[pvB B1 o1 x0,.j v7.2.mI,.j v7.2.mH],0⟩,some ⟨fl (B8 true) v4.2.2.1,2⟩]) [⟨[pvB B1 o1 x0,.j v4.2.1.mI,.j v4.2.1.mH],0⟩] [⟨[pvB B1 o1 x0,.j v7.2.mI,.j v7.2.mH],0⟩] [] [0] [pvB B1 o1 x0] (Ms e7) ?_);refine rl.f 1 rfl (RW.ret ?_);cases h8
  exact RRet.y
theorem Tu {x0:List UInt8} {r:(List UInt8)×Bool} (hF:Br x0=some r):A7 Tryz.prog 102 [.str x0] (.tup [.str r.1,.bool r.2]):=by
 refine A7.q Xg ?_;unfold Br at hF;refine RW.sf 2 rfl (RW.sf 4 rfl (RW.seq (RW.seq ?_)));obtain ⟨y1,ey1,h1⟩:=A2 hF
 refine RW.cutq (σ:=Bool) (fun y1=>[(0,.str x0),(4,.j (w64 ((x0.length:Int) - 4))),(20,.bool y1)]) (fun y1=>[]) (fun y=>y1=y) gg ?_ ?_
 ·refine RW.drw ?_;refine A0.op rfl rfl ?_;obtain ⟨v2,e2,h2⟩:=A2 ey1;refine A0.call rfl rfl rfl (A6.y (r':=.bool v2) (C8 e2) ⟨rfl,?_⟩)
  cases hb:v2
  ·have h3:=A4 h2 hb;refine A0.op rfl rfl (A0.op rfl rfl (A0.off rfl (A0.off rfl (A0.off rfl (A0.off rfl (A0.off rfl (A0.off rfl (A0.off rfl (A0.off rfl (A0.op rfl rfl (A0.done ?_)))))))))));cases h3
   exact ⟨_,rfl,(Gh.y0 [])⟩
  ·have h4:=A5 h2 hb;refine A0.op rfl rfl (A0.op rfl rfl (A0.op rfl rfl (A0.op rfl rfl ?_)));obtain ⟨v3,e3,h5⟩:=A2 h4;refine A0.op rfl (V4 rfl rfl rfl Em e3) ?_;refine A0.op rfl rfl (A0.op rfl rfl ?_);obtain ⟨v4,e4,h6⟩:=A2 h5;refine A0.op rfl (V4 rfl rfl rfl T5 e4) ?_;obtain ⟨v5,e5,h7⟩:=A2 h6;refine A0.call rfl rfl rfl (A6.y (r':=.str v5) (Jn e5) ⟨rfl,?_⟩)
   refine A0.gen rfl rfl fun b hb=>?_
   cases b
   ·have h8:=A4 h7 hb;refine A0.op rfl rfl (A0.done ?_);cases h8
    exact ⟨_,rfl,(Gh.y0 [])⟩
   ·have h9:=A5 h7 hb;refine A0.op rfl rfl (A0.done ?_);cases h9
    exact ⟨_,rfl,(Gh.y0 [])⟩
 ·intro y hC
  subst hC
  cases hb:y1
  ·have h10:=A4 h1 hb;refine RW.cond_f rfl (RW.skip (RW.sr 2 rfl ?_));obtain ⟨v6,e6,h11⟩:=A2 h10;refine rl.op (V4 rfl rfl rfl T5 e6) ?_;refine rl.f 2 rfl (RW.ret ?_);cases h11
   exact RRet.y
  ·have h12:=A5 h1 hb;refine RW.cond_t rfl (RW.sf 2 rfl (RW.ret ?_));cases h12
   exact RRet.y
theorem Qb {x0:List UInt8} {r:TCheck×Bool} (hF:M9 x0=some r):A7 Tryz.prog 39 [.str x0] (.tup [.agg (B6 true r.1),.bool r.2]):=by
 refine A7.q Wo ?_;unfold M9 at hF;refine RW.sf 2 rfl (RW.sr 1 rfl ?_);obtain ⟨v1,e1,h1⟩:=A2 hF;refine rl.call rfl rfl rfl (A6.y (r':=.tup [.str v1.1,.j v1.2.1,.bool v1.2.2]) (V7 e1) ?_);refine rl.f 7 rfl (RW.sr 1 rfl ?_);obtain ⟨v2,e2,h2⟩:=A2 h1;refine rl.call rfl rfl rfl (A6.y (r':=.tup [.str v2.1,.bool v2.2]) (Tu e2) ?_);refine rl.f 5 rfl ?_;refine RW.kp [0,2,5,6,7,8] [(0,.str x0),(2,.ptr 0 0),(5,.j v1.2.1),(6,.bool v1.2.2),(7,.str v2.1),(8,.bool v2.2)] [some ⟨[.j 0,.j 0,.j 0,.j 0,.nils],0⟩] rfl rfl ?_;refine RW.seq (RW.sr 3 rfl ?_)
 cases hb:(!v1.2.2)
 ·have h3:=A4 h2 hb;refine rl.f 3 rfl ?_
  cases hb:(!v2.2)
  ·have h4:=A4 h3 hb;refine RW.cond_f rfl (RW.skip (RW.sf 2 rfl (RW.seq (RW.sf 1 rfl ?_))));refine RW.gh (Gh.nil_t 9 1 rfl) ?_;obtain ⟨y7,ey7,h6⟩:=A2 h4
   refine RW.cutq (σ:=(List Int)) (fun y4=>[(0,.str x0),(2,.ptr 0 0),(5,.j v1.2.1),(9,.sl 1 0 y4.length)]) (fun y4=>[some ⟨[.j 0,.j 0,.j 0,.j 0,.nils],0⟩,some ⟨fl (encI true) y4,1⟩]) (fun y=>y7=.inr y) gg ?_ ?_
   ·refine RW.blk ?_
    refine RW.iter (σ:=Int×(List Int)) ey7 (fun s3=>[(0,.str x0),(2,.ptr 0 0),(5,.j v1.2.1),(7,.str v2.1),(9,.sl 1 0 s3.2.length),(10,.j s3.1)]) (fun s3=>[some ⟨[.j 0,.j 0,.j 0,.j 0,.nils],0⟩,some ⟨fl (encI true) s3.2,1⟩]) (Gh.y0 [0,1]) (fun s3 B o hS5 hB5 hE5=>?_)
    unfold L4 at hS5;refine RW.seq (RW.sr 3 rfl ?_)
    refine rl.gen rfl rfl fun b hb=>?_
    cases b
    ·have h7:=A4 hS5 hb;refine rl.done (RW.cond_f rfl (RW.exit (C7 ?_)));cases h7
     exact ⟨_,(hE5 _ rfl).symm,(Gh.y0 [0,1])⟩
    ·have h8:=A5 hS5 hb;refine rl.done (RW.cond_t rfl (RW.skip (RW.blk (RW.sr 2 rfl ?_))));obtain ⟨v5,e5,h9⟩:=A2 h8;refine rl.call rfl rfl rfl (A6.y (r':=.tup [.j v5.1,.j v5.2.1,.bool v5.2.2]) (P2 e5) ?_);refine rl.f 7 rfl ?_;refine RW.kp [0,2,5,7,9,11,12,13] [(0,.str x0),(2,.ptr 0 0),(5,.j v1.2.1),(7,.str v2.1),(9,.sl 1 0 s3.2.length),(11,.j v5.1),(12,.j v5.2.1),(13,.bool v5.2.2)] [some ⟨[.j 0,.j 0,.j 0,.j 0,.nils],0⟩,some ⟨fl (encI true) s3.2,1⟩] rfl rfl ?_;refine RW.seq (RW.sf 2 rfl ?_)
     cases hb:(!v5.2.2)
     ·have h10:=A4 h9 hb;refine RW.cond_f rfl (RW.skip (RW.sr 3 rfl ?_));obtain ⟨v6,e6,h11⟩:=A2 h10;refine rl.op (T9 rfl rfl (M6 (l:=s3.2) (m:=[v5.1]) (o:=true) ekI rfl rfl (J3 (m:=[v5.1]) (o:=true) fkI rfl rfl) rfl (fkI.fst _ _) e6)) ?_;refine rl.f 1 rfl (RW.reg (rl.f 2 rfl ?_));cases h11
      exact hB5 _ rfl _ _ (Gh.y0 [0,3])
     ·have h12:=A5 h9 hb;refine RW.cond_t rfl (RW.sf 3 rfl (RW.ret ?_));cases h12;have h13:=elimL h6 (hE5 _ rfl);cases h13
      exact RRet.y
   ·intro y4 hC
    have h6:=elimR h6 hC;refine RW.seq (RW.sr 2 rfl ?_)
    refine rl.gen rfl rfl fun b hb=>?_
    cases b
    ·have h14:=A4 h6 hb;refine rl.done (RW.cond_f rfl (RW.skip (RW.sdrw (A0.op rfl rfl ?_))));obtain ⟨v8,e8,h15⟩:=A2 h14;refine A0.op rfl (P7 rfl rfl rfl rfl e8) ?_;refine A0.op rfl (Dg (o:=true) (off':=0) ekI rfl rfl e8 rfl rfl rfl) ?_;refine A0.op rfl rfl ?_;obtain ⟨v9,e9,h16⟩:=A2 h15;refine A0.op rfl (P7 rfl rfl rfl rfl e9) ?_;refine A0.op rfl (Dg (o:=true) (off':=0) ekI rfl rfl e9 rfl rfl rfl) ?_;refine A0.op rfl rfl ?_;obtain ⟨v10,e10,h17⟩:=A2 h16;refine A0.op rfl (P7 rfl rfl rfl rfl e10) ?_;refine A0.op rfl (Dg (o:=true) (off':=0) ekI rfl rfl e10 rfl rfl rfl) ?_;refine A0.op rfl rfl ?_;obtain ⟨v11,e11,h18⟩:=A2 h17;refine A0.op rfl (P7 rfl rfl rfl rfl e11) ?_;refine A0.op rfl (Dg (o:=true) (off':=0) ekI rfl rfl e11 rfl rfl rfl) ?_;refine A0.op rfl rfl ?_;refine A0.chnB rfl rfl (.here (.rx rfl) (.here (.rx (Dg (o:=true) (off':=0) ekI rfl rfl e11 rfl rfl rfl)) (.here (.rx (P7 rfl rfl rfl rfl e11)) (.here (.rx rfl) (.here (.rx (Dg (o:=true) (off':=0) ekI rfl rfl e10 rfl rfl rfl)) (.here (.rx (P7 rfl rfl rfl rfl e10)) (.here (.rx rfl) (.here (.rx (Dg (o:=true) (off':=0) ekI rfl rfl e9 rfl rfl rfl)) (.here (.rx (P7 rfl rfl rfl rfl e9)) (.here (.rx rfl) (.here (.rx (Dg (o:=true) (off':=0) ekI rfl rfl e8 rfl rfl rfl)) (.here (.rx (P7 rfl rfl rfl rfl e8)) (.here (.rx rfl) .nil))))))))))))) ?_;refine A0.chn rfl rfl ?_;refine A0.done ?_;refine RW.kp [0,2,5,9,14] [(0,.str x0),(2,.ptr 0 0),(5,.j v1.2.1),(9,.sl 1 0 y4.length),(14,.ptr 2 0)] [some ⟨[.j 0,.j 0,.j 0,.j 0,.nils],0⟩,some ⟨fl (encI true) y4,1⟩,some ⟨[.j v8,.j v9,.j v10,.j v11,.nils],0⟩] rfl rfl ?_;refine RW.seq (RW.sf 1 rfl ?_);refine RW.gh (Gh.nil_c 2 4 2 rfl rfl) ?_;obtain ⟨y17,ey17,h20⟩:=A2 h18
     refine RW.cutq (σ:=(List TRef)) (fun y13=>[(0,.str x0),(2,.ptr 0 0),(5,.j v1.2.1),(14,.ptr 1 0)]) (fun y13=>[some ⟨[.j 0,.j 0,.j 0,.j 0,.nils],0⟩,some ⟨[.j v8,.j v9,.j v10,.j v11,.sl 2 0 y13.length],0⟩,some ⟨fl (B8 true) y13,2⟩]) (fun y=>y17=y) gg ?_ ?_
     ·refine RW.blk ?_
      refine RW.iter (σ:=Int×(List TRef)) ey17 (fun s12=>[(0,.str x0),(2,.ptr 0 0),(5,.j v1.2.1),(9,.sl 1 0 y4.length),(14,.ptr 2 0),(15,.j s12.1)]) (fun s12=>[some ⟨[.j 0,.j 0,.j 0,.j 0,.nils],0⟩,some ⟨fl (encI true) y4,1⟩,some ⟨[.j v8,.j v9,.j v10,.j v11,.sl 3 0 s12.2.length],0⟩,some ⟨fl (B8 true) s12.2,2⟩]) (Gh.y0 [0,1,2,3]) (fun s12 B o hS19 hB19 hE19=>?_)
      unfold L3 at hS19;refine RW.seq (RW.sr 4 rfl ?_)
      refine rl.gen rfl rfl fun b hb=>?_
      cases b
      ·have h21:=A4 hS19 hb;refine rl.done (RW.cond_f rfl (RW.exit (C7 ?_)));cases h21
       exact ⟨_,(hE19 _ rfl).symm,(Gh.y0 [0,2,3])⟩
      ·have h22:=A5 hS19 hb;refine rl.done (RW.cond_t rfl (RW.skip (RW.seq (RW.blk (RW.drw (A0.op rfl rfl (A0.op rfl rfl (A0.op rfl rfl (A0.op rfl rfl ?_)))))))));obtain ⟨v14,e14,h23⟩:=A2 h22;refine A0.op rfl (P7 rfl rfl rfl rfl e14) ?_;refine A0.op rfl (Dg (o:=true) (off':=0) ekI rfl rfl e14 rfl rfl rfl) ?_;refine A0.op rfl rfl (A0.op rfl rfl (A0.op rfl rfl ?_));obtain ⟨v15,e15,h24⟩:=A2 h23;refine A0.op rfl (P7 rfl rfl rfl rfl e15) ?_;refine A0.op rfl (Dg (o:=true) (off':=0) ekI rfl rfl e15 rfl rfl rfl) ?_;refine A0.op rfl rfl ?_;refine A0.chnB rfl rfl (.skip rfl (.skip rfl (.skip rfl (.skip rfl (.skip rfl (.skip rfl (.skip rfl (.skip rfl (.skip rfl (.skip rfl (.here (.rx rfl) (.here (.rx rfl) .nil)))))))))))) ?_;obtain ⟨v16,e16,h25⟩:=A2 h24;refine A0.chn rfl (T9 rfl rfl (M6 (l:=s12.2) (m:=[({ No:=v14,Gen:=v15 }:TRef)]) (o:=true) U6 rfl rfl (J3 (m:=[({ No:=v14,Gen:=v15 }:TRef)]) (o:=true) Ch rfl rfl) rfl (Ch.fst _ _) e16)) ?_;refine A0.op rfl rfl ?_;refine A0.chn rfl rfl ?_;refine A0.done (RW.reg (rl.f 3 rfl ?_));cases h25
       exact hB19 _ rfl _ _ (Gh.y0 [0,1,2,5])
     ·intro y13 hC
      subst hC;refine RW.seq (RW.sr 1 rfl ?_);obtain ⟨v18,e18,h26⟩:=A2 h20;refine rl.call rfl rfl rfl (A6.y (r':=.tup [.str v18.1,.bool v18.2]) (Eu e18) ?_);refine rl.f 5 rfl (RW.seq ?_);obtain ⟨y19,ey19,h27⟩:=A2 h26
      refine RW.cutq (σ:=Bool) (fun y19=>[(2,.ptr 0 0),(14,.ptr 1 0),(108,.bool y19)]) (fun y19=>[some ⟨[.j 0,.j 0,.j 0,.j 0,.nils],0⟩,some ⟨[.j v8,.j v9,.j v10,.j v11,.sl 2 0 y17.length],0⟩,some ⟨fl (B8 true) y17,2⟩]) (fun y=>y19=y) gg ?_ ?_
      ·refine RW.reg ?_;refine rl.run 3 rfl ?_
       cases hb:(!v18.2)
       ·have h28:=A4 ey19 hb;refine rl.run 3 rfl ?_;obtain ⟨v20,e20,h29⟩:=A2 h28;refine rl.gop rfl (V4 rfl rfl rfl T5 e20) ?_
        refine rl.gen rfl rfl fun b hb=>?_
        cases b
        ·have h30:=A4 h29 hb;refine rl.f 1 rfl ?_;cases h30
         exact ⟨_,rfl,(Gh.y0 [0,1,2])⟩
        ·have h31:=A5 h29 hb;refine rl.f 1 rfl ?_;cases h31
         exact ⟨_,rfl,(Gh.y0 [0,1,2])⟩
       ·have h32:=A5 ey19 hb;refine rl.f 6 rfl ?_;cases h32
        exact ⟨_,rfl,(Gh.y0 [0,1,2])⟩
      ·intro y hC
       subst hC
       cases hb:y19
       ·have h33:=A4 h27 hb;refine RW.cond_f rfl (RW.skip (RW.sf 3 rfl (RW.ret ?_)));cases h33
        exact RRet.y
       ·have h34:=A5 h27 hb;refine RW.cond_t rfl (RW.sf 3 rfl (RW.ret ?_));cases h34
        exact RRet.y
    ·have h35:=A5 h6 hb;refine rl.done (RW.cond_t rfl (RW.sf 3 rfl (RW.ret ?_)));cases h35
     exact RRet.y
  ·have h36:=A5 h3 hb;refine RW.cond_t rfl (RW.sf 3 rfl ?_);refine RW.kp [2,3] [(2,.ptr 0 0),(3,.bool false)] [some ⟨[.j 0,.j 0,.j 0,.j 0,.nils],0⟩] rfl rfl ?_;refine RW.ret ?_;cases h36
   exact RRet.y
 ·have h37:=A5 h2 hb;refine rl.f 3 rfl (RW.cond_t rfl (RW.sf 3 rfl ?_));refine RW.kp [2,3] [(2,.ptr 0 0),(3,.bool false)] [some ⟨[.j 0,.j 0,.j 0,.j 0,.nils],0⟩] rfl rfl ?_;refine RW.ret ?_;cases h37
  exact RRet.y
theorem Jw {x0:List UInt8} {x1:Int} {r:Int×Int×Bool} (hF:R9 x0 x1=some r):A7 Tryz.prog 156 [.str x0,.j x1] (.tup [.j r.1,.j r.2.1,.bool r.2.2]):=by
 refine A7.q Zy ?_;unfold R9 at hF;refine RW.sf 3 rfl (RW.seq (RW.sr 3 rfl ?_));obtain ⟨v1,e1,h1⟩:=A2 hF;refine rl.call rfl rfl rfl (A6.y (r':=.bool v1) (C3 e1) ?_)
 cases hb:v1
 ·have h2:=A4 h1 hb;refine rl.f 1 rfl (RW.cond_t rfl (RW.sf 3 rfl (RW.ret ?_)));cases h2
  exact RRet.y
 ·have h3:=A5 h1 hb;refine rl.f 1 rfl (RW.cond_f rfl (RW.skip (RW.sf 1 rfl (RW.sf 1 rfl (RW.seq (RW.sreg ?_))))));refine rl.f 2 rfl ?_;obtain ⟨y10,ey10,h5⟩:=A2 h3
  refine RW.cutq (σ:=Unit) (fun y3=>[]) (fun y3=>[]) (fun y=>y10=.inr y) gg ?_ ?_
  ·refine RW.blk ?_
   refine RW.iter (σ:=Int×Int×Int) ey10 (fun s2=>[(0,.str x0),(1,.j x1),(7,.j s2.1),(8,.j s2.2.1),(9,.j s2.2.2)]) (fun s2=>[]) (Gh.y0 []) (fun s2 B o hS4 hB4 hE4=>?_)
   unfold Q7 at hS4;refine RW.seq (RW.seq ?_);obtain ⟨y4,ey4,h6⟩:=A2 hS4
   refine RW.cutq (σ:=Bool) (fun y4=>[(0,.str x0),(1,.j x1),(7,.j s2.1),(8,.j s2.2.1),(9,.j s2.2.2),(25,.bool y4)]) (fun y4=>[]) (fun y=>y4=y) gg ?_ ?_
   ·refine RW.reg ?_;refine rl.run 3 rfl ?_
    refine rl.gen rfl rfl fun b hb=>?_
    cases b
    ·have h7:=A4 ey4 hb;refine rl.f 6 rfl ?_;cases h7
     exact ⟨_,rfl,(Gh.y0 [])⟩
    ·have h8:=A5 ey4 hb;refine rl.run 4 rfl ?_
     refine rl.gen rfl rfl fun b hb=>?_
     cases b
     ·have h9:=A4 h8 hb;refine rl.f 1 rfl ?_;cases h9
      exact ⟨_,rfl,(Gh.y0 [])⟩
     ·have h10:=A5 h8 hb;refine rl.f 1 rfl ?_;cases h10
      exact ⟨_,rfl,(Gh.y0 [])⟩
   ·intro y hC
    subst hC
    cases hb:y4
    ·have h11:=A4 h6 hb;refine RW.cond_f rfl (RW.exit (C7 ?_));cases h11
     exact ⟨_,(hE4 _ rfl).symm,(Gh.y0 [])⟩
    ·have h12:=A5 h6 hb;refine RW.cond_t rfl (RW.skip (RW.seq (RW.blk (RW.sr 3 rfl ?_))));obtain ⟨v5,e5,h13⟩:=A2 h12;refine rl.op (Pq rfl rfl e5) ?_;refine rl.f 6 rfl (RW.sf 3 rfl ?_);refine RW.kp [0,1,7,8,9] [(0,.str x0),(1,.j x1),(7,.j (w64 (s2.1+(w64 ((Int.tmod (w64 (v5.toNat:Int)) 128)*s2.2.1))))),(8,.j (w64 (s2.2.1*128))),(9,.j s2.2.2)] [] rfl rfl ?_;refine RW.sr 2 rfl ?_;obtain ⟨v6,e6,h14⟩:=A2 h13;refine rl.op (Pq rfl rfl e6) ?_
     refine rl.gen rfl rfl fun b hb=>?_
     cases b
     ·have h15:=A4 h14 hb;refine rl.done (RW.cond_f rfl (RW.skip (RW.reg (rl.f 3 rfl ?_))));cases h15
      exact hB4 _ rfl _ _ (Gh.y0 [])
     ·have h16:=A5 h14 hb;refine rl.done (RW.cond_t rfl (RW.seq (RW.seq ?_)));obtain ⟨y7,ey7,h17⟩:=A2 h16
      refine RW.cutq (σ:=Bool) (fun y7=>[(7,.j (w64 (s2.1+(w64 ((Int.tmod (w64 (v5.toNat:Int)) 128)*s2.2.1))))),(9,.j s2.2.2),(54,.bool y7)]) (fun y7=>[]) (fun y=>y7=y) gg ?_ ?_
      ·refine RW.drw ?_;refine A0.op rfl rfl ?_
       refine A0.gen rfl rfl fun b hb=>?_
       cases b
       ·have h18:=A4 ey7 hb;refine A0.op rfl rfl (A0.op rfl rfl ?_);obtain ⟨v8,e8,h19⟩:=A2 h18;refine A0.call rfl rfl rfl (A6.y (r':=.str v8) (D3 e8) ⟨rfl,?_⟩);refine A0.op rfl rfl (A0.op rfl rfl (A0.op rfl rfl (A0.op rfl rfl ?_)));obtain ⟨v9,e9,h20⟩:=A2 h19;refine A0.op rfl (V4 rfl rfl rfl Hk e9) ?_
        refine A0.gen rfl rfl fun b hb=>?_
        cases b
        ·have h21:=A4 h20 hb;refine A0.op rfl rfl (A0.done ?_);cases h21
         exact ⟨_,rfl,(Gh.y0 [])⟩
        ·have h22:=A5 h20 hb;refine A0.op rfl rfl (A0.done ?_);cases h22
         exact ⟨_,rfl,(Gh.y0 [])⟩
       ·have h23:=A5 ey7 hb;refine A0.op rfl rfl (A0.off rfl (A0.off rfl (A0.off rfl (A0.off rfl (A0.off rfl (A0.off rfl (A0.off rfl (A0.off rfl (A0.op rfl rfl (A0.done ?_))))))))));cases h23
        exact ⟨_,rfl,(Gh.y0 [])⟩
      ·intro y hC
       subst hC
       cases hb:y7
       ·have h24:=A4 h17 hb;refine RW.cond_f rfl (RW.skip (RW.sf 6 rfl (RW.ret ?_)));cases h24;have h25:=elimL h5 (hE4 _ rfl);cases h25
        exact RRet.y
       ·have h26:=A5 h17 hb;refine RW.cond_t rfl (RW.sf 3 rfl (RW.ret ?_));cases h26;have h27:=elimL h5 (hE4 _ rfl);cases h27
        exact RRet.y
  ·intro y3 hC
   have h5:=elimR h5 hC;refine RW.sf 3 rfl (RW.ret ?_);cases h5
   exact RRet.y
theorem Qw {x0:List UInt8} {x1:Int} {r:(List UInt8)×Int×Bool} (hF:L6 x0 x1=some r):A7 Tryz.prog 104 [.str x0,.j x1] (.tup [.str r.1,.j r.2.1,.bool r.2.2]):=by
 refine A7.q Wi ?_;unfold L6 at hF;refine RW.sf 3 rfl (RW.sr 2 rfl ?_);obtain ⟨v1,e1,h1⟩:=A2 hF;refine rl.call rfl rfl rfl (A6.y (r':=.tup [.j v1.1,.j v1.2.1,.bool v1.2.2]) (Jw e1) ?_);refine rl.f 7 rfl ?_;refine RW.kp [0,7,8,9] [(0,.str x0),(7,.j v1.1),(8,.j v1.2.1),(9,.bool v1.2.2)] [] rfl rfl ?_;refine RW.seq (RW.seq ?_);obtain ⟨y2,ey2,h2⟩:=A2 h1
 refine RW.cutq (σ:=Bool) (fun y2=>[(0,.str x0),(7,.j v1.1),(8,.j v1.2.1),(30,.bool y2)]) (fun y2=>[]) (fun y=>y2=y) gg ?_ ?_
 ·refine RW.reg ?_;refine rl.run 3 rfl ?_
  cases hb:(!v1.2.2)
  ·have h3:=A4 ey2 hb;refine rl.run 1 rfl ?_
   refine rl.gen rfl rfl fun b hb=>?_
   cases b
   ·have h4:=A4 h3 hb;refine rl.run 7 rfl ?_
    refine rl.gen rfl rfl fun b hb=>?_
    cases b
    ·have h5:=A4 h4 hb;refine rl.f 1 rfl ?_;cases h5
     exact ⟨_,rfl,(Gh.y0 [])⟩
    ·have h6:=A5 h4 hb;refine rl.f 1 rfl ?_;cases h6
     exact ⟨_,rfl,(Gh.y0 [])⟩
   ·have h7:=A5 h3 hb;refine rl.f 9 rfl ?_;cases h7
    exact ⟨_,rfl,(Gh.y0 [])⟩
  ·have h8:=A5 ey2 hb;refine rl.f 11 rfl ?_;cases h8
   exact ⟨_,rfl,(Gh.y0 [])⟩
 ·intro y hC
  subst hC
  cases hb:y2
  ·have h9:=A4 h2 hb;refine RW.cond_f rfl (RW.skip (RW.sr 5 rfl ?_));obtain ⟨v3,e3,h10⟩:=A2 h9;refine rl.op (V4 rfl rfl rfl Hk e3) ?_;refine rl.f 6 rfl ?_;refine RW.kp [4,5,6] [(4,.str v3),(5,.j (w64 (v1.2.1+v1.1))),(6,.bool true)] [] rfl rfl ?_;refine RW.ret ?_;cases h10
   exact RRet.y
  ·have h11:=A5 h2 hb;refine RW.cond_t rfl (RW.sf 3 rfl (RW.ret ?_));cases h11
   exact RRet.y
theorem Rc {x0:List UInt8} {r:(List UInt8)×Bool} (hF:Bq x0=some r):A7 Tryz.prog 105 [.str x0] (.tup [.str r.1,.bool r.2]):=by
 refine A7.q Xh ?_;unfold Bq at hF;refine RW.sf 2 rfl (RW.sf 4 rfl (RW.seq (RW.seq ?_)));obtain ⟨y1,ey1,h1⟩:=A2 hF
 refine RW.cutq (σ:=Bool) (fun y1=>[(0,.str x0),(4,.j (w64 ((x0.length:Int) - 4))),(24,.bool y1)]) (fun y1=>[]) (fun y=>y1=y) gg ?_ ?_
 ·refine RW.drw ?_;refine A0.op rfl rfl ?_
  refine A0.gen rfl rfl fun b hb=>?_
  cases b
  ·have h2:=A4 ey1 hb;refine A0.op rfl rfl (A0.op rfl rfl ?_)
   refine A0.gen rfl rfl fun b hb=>?_
   cases b
   ·have h3:=A4 h2 hb;refine A0.op rfl rfl (A0.op rfl rfl (A0.op rfl rfl (A0.op rfl rfl ?_)));obtain ⟨v2,e2,h4⟩:=A2 h3;refine A0.op rfl (V4 rfl rfl rfl Em e2) ?_;refine A0.op rfl rfl (A0.op rfl rfl ?_);obtain ⟨v3,e3,h5⟩:=A2 h4;refine A0.op rfl (V4 rfl rfl rfl T5 e3) ?_;obtain ⟨v4,e4,h6⟩:=A2 h5;refine A0.call rfl rfl rfl (A6.y (r':=.int .u32 v4) (Mr e4) ⟨rfl,?_⟩);obtain ⟨v5,e5,h7⟩:=A2 h6;refine A0.call rfl rfl rfl (A6.y (r':=.str v5) (Jt e5) ⟨rfl,?_⟩)
    refine A0.gen rfl rfl fun b hb=>?_
    cases b
    ·have h8:=A4 h7 hb;refine A0.op rfl rfl (A0.done ?_);cases h8
     exact ⟨_,rfl,(Gh.y0 [])⟩
    ·have h9:=A5 h7 hb;refine A0.op rfl rfl (A0.done ?_);cases h9
     exact ⟨_,rfl,(Gh.y0 [])⟩
   ·have h10:=A5 h2 hb;refine A0.op rfl rfl (A0.op rfl rfl (A0.off rfl (A0.off rfl (A0.off rfl (A0.off rfl (A0.off rfl (A0.off rfl (A0.off rfl (A0.off rfl (A0.off rfl (A0.op rfl rfl ?_)))))))))));refine A0.done ?_;cases h10
    exact ⟨_,rfl,(Gh.y0 [])⟩
  ·have h11:=A5 ey1 hb;refine A0.op rfl rfl (A0.off rfl (A0.off rfl (A0.op rfl rfl (A0.op rfl rfl (A0.off rfl (A0.off rfl (A0.off rfl (A0.off rfl (A0.off rfl (A0.off rfl (A0.off rfl ?_)))))))))));refine A0.off rfl (A0.off rfl (A0.op rfl rfl (A0.done ?_)));cases h11
   exact ⟨_,rfl,(Gh.y0 [])⟩
 ·intro y hC
  subst hC
  cases hb:y1
  ·have h12:=A4 h1 hb;refine RW.cond_f rfl (RW.skip (RW.sr 2 rfl ?_));obtain ⟨v6,e6,h13⟩:=A2 h12;refine rl.op (V4 rfl rfl rfl T5 e6) ?_;refine rl.f 2 rfl (RW.ret ?_);cases h13
   exact RRet.y
  ·have h14:=A5 h1 hb;refine RW.cond_t rfl (RW.sf 2 rfl (RW.ret ?_));cases h14
   exact RRet.y
theorem P4 {x0:TL06Cur} {r:Int×TL06Cur} (hF:D5 x0=some r):C0 Tryz.prog 0 106 [.ptr 0 0] [some ⟨[.str x0.mText,.j x0.mAt,.bool x0.mBad],0⟩] (.j r.1) [some ⟨[.str r.2.mText,.j r.2.mAt,.bool r.2.mBad],0⟩]:=by
 refine C0.q A1n ?_;unfold D5 at hF;refine RW.sf 1 rfl (RW.sdrw (A0.op rfl rfl (A0.op rfl rfl (A0.op rfl rfl (A0.op rfl rfl (A0.op rfl rfl (A0.op rfl rfl (A0.op rfl rfl (A0.op rfl rfl ?_)))))))));obtain ⟨v1,e1,h1⟩:=A2 hF;refine A0.call rfl rfl rfl (A6.y (r':=.tup [.j v1.1,.j v1.2.1,.bool v1.2.2]) (Jw e1) ⟨rfl,?_⟩);refine A0.op rfl rfl (A0.op rfl rfl (A0.op rfl rfl (A0.op rfl rfl (A0.op rfl rfl (A0.op rfl rfl (A0.op rfl rfl (A0.done ?_)))))));refine RW.kp [0,3,4,5] [(0,.ptr 0 0),(3,.j v1.1),(4,.j v1.2.1),(5,.bool v1.2.2)] [some ⟨[.str x0.mText,.j x0.mAt,.bool x0.mBad],0⟩] rfl rfl ?_;refine RW.seq (RW.sr 5 rfl ?_)
 cases hb:x0.mBad
 ·have h2:=A4 h1 hb;refine rl.f 3 rfl ?_
  cases hb:(!v1.2.2)
  ·have h3:=A4 h2 hb;refine RW.cond_f rfl (RW.skip (RW.sf 5 rfl ?_));refine RW.kp [3] [(3,.j v1.1)] [some ⟨[.str x0.mText,.j v1.2.1,.bool false],0⟩] rfl rfl ?_;refine RW.sf 2 rfl (RW.ret ?_);cases h3
   exact RRetS.m (Gh.rN [0])
  ·have h4:=A5 h2 hb;refine RW.cond_t rfl (RW.sf 4 rfl ?_);refine RW.kp [] [] [some ⟨[.str x0.mText,.j x0.mAt,.bool true],0⟩] rfl rfl ?_;refine RW.sf 1 rfl (RW.ret ?_);cases h4
   exact RRetS.m (Gh.rN [0])
 ·have h5:=A5 h1 hb;refine rl.f 3 rfl (RW.cond_t rfl (RW.sf 4 rfl ?_));refine RW.kp [] [] [some ⟨[.str x0.mText,.j x0.mAt,.bool true],0⟩] rfl rfl ?_;refine RW.sf 1 rfl (RW.ret ?_);cases h5
  exact RRetS.m (Gh.rN [0])
theorem Qv {x0:List UInt8} {r:TCheck×Bool} (hF:L7 x0=some r):A7 Tryz.prog 40 [.str x0] (.tup [.agg (B6 true r.1),.bool r.2]):=by
 refine A7.q Uu ?_;unfold L7 at hF;refine RW.sf 2 rfl (RW.sr 1 rfl ?_);obtain ⟨v1,e1,h1⟩:=A2 hF;refine rl.call rfl rfl rfl (A6.y (r':=.tup [.str v1.1,.j v1.2.1,.bool v1.2.2]) (Qw e1) ?_);refine rl.f 7 rfl (RW.sr 1 rfl ?_);obtain ⟨v2,e2,h2⟩:=A2 h1;refine rl.call rfl rfl rfl (A6.y (r':=.tup [.str v2.1,.bool v2.2]) (Rc e2) ?_);refine rl.f 5 rfl ?_;refine RW.kp [0,2,5,6,7,8] [(0,.str x0),(2,.ptr 0 0),(5,.j v1.2.1),(6,.bool v1.2.2),(7,.str v2.1),(8,.bool v2.2)] [some ⟨[.j 0,.j 0,.j 0,.j 0,.nils],0⟩] rfl rfl ?_;refine RW.seq (RW.sr 3 rfl ?_)
 cases hb:(!v1.2.2)
 ·have h3:=A4 h2 hb;refine rl.f 3 rfl ?_
  cases hb:(!v2.2)
  ·have h4:=A4 h3 hb;refine RW.cond_f rfl (RW.skip (RW.sf 4 rfl ?_));refine RW.kp [0,2,5,9] [(0,.str x0),(2,.ptr 0 0),(5,.j v1.2.1),(9,.ptr 1 0)] [some ⟨[.j 0,.j 0,.j 0,.j 0,.nils],0⟩,some ⟨[.str v2.1,.j 0,.bool false],0⟩] rfl rfl ?_;refine RW.sr 1 rfl ?_;obtain ⟨v3,e3,h5⟩:=A2 h4;refine rl.call rfl rfl rfl (A6.eW (r0:=.j v3.1) (H':=[some ⟨[.j 0,.j 0,.j 0,.j 0,.nils],0⟩,some ⟨[.str v3.2.mText,.j v3.2.mAt,.bool v3.2.mBad],0⟩]) [⟨[.str v2.1,.j 0,.bool false],0⟩] [⟨[.str v3.2.mText,.j v3.2.mAt,.bool v3.2.mBad],0⟩] [1] (P4 e3) ?_);refine rl.f 3 rfl (RW.sr 1 rfl ?_);obtain ⟨v4,e4,h6⟩:=A2 h5;refine rl.call rfl rfl rfl (A6.eW (r0:=.j v4.1) (H':=[some ⟨[.j 0,.j 0,.j 0,.j 0,.nils],0⟩,some ⟨[.str v4.2.mText,.j v4.2.mAt,.bool v4.2.mBad],0⟩,some ⟨[.j v3.1,.j 0,.j 0,.j 0,.nils],0⟩]) [⟨[.str v3.2.mText,.j v3.2.mAt,.bool v3.2.mBad],0⟩] [⟨[.str v4.2.mText,.j v4.2.mAt,.bool v4.2.mBad],0⟩] [1] (P4 e4) ?_);refine rl.f 2 rfl (RW.sr 1 rfl ?_);obtain ⟨v5,e5,h7⟩:=A2 h6;refine rl.call rfl rfl rfl (A6.eW (r0:=.j v5.1) (H':=[some ⟨[.j 0,.j 0,.j 0,.j 0,.nils],0⟩,some ⟨[.str v5.2.mText,.j v5.2.mAt,.bool v5.2.mBad],0⟩,some ⟨[.j v3.1,.j v4.1,.j 0,.j 0,.nils],0⟩]) [⟨[.str v4.2.mText,.j v4.2.mAt,.bool v4.2.mBad],0⟩] [⟨[.str v5.2.mText,.j v5.2.mAt,.bool v5.2.mBad],0⟩] [1] (P4 e5) ?_);refine rl.f 2 rfl (RW.sr 1 rfl ?_);obtain ⟨v6,e6,h8⟩:=A2 h7;refine rl.call rfl rfl rfl (A6.eW (r0:=.j v6.1) (H':=[some ⟨[.j 0,.j 0,.j 0,.j 0,.nils],0⟩,some ⟨[.str v6.2.mText,.j v6.2.mAt,.bool v6.2.mBad],0⟩,some ⟨[.j v3.1,.j v4.1,.j v5.1,.j 0,.nils],0⟩]) [⟨[.str v5.2.mText,.j v5.2.mAt,.bool v5.2.mBad],0⟩] [⟨[.str v6.2.mText,.j v6.2.mAt,.bool v6.2.mBad],0⟩] [1] (P4 e6) ?_);refine rl.f 2 rfl ?_;refine RW.kp [0,2,5,9,10] [(0,.str x0),(2,.ptr 0 0),(5,.j v1.2.1),(9,.ptr 1 0),(10,.ptr 2 0)] [some ⟨[.j 0,.j 0,.j 0,.j 0,.nils],0⟩,some ⟨[.str v6.2.mText,.j v6.2.mAt,.bool v6.2.mBad],0⟩,some ⟨[.j v3.1,.j v4.1,.j v5.1,.j v6.1,.nils],0⟩] rfl rfl ?_;refine RW.sr 1 rfl ?_;obtain ⟨v7,e7,h9⟩:=A2 h8;refine rl.call rfl rfl rfl (A6.eW (r0:=.j v7.1) (H':=[some ⟨[.j 0,.j 0,.j 0,.j 0,.nils],0⟩,some ⟨[.str v7.2.mText,.j v7.2.mAt,.bool v7.2.mBad],0⟩,some ⟨[.j v3.1,.j v4.1,.j v5.1,.j v6.1,.nils],0⟩]) [⟨[.str v6.2.mText,.j v6.2.mAt,.bool v6.2.mBad],0⟩] [⟨[.str v7.2.mText,.j v7.2.mAt,.bool v7.2.mBad],0⟩] [1] (P4 e7) ?_)
   refine rl.f 1 rfl (RW.seq (RW.sf 1 rfl ?_));refine RW.gh (Gh.nil_c 2 4 2 rfl rfl) ?_;obtain ⟨y14,ey14,h11⟩:=A2 h9
   refine RW.cutq (σ:=(List UInt8)×Int×Bool×(List TRef)) (fun y9=>[(0,.str x0),(2,.ptr 0 0),(5,.j v1.2.1),(9,.ptr 1 0),(10,.ptr 2 0)]) (fun y9=>[some ⟨[.j 0,.j 0,.j 0,.j 0,.nils],0⟩,some ⟨[.str y9.1,.j y9.2.1,.bool y9.2.2.1],0⟩,some ⟨[.j v3.1,.j v4.1,.j v5.1,.j v6.1,.sl 3 0 y9.2.2.2.length],0⟩,some ⟨fl (B8 true) y9.2.2.2,2⟩]) (fun y=>y14=y) gg ?_ ?_
   ·refine RW.blk ?_
    refine RW.iter (σ:=Int×(List UInt8)×Int×Bool×(List TRef)) ey14 (fun s8=>[(0,.str x0),(2,.ptr 0 0),(5,.j v1.2.1),(9,.ptr 1 0),(10,.ptr 2 0),(11,.j v7.1),(12,.j s8.1)]) (fun s8=>[some ⟨[.j 0,.j 0,.j 0,.j 0,.nils],0⟩,some ⟨[.str s8.2.1,.j s8.2.2.1,.bool s8.2.2.2.1],0⟩,some ⟨[.j v3.1,.j v4.1,.j v5.1,.j v6.1,.sl 3 0 s8.2.2.2.2.length],0⟩,some ⟨fl (B8 true) s8.2.2.2.2,2⟩]) (Gh.y0 [0,1,2,3]) (fun s8 B o hS10 hB10 hE10=>?_)
    unfold K1 at hS10;refine RW.seq (RW.seq ?_);obtain ⟨y10,ey10,h12⟩:=A2 hS10
    refine RW.cutq (σ:=Bool) (fun y10=>[(0,.str x0),(2,.ptr 0 0),(5,.j v1.2.1),(9,.ptr 1 0),(10,.ptr 2 0),(11,.j v7.1),(12,.j s8.1),(64,.bool y10)]) (fun y10=>[some ⟨[.j 0,.j 0,.j 0,.j 0,.nils],0⟩,some ⟨[.str s8.2.1,.j s8.2.2.1,.bool s8.2.2.2.1],0⟩,some ⟨[.j v3.1,.j v4.1,.j v5.1,.j v6.1,.sl 3 0 s8.2.2.2.2.length],0⟩,some ⟨fl (B8 true) s8.2.2.2.2,2⟩]) (fun y=>y10=y) gg ?_ ?_
    ·refine RW.reg ?_;refine rl.run 2 rfl ?_
     refine rl.gen rfl rfl fun b hb=>?_
     cases b
     ·have h13:=A4 ey10 hb;refine rl.f 11 rfl ?_;cases h13
      exact ⟨_,rfl,(Gh.y0 [0,1,2,3])⟩
     ·have h14:=A5 ey10 hb;refine rl.run 2 rfl ?_
      refine rl.gen rfl rfl fun b hb=>?_
      cases b
      ·have h15:=A4 h14 hb;refine rl.f 8 rfl ?_;cases h15
       exact ⟨_,rfl,(Gh.y0 [0,1,2,3])⟩
      ·have h16:=A5 h14 hb;refine rl.f 8 rfl ?_;cases h16
       exact ⟨_,rfl,(Gh.y0 [0,1,2,3])⟩
    ·intro y hC
     subst hC
     cases hb:y10
     ·have h17:=A4 h12 hb;refine RW.cond_f rfl (RW.exit (C7 ?_));cases h17
      exact ⟨_,(hE10 _ rfl).symm,(Gh.y0 [0,1,2,3])⟩
     ·have h18:=A5 h12 hb;refine RW.cond_t rfl (RW.skip (RW.seq (RW.blk (RW.sr 1 rfl ?_))));obtain ⟨v11,e11,h19⟩:=A2 h18;refine rl.call rfl rfl rfl (A6.eW (r0:=.j v11.1) (H':=[some ⟨[.j 0,.j 0,.j 0,.j 0,.nils],0⟩,some ⟨[.str v11.2.mText,.j v11.2.mAt,.bool v11.2.mBad],0⟩,some ⟨[.j v3.1,.j v4.1,.j v5.1,.j v6.1,.sl 3 0 s8.2.2.2.2.length],0⟩,some ⟨fl (B8 true) s8.2.2.2.2,2⟩]) [⟨[.str s8.2.1,.j s8.2.2.1,.bool s8.2.2.2.1],0⟩] [⟨[.str v11.2.mText,.j v11.2.mAt,.bool v11.2.mBad],0⟩] [1] (P4 e11) ?_);refine rl.f 3 rfl (RW.sr 1 rfl ?_);obtain ⟨v12,e12,h20⟩:=A2 h19;refine rl.call rfl rfl rfl (A6.eW (r0:=.j v12.1) (H':=[some ⟨[.j 0,.j 0,.j 0,.j 0,.nils],0⟩,some ⟨[.str v12.2.mText,.j v12.2.mAt,.bool v12.2.mBad],0⟩,some ⟨[.j v3.1,.j v4.1,.j v5.1,.j v6.1,.sl 3 0 s8.2.2.2.2.length],0⟩,some ⟨fl (B8 true) s8.2.2.2.2,2⟩,some ⟨[.j v11.1,.j 0],0⟩]) [⟨[.str v11.2.mText,.j v11.2.mAt,.bool v11.2.mBad],0⟩] [⟨[.str v12.2.mText,.j v12.2.mAt,.bool v12.2.mBad],0⟩] [1] (P4 e12) ?_);refine rl.f 2 rfl (RW.reg (rl.run 4 rfl ?_));obtain ⟨v13,e13,h21⟩:=A2 h20;refine rl.op (T9 rfl rfl (M6 (l:=s8.2.2.2.2) (m:=[({ No:=v11.1,Gen:=v12.1 }:TRef)]) (o:=true) U6 rfl rfl (J3 (m:=[({ No:=v11.1,Gen:=v12.1 }:TRef)]) (o:=true) Ch rfl rfl) rfl (Ch.fst _ _) e13)) ?_;refine rl.f 2 rfl (RW.reg (rl.f 3 rfl ?_));cases h21
      exact hB10 _ rfl _ _ (Gh.y0 [0,1,2,6])
   ·intro y9 hC
    subst hC;refine RW.sr 1 rfl ?_;obtain ⟨v15,e15,h22⟩:=A2 h11;refine rl.call rfl rfl rfl (A6.y (r':=.tup [.str v15.1,.bool v15.2]) (Q8 e15) ?_);refine rl.f 5 rfl (RW.seq (RW.seq ?_));obtain ⟨y16,ey16,h23⟩:=A2 h22
    refine RW.cutq (σ:=Bool) (fun y16=>[(2,.ptr 0 0),(10,.ptr 1 0),(98,.bool y16)]) (fun y16=>[some ⟨[.j 0,.j 0,.j 0,.j 0,.nils],0⟩,some ⟨[.j v3.1,.j v4.1,.j v5.1,.j v6.1,.sl 2 0 y14.2.2.2.length],0⟩,some ⟨fl (B8 true) y14.2.2.2,2⟩]) (fun y=>y16=y) gg ?_ ?_
    ·refine RW.reg ?_;refine rl.run 5 rfl ?_
     cases hb:y14.2.2.1
     ·have h24:=A4 ey16 hb;refine rl.run 4 rfl ?_
      cases hb:(!v15.2)
      ·have h25:=A4 h24 hb;refine rl.run 3 rfl ?_;obtain ⟨v17,e17,h26⟩:=A2 h25;refine rl.gop rfl (V4 rfl rfl rfl T5 e17) ?_
       refine rl.gen rfl rfl fun b hb=>?_
       cases b
       ·have h27:=A4 h26 hb;refine rl.f 1 rfl ?_;cases h27
        exact ⟨_,rfl,(Gh.y0 [0,2,3])⟩
       ·have h28:=A5 h26 hb;refine rl.f 1 rfl ?_;cases h28
        exact ⟨_,rfl,(Gh.y0 [0,2,3])⟩
      ·have h29:=A5 h24 hb;refine rl.f 6 rfl ?_;cases h29
       exact ⟨_,rfl,(Gh.y0 [0,2,3])⟩
     ·have h30:=A5 ey16 hb;refine rl.f 10 rfl ?_;cases h30
      exact ⟨_,rfl,(Gh.y0 [0,2,3])⟩
    ·intro y hC
     subst hC
     cases hb:y16
     ·have h31:=A4 h23 hb;refine RW.cond_f rfl (RW.skip (RW.sf 3 rfl (RW.ret ?_)));cases h31
      exact RRet.y
     ·have h32:=A5 h23 hb;refine RW.cond_t rfl (RW.sf 3 rfl (RW.ret ?_));cases h32
      exact RRet.y
  ·have h33:=A5 h3 hb;refine RW.cond_t rfl (RW.sf 3 rfl ?_);refine RW.kp [2,3] [(2,.ptr 0 0),(3,.bool false)] [some ⟨[.j 0,.j 0,.j 0,.j 0,.nils],0⟩] rfl rfl ?_;refine RW.ret ?_;cases h33
   exact RRet.y
 ·have h34:=A5 h2 hb;refine rl.f 3 rfl (RW.cond_t rfl (RW.sf 3 rfl ?_));refine RW.kp [2,3] [(2,.ptr 0 0),(3,.bool false)] [some ⟨[.j 0,.j 0,.j 0,.j 0,.nils],0⟩] rfl rfl ?_;refine RW.ret ?_;cases h34
  exact RRet.y
theorem Ra {x0:TL01Cur} {x1:Int} {B0_ o0_:Nat} {r:Bool×TL01Cur} (hF:Ai x0 x1=some r):C0 Tryz.prog 0 179 [.ptr 0 0,.j x1] [some ⟨[pvB B0_ o0_ x0.mB,.j x0.mI,.j x0.mH],0⟩] (.bool r.1) [some ⟨[pvB B0_ o0_ x0.mB,.j r.2.mI,.j r.2.mH],0⟩]:=by
 refine C0.q A0o ?_;unfold Ai at hF;refine RW.sf 1 rfl (RW.sr 2 rfl ?_);obtain ⟨v1,e1,h1⟩:=A2 hF;refine rl.call rfl rfl rfl (A6.eN (r0:=.j v1.1) (H':=[some ⟨[pvB B0_ o0_ x0.mB,.j v1.2.mI,.j v1.2.mH],0⟩]) [⟨[pvB B0_ o0_ x0.mB,.j x0.mI,.j x0.mH],0⟩] [⟨[pvB B0_ o0_ x0.mB,.j v1.2.mI,.j v1.2.mH],0⟩] [] [0] [pvB B0_ o0_ x0.mB] (A9 e1) ?_);refine rl.f 2 rfl (RW.ret ?_);cases h1
 exact RRetS.m (Gh.rN [0])
theorem Qu {x0:TL01Cur} {B0_ o0_:Nat} {r:TDisk×TL01Cur} (hF:Z0 x0=some r):C0 Tryz.prog 0 157 [.ptr 0 0] [some ⟨[pvB B0_ o0_ x0.mB,.j x0.mI,.j x0.mH],0⟩] (.agg (B5 1 2 r.1)) [some ⟨[pvB B0_ o0_ x0.mB,.j r.2.mI,.j r.2.mH],0⟩,some ⟨fl (encS true) r.1.Sectors,1⟩,some ⟨fl (A1 true) r.1.Cache,2⟩]:=by
 refine C0.p Yw ?_;unfold Z0 at hF;refine RW.sf 1 rfl (RW.sr 1 rfl ?_);obtain ⟨v1,e1,h1⟩:=A2 hF;refine rl.call rfl rfl rfl (A6.eN (r0:=.j v1.1) (H':=[some ⟨[pvB B0_ o0_ x0.mB,.j v1.2.mI,.j v1.2.mH],0⟩,some ⟨[.nils,.nils],0⟩]) [⟨[pvB B0_ o0_ x0.mB,.j x0.mI,.j x0.mH],0⟩] [⟨[pvB B0_ o0_ x0.mB,.j v1.2.mI,.j v1.2.mH],0⟩] [] [0] [pvB B0_ o0_ x0.mB] (A9 e1) ?_);refine rl.run 1 rfl ?_;obtain ⟨v2,e2,h2⟩:=A2 h1;refine rl.call rfl rfl rfl (A6.z (r':=.tup [.agg (B5 2 3 v2.1),.bool v2.2]) (H':=[some ⟨[pvB B0_ o0_ x0.mB,.j v1.2.mI,.j v1.2.mH],0⟩,some ⟨[.nils,.nils],0⟩,some ⟨fl (encS true) v2.1.Sectors,1⟩,some ⟨fl (A1 true) v2.1.Cache,2⟩]) (Ga e2) ?_);refine rl.f 6 rfl (RW.seq (RW.sf 1 rfl ?_));obtain ⟨y13,ey13,h4⟩:=A2 h2
 refine RW.cutq (σ:=Int×Int×(List (List UInt8))×(List TWrite)) (fun y4=>[(2,.ptr 1 0),(3,.ptr 2 0)]) (fun y4=>[some ⟨[pvB B0_ o0_ x0.mB,.j y4.1,.j y4.2.1],0⟩,some ⟨[.nils,.nils],0⟩,some ⟨[.sl 3 0 y4.2.2.1.length,.sl 4 0 y4.2.2.2.length],0⟩,some ⟨fl (encS true) y4.2.2.1,1⟩,some ⟨fl (A1 true) y4.2.2.2,2⟩]) (fun y=>y13=y) gg ?_ ?_
 ·refine RW.blk ?_
  refine RW.iter (σ:=Int×Int×Int×(List (List UInt8))×(List TWrite)) ey13 (fun s3=>[(0,.ptr 0 0),(2,.ptr 1 0),(3,.ptr 2 0),(5,.j s3.1)]) (fun s3=>[some ⟨[pvB B0_ o0_ x0.mB,.j s3.2.1,.j s3.2.2.1],0⟩,some ⟨[.nils,.nils],0⟩,some ⟨[.sl 3 0 s3.2.2.2.1.length,.sl 4 0 s3.2.2.2.2.length],0⟩,some ⟨fl (encS true) s3.2.2.2.1,1⟩,some ⟨fl (A1 true) s3.2.2.2.2,2⟩]) (Gh.rN [0,1,4,2,3]) (fun s3 B o hS3 hB3 hE3=>?_)
  unfold Bb at hS3;refine RW.seq (RW.sr 2 rfl ?_);obtain ⟨v5,e5,h5⟩:=A2 hS3;refine rl.call rfl rfl rfl (A6.eN (r0:=.j v5.1) (H':=[some ⟨[pvB B0_ o0_ x0.mB,.j v5.2.mI,.j v5.2.mH],0⟩,some ⟨[.nils,.nils],0⟩,some ⟨[.sl 3 0 s3.2.2.2.1.length,.sl 4 0 s3.2.2.2.2.length],0⟩,some ⟨fl (encS true) s3.2.2.2.1,1⟩,some ⟨fl (A1 true) s3.2.2.2.2,2⟩]) [⟨[pvB B0_ o0_ x0.mB,.j s3.2.1,.j s3.2.2.1],0⟩] [⟨[pvB B0_ o0_ x0.mB,.j v5.2.mI,.j v5.2.mH],0⟩] [] [0] [pvB B0_ o0_ x0.mB] (A9 e5) ?_)
  refine rl.gen rfl rfl fun b hb=>?_
  cases b
  ·have h6:=A4 h5 hb;refine rl.done (RW.cond_f rfl (RW.exit (C7 ?_)));cases h6
   exact ⟨_,(hE3 _ rfl).symm,(Gh.rN [0,1,2,3,4])⟩
  ·have h7:=A5 h5 hb;refine rl.done (RW.cond_t rfl (RW.skip (RW.seq (RW.blk (RW.sdrw (A0.op rfl rfl (A0.op rfl rfl (A0.op rfl rfl (A0.op rfl rfl (A0.op rfl rfl ?_))))))))));obtain ⟨v6,e6,h8⟩:=A2 h7;refine A0.ccallB rfl rfl rfl (A6.eN (r0:=.j v6.1) (H':=[some ⟨[pvB B0_ o0_ x0.mB,.j v6.2.mI,.j v6.2.mH],0⟩,some ⟨[.nils,.nils],0⟩,some ⟨[.sl 3 0 s3.2.2.2.1.length,.sl 4 0 s3.2.2.2.2.length],0⟩,some ⟨fl (encS true) s3.2.2.2.1,1⟩,some ⟨fl (A1 true) s3.2.2.2.2,2⟩]) [⟨[pvB B0_ o0_ x0.mB,.j v5.2.mI,.j v5.2.mH],0⟩] [⟨[pvB B0_ o0_ x0.mB,.j v6.2.mI,.j v6.2.mH],0⟩] [] [0] [pvB B0_ o0_ x0.mB] (A9 e6) ⟨(.skip rfl (.skip rfl (.skip rfl (.skip rfl (.here (.rx rfl) .nil))))),?_⟩);refine A0.opA rfl rfl (.here (.rx rfl) .nil) ?_;obtain ⟨v7,e7,h9⟩:=A2 h8;refine A0.ccallB rfl rfl rfl (A6.eN (r0:=.j v7.1) (H':=[some ⟨[pvB B0_ o0_ x0.mB,.j v7.2.mI,.j v7.2.mH],0⟩,some ⟨[.nils,.nils],0⟩,some ⟨[.sl 3 0 s3.2.2.2.1.length,.sl 4 0 s3.2.2.2.2.length],0⟩,some ⟨fl (encS true) s3.2.2.2.1,1⟩,some ⟨fl (A1 true) s3.2.2.2.2,2⟩]) [⟨[pvB B0_ o0_ x0.mB,.j v6.2.mI,.j v6.2.mH],0⟩] [⟨[pvB B0_ o0_ x0.mB,.j v7.2.mI,.j v7.2.mH],0⟩] [] [0] [pvB B0_ o0_ x0.mB] (A9 e7) ⟨(.skip rfl (.skip rfl (.skip rfl (.skip rfl (.skip rfl (.here (.rx rfl) .nil)))))),?_⟩);refine A0.opA rfl rfl (.here (.rx rfl) (.here (.rx rfl) .nil)) ?_;refine A0.opA rfl rfl (.here (.rx rfl) (.here (.rx rfl) .nil)) ?_;obtain ⟨v8,e8,h10⟩:=A2 h9;refine A0.ccallB rfl rfl rfl (A6.eN (r0:=.j v8.1) (H':=[some ⟨[pvB B0_ o0_ x0.mB,.j v8.2.mI,.j v8.2.mH],0⟩,some ⟨[.nils,.nils],0⟩,some ⟨[.sl 3 0 s3.2.2.2.1.length,.sl 4 0 s3.2.2.2.2.length],0⟩,some ⟨fl (encS true) s3.2.2.2.1,1⟩,some ⟨fl (A1 true) s3.2.2.2.2,2⟩]) [⟨[pvB B0_ o0_ x0.mB,.j v7.2.mI,.j v7.2.mH],0⟩] [⟨[pvB B0_ o0_ x0.mB,.j v8.2.mI,.j v8.2.mH],0⟩] [] [0] [pvB B0_ o0_ x0.mB] (A9 e8) ⟨(.skip rfl (.here (.rx rfl) (.skip rfl (.skip rfl (.skip rfl (.skip rfl (.skip rfl (.here (.rx rfl) .nil)))))))),?_⟩);obtain ⟨v9,e9,h11⟩:=A2 h10;refine A0.ccallB rfl rfl rfl (A6.eN (r0:=.str v9.1) (H':=[some ⟨[pvB B0_ o0_ x0.mB,.j v9.2.mI,.j v9.2.mH],0⟩,some ⟨[.nils,.nils],0⟩,some ⟨[.sl 3 0 s3.2.2.2.1.length,.sl 4 0 s3.2.2.2.2.length],0⟩,some ⟨fl (encS true) s3.2.2.2.1,1⟩,some ⟨fl (A1 true) s3.2.2.2.2,2⟩]) [⟨[pvB B0_ o0_ x0.mB,.j v8.2.mI,.j v8.2.mH],0⟩] [⟨[pvB B0_ o0_ x0.mB,.j v9.2.mI,.j v9.2.mH],0⟩] [] [0] [pvB B0_ o0_ x0.mB] (W1 e9) ⟨(.skip rfl (.skip rfl (.skip rfl (.skip rfl (.skip rfl (.skip rfl (.skip rfl (.here (.rx rfl) .nil)))))))),?_⟩)
   obtain ⟨v10,e10,h12⟩:=A2 h11;refine A0.ccall rfl rfl rfl (A6.z (r':=.tup [.agg (B5 5 6 v10.1),.bool v10.2]) (H':=[some ⟨[pvB B0_ o0_ x0.mB,.j v9.2.mI,.j v9.2.mH],0⟩,some ⟨[.nils,.nils],0⟩,some ⟨[.sl 3 0 s3.2.2.2.1.length,.sl 4 0 s3.2.2.2.2.length],0⟩,some ⟨fl (encS true) s3.2.2.2.1,1⟩,some ⟨fl (A1 true) s3.2.2.2.2,2⟩,some ⟨fl (encS true) v10.1.Sectors,1⟩,some ⟨fl (A1 true) v10.1.Cache,2⟩]) (Dw e10) ?_);refine A0.op rfl rfl (A0.op rfl rfl (A0.op rfl rfl ?_));refine A0.chnB rfl rfl (.here (.rx rfl) (.skip rfl (.skip rfl (.skip rfl (.skip rfl (.skip rfl (.skip rfl (.skip rfl (.skip rfl (.skip rfl (.skip rfl .nil))))))))))) ?_;refine A0.done ?_;refine RW.kp [0,2,3,5] [(0,.ptr 0 0),(2,.ptr 1 0),(3,.ptr 2 0),(5,.j s3.1)] [some ⟨[pvB B0_ o0_ x0.mB,.j v9.2.mI,.j v9.2.mH],0⟩,some ⟨[.nils,.nils],0⟩,some ⟨B5 5 6 v10.1,0⟩,some ⟨fl (encS true) s3.2.2.2.1,1⟩,some ⟨fl (A1 true) s3.2.2.2.2,2⟩,some ⟨fl (encS true) v10.1.Sectors,1⟩,some ⟨fl (A1 true) v10.1.Cache,2⟩] rfl rfl ?_;refine RW.sr 1 rfl ?_;obtain ⟨v11,e11,h13⟩:=A2 h12;refine rl.call rfl rfl rfl (A6.eN (r0:=.bool v11.1) (H':=[some ⟨[pvB B0_ o0_ x0.mB,.j v11.2.mI,.j v11.2.mH],0⟩,some ⟨[.nils,.nils],0⟩,some ⟨B5 5 6 v10.1,0⟩,some ⟨fl (encS true) s3.2.2.2.1,1⟩,some ⟨fl (A1 true) s3.2.2.2.2,2⟩,some ⟨fl (encS true) v10.1.Sectors,1⟩,some ⟨fl (A1 true) v10.1.Cache,2⟩]) [⟨[pvB B0_ o0_ x0.mB,.j v9.2.mI,.j v9.2.mH],0⟩] [⟨[pvB B0_ o0_ x0.mB,.j v11.2.mI,.j v11.2.mH],0⟩] [] [0] [pvB B0_ o0_ x0.mB] (Ra e11) ?_)
   cases hb:v11.1
   ·have h14:=A4 h13 hb;refine rl.done (RW.cond_f rfl (RW.skip (RW.reg (rl.f 3 rfl ?_))));cases h14
    exact hB3 _ rfl _ _ (Gh.rN [0,1,2,5,6])
   ·have h15:=A5 h13 hb;refine rl.done (RW.cond_t rfl (RW.reg (rl.run 1 rfl ?_)));obtain ⟨v12,e12,h16⟩:=A2 h15;refine rl.call rfl rfl rfl (A6.z (r':=.agg (B5 7 8 v12)) (H':=[some ⟨[pvB B0_ o0_ x0.mB,.j v11.2.mI,.j v11.2.mH],0⟩,some ⟨[.nils,.nils],0⟩,some ⟨B5 5 6 v10.1,0⟩,some ⟨fl (encS true) s3.2.2.2.1,1⟩,some ⟨fl (A1 true) s3.2.2.2.2,2⟩,some ⟨fl (encS true) v10.1.Sectors,1⟩,some ⟨fl (A1 true) v10.1.Cache,2⟩,some ⟨fl (encS true) v12.Sectors,1⟩,some ⟨fl (A1 true) v12.Cache,2⟩]) (M8 e12) ?_);refine rl.f 1 rfl (RW.reg (rl.f 3 rfl ?_));cases h16
    exact hB3 _ rfl _ _ (Gh.rN [0,1,2,7,8])
 ·intro y4 hC
  subst hC;refine RW.sf 2 rfl (RW.ret ?_);cases h4
  exact RRetM.m [0,3,4] Gh.refl
theorem Jg {x0:TL01Cur} {B0_ o0_:Nat} {r:TDisk×TL01Cur×List (List UInt8)×Int×Int} (hF:X5 x0=some r):C0 Tryz.prog 0 107 [.ptr 0 0] [some ⟨[pvB B0_ o0_ x0.mB,.j x0.mI,.j x0.mH],0⟩] (.agg [.sl 1 ((r.2.2.2.1:Int).toNat*1) r.1.Sectors.length,.sl 2 0 r.1.Cache.length]) [some ⟨[pvB B0_ o0_ x0.mB,.j r.2.1.mI,.j r.2.1.mH],0⟩,some ⟨fl (encS true) r.2.2.1,1⟩,some ⟨fl (A1 true) r.1.Cache,2⟩]:=by
 refine C0.p A1m ?_;unfold X5 at hF;refine RW.sf 1 rfl (RW.sr 1 rfl ?_);obtain ⟨v1,e1,h1⟩:=A2 hF;refine rl.call rfl rfl rfl (A6.eN (r0:=.j v1.1) (H':=[some ⟨[pvB B0_ o0_ x0.mB,.j v1.2.mI,.j v1.2.mH],0⟩,some ⟨[.nils,.nils],0⟩]) [⟨[pvB B0_ o0_ x0.mB,.j x0.mI,.j x0.mH],0⟩] [⟨[pvB B0_ o0_ x0.mB,.j v1.2.mI,.j v1.2.mH],0⟩] [] [0] [pvB B0_ o0_ x0.mB] (A9 e1) ?_);refine rl.f 1 rfl (RW.sr 1 rfl ?_);obtain ⟨v2,e2,h2⟩:=A2 h1;refine rl.call rfl rfl rfl (A6.eN (r0:=.j v2.1) (H':=[some ⟨[pvB B0_ o0_ x0.mB,.j v2.2.mI,.j v2.2.mH],0⟩,some ⟨[.nils,.nils],0⟩]) [⟨[pvB B0_ o0_ x0.mB,.j v1.2.mI,.j v1.2.mH],0⟩] [⟨[pvB B0_ o0_ x0.mB,.j v2.2.mI,.j v2.2.mH],0⟩] [] [0] [pvB B0_ o0_ x0.mB] (A9 e2) ?_);refine rl.f 1 rfl (RW.sr 1 rfl ?_);obtain ⟨v3,e3,h3⟩:=A2 h2;refine rl.call rfl rfl rfl (A6.eN (r0:=.agg (B5 2 3 v3.1)) (H':=[some ⟨[pvB B0_ o0_ x0.mB,.j v3.2.mI,.j v3.2.mH],0⟩,some ⟨[.nils,.nils],0⟩,some ⟨fl (encS true) v3.1.Sectors,1⟩,some ⟨fl (A1 true) v3.1.Cache,2⟩]) [⟨[pvB B0_ o0_ x0.mB,.j v2.2.mI,.j v2.2.mH],0⟩] [⟨[pvB B0_ o0_ x0.mB,.j v3.2.mI,.j v3.2.mH],0⟩] [⟨fl (encS true) v3.1.Sectors,1⟩,⟨fl (A1 true) v3.1.Cache,2⟩] [0] [pvB B0_ o0_ x0.mB] (Qu e3) ?_);obtain ⟨v4,e4,h4⟩:=A2 h3;refine rl.call rfl rfl rfl (A6.z (r':=.agg (B5 4 5 v4)) (H':=[some ⟨[pvB B0_ o0_ x0.mB,.j v3.2.mI,.j v3.2.mH],0⟩,some ⟨[.nils,.nils],0⟩,some ⟨fl (encS true) v3.1.Sectors,1⟩,some ⟨fl (A1 true) v3.1.Cache,2⟩,some ⟨fl (encS true) v4.Sectors,1⟩,some ⟨fl (A1 true) v4.Cache,2⟩]) (G6 e4) ?_);refine rl.f 2 rfl (RW.seq (RW.sf 1 rfl (RW.blk (RW.sreg ?_))))
 refine rl.gen rfl rfl fun b hb=>?_
 cases b
 ·have h5:=A4 h4 hb;refine rl.f 1 rfl (RW.cond_f rfl (RW.sreg ?_))
  refine rl.gen rfl rfl fun b hb=>?_
  cases b
  ·have h6:=A4 h5 hb;refine rl.f 1 rfl ?_;refine RW.kp [2,4,5,13,28] [(2,.ptr 1 0),(4,.j v2.1),(5,.ptr 6 0),(13,.j v1.1),(28,.bool false)] [some ⟨[pvB B0_ o0_ x0.mB,.j v3.2.mI,.j v3.2.mH],0⟩,some ⟨[.nils,.nils],0⟩,some ⟨fl (encS true) v3.1.Sectors,1⟩,some ⟨fl (A1 true) v3.1.Cache,2⟩,some ⟨fl (encS true) v4.Sectors,1⟩,some ⟨fl (A1 true) v4.Cache,2⟩,some ⟨B5 4 5 v4,0⟩] rfl rfl ?_;refine RW.cond_f rfl (RW.sreg ?_)
   refine rl.gen rfl rfl fun b hb=>?_
   cases b
   ·have h7:=A4 h6 hb;refine rl.f 1 rfl (RW.cond_f rfl (RW.sreg ?_))
    refine rl.gen rfl rfl fun b hb=>?_
    cases b
    ·have h8:=A4 h7 hb;refine rl.f 1 rfl (RW.cond_f rfl (RW.skip (RW.sf 2 rfl (RW.ret ?_))));cases h8
     exact RRetM.m [0,4,5] Gh.refl
    ·have h9:=A5 h7 hb;refine rl.f 1 rfl (RW.cond_t rfl (RW.reg (rl.run 2 rfl ?_)));obtain ⟨v5,e5,h10⟩:=A2 h9;refine rl.op (Tp (i:=0) rfl rfl rfl rfl rfl T5 e5) ?_;refine rl.f 2 rfl (RW.sf 2 rfl ?_);refine RW.kp [2] [(2,.ptr 1 0)] [some ⟨[pvB B0_ o0_ x0.mB,.j v3.2.mI,.j v3.2.mH],0⟩,some ⟨[.sl 4 ((0:Int).toNat*1) v5.length,.sl 5 0 v4.Cache.length],0⟩,some ⟨fl (encS true) v3.1.Sectors,1⟩,some ⟨fl (A1 true) v3.1.Cache,2⟩,some ⟨fl (encS true) v4.Sectors,1⟩,some ⟨fl (A1 true) v4.Cache,2⟩,some ⟨[.sl 4 ((0:Int).toNat*1) v5.length,.sl 5 0 v4.Cache.length],0⟩] rfl rfl ?_;refine RW.ret ?_;cases h10
     exact RRetM.m [0,4,5] Gh.refl
   ·have h11:=A5 h6 hb;refine rl.f 1 rfl (RW.cond_t rfl ?_);obtain ⟨y10,ey10,h13⟩:=A2 h11
    refine RW.cutq (σ:=(List TWrite)) (fun y7=>[(2,.ptr 1 0),(5,.ptr 2 0)]) (fun y7=>[some ⟨[pvB B0_ o0_ x0.mB,.j v3.2.mI,.j v3.2.mH],0⟩,some ⟨[.nils,.nils],0⟩,some ⟨[.sl 3 0 v4.Sectors.length,.sl 4 0 y7.length],0⟩,some ⟨fl (encS true) v4.Sectors,1⟩,some ⟨fl (A1 true) y7,2⟩]) (fun y=>y10=y) gg ?_ ?_
    ·refine RW.blk ?_
     refine RW.iter (σ:=(List TWrite)) ey10 (fun s6=>[(2,.ptr 1 0),(4,.j v2.1),(5,.ptr 2 0)]) (fun s6=>[some ⟨[pvB B0_ o0_ x0.mB,.j v3.2.mI,.j v3.2.mH],0⟩,some ⟨[.nils,.nils],0⟩,some ⟨[.sl 3 0 v4.Sectors.length,.sl 4 0 s6.length],0⟩,some ⟨fl (encS true) v4.Sectors,1⟩,some ⟨fl (A1 true) s6,2⟩]) (Gh.rN [0,1,6,4,5]) (fun s6 B o hS12 hB12 hE12=>?_)
     unfold Cg at hS12;refine RW.seq (RW.sr 6 rfl ?_)
     refine rl.gen rfl rfl fun b hb=>?_
     cases b
     ·have h14:=A4 hS12 hb;refine rl.done (RW.cond_f rfl (RW.exit (C7 ?_)));cases h14
      exact ⟨_,(hE12 _ rfl).symm,(Gh.rN [0,1,2,3,4])⟩
     ·have h15:=A5 hS12 hb;refine rl.done (RW.cond_t rfl (RW.skip (RW.blk (RW.drw (A0.op rfl rfl (A0.op rfl rfl ?_))))));obtain ⟨v8,e8,h16⟩:=A2 h15;refine A0.call rfl rfl rfl (A6.y (r':=.str v8) (Js e8) ⟨rfl,?_⟩);refine A0.op rfl rfl ?_;refine A0.chnB rfl rfl (.skip rfl (.skip rfl (.here (.rx rfl) (.here (.rx rfl) .nil)))) ?_;obtain ⟨v9,e9,h17⟩:=A2 h16;refine A0.chn rfl (T9 rfl rfl (M6 (l:=s6) (m:=[({ At:=0,Text:=v8 }:TWrite)]) (o:=true) B4 rfl rfl (J3 (m:=[({ At:=0,Text:=v8 }:TWrite)]) (o:=true) Ak rfl rfl) rfl (Ak.fst _ _) e9)) ?_;refine A0.op rfl rfl ?_;refine A0.chn rfl rfl ?_;refine A0.done ?_;cases h17
      exact hB12 _ rfl _ _ (Gh.rN [0,1,2,3,6])
    ·intro y7 hC
     subst hC;refine RW.sf 2 rfl (RW.ret ?_);cases h13
     exact RRetM.m [0,3,4] Gh.refl
  ·have h18:=A5 h5 hb;refine rl.f 1 rfl ?_;refine RW.kp [2,4,5,13,28] [(2,.ptr 1 0),(4,.j v2.1),(5,.ptr 6 0),(13,.j v1.1),(28,.bool true)] [some ⟨[pvB B0_ o0_ x0.mB,.j v3.2.mI,.j v3.2.mH],0⟩,some ⟨[.nils,.nils],0⟩,some ⟨fl (encS true) v3.1.Sectors,1⟩,some ⟨fl (A1 true) v3.1.Cache,2⟩,some ⟨fl (encS true) v4.Sectors,1⟩,some ⟨fl (A1 true) v4.Cache,2⟩,some ⟨B5 4 5 v4,0⟩] rfl rfl ?_;refine RW.cond_t rfl (RW.drw (A0.op rfl rfl (A0.op rfl rfl (A0.op rfl rfl (A0.op rfl rfl (A0.op rfl rfl (A0.op rfl rfl (A0.op rfl rfl (A0.op rfl rfl ?_)))))))));obtain ⟨v11,e11,h19⟩:=A2 h18;refine A0.call rfl rfl rfl (A6.y (r':=.str v11) (Di e11) ⟨rfl,?_⟩);refine A0.op rfl rfl ?_;refine A0.chnB rfl rfl (.skip rfl (.skip rfl (.skip rfl (.skip rfl (.skip rfl (.skip rfl (.skip rfl (.skip rfl (.here (.rx rfl) (.here (.rx rfl) .nil)))))))))) ?_;obtain ⟨v12,e12,h20⟩:=A2 h19;refine A0.chn rfl (T9 rfl rfl (M6 (l:=v4.Cache) (m:=[({ At:=w64 ((Int.tmod v2.1 9) - 1),Text:=v11 }:TWrite)]) (o:=true) B4 rfl rfl (J3 (m:=[({ At:=w64 ((Int.tmod v2.1 9) - 1),Text:=v11 }:TWrite)]) (o:=true) Ak rfl rfl) rfl (Ak.fst _ _) e12)) ?_;refine A0.op rfl rfl ?_;refine A0.chn rfl rfl ?_;refine A0.done (RW.sf 2 rfl ?_);refine RW.kp [2] [(2,.ptr 1 0)] [some ⟨[pvB B0_ o0_ x0.mB,.j v3.2.mI,.j v3.2.mH],0⟩,some ⟨[.sl 4 0 v4.Sectors.length,.sl 8 0 v12.length],0⟩,some ⟨fl (encS true) v3.1.Sectors,1⟩,some ⟨fl (A1 true) v3.1.Cache,2⟩,some ⟨fl (encS true) v4.Sectors,1⟩,none,some ⟨[.sl 4 0 v4.Sectors.length,.sl 8 0 v12.length],0⟩,some ⟨fl (A1 true) [({ At:=w64 ((Int.tmod v2.1 9) - 1),Text:=v11 }:TWrite)],2⟩,some ⟨fl (A1 true) v12,2⟩] rfl rfl ?_;refine RW.ret ?_;cases h20
   exact RRetM.m [0,4,8] Gh.refl
 ·have h21:=A5 h4 hb;refine rl.f 1 rfl (RW.cond_t rfl (RW.drw (A0.op rfl rfl (A0.op rfl rfl (A0.op rfl rfl (A0.op rfl rfl (A0.op rfl rfl (A0.op rfl rfl ?_))))))));obtain ⟨v13,e13,h22⟩:=A2 h21;refine A0.op rfl (A6g rfl rfl e13) ?_;refine A0.op rfl rfl (A0.op rfl rfl (A0.op rfl rfl ?_));obtain ⟨v14,e14,h23⟩:=A2 h22;refine A0.call rfl rfl rfl (A6.y (r':=.str v14) (Di e14) ⟨rfl,?_⟩);obtain ⟨v15,e15,h24⟩:=A2 h23;refine A0.op rfl (P7 rfl rfl rfl rfl e15) ?_;obtain ⟨v16,e16,h25⟩:=A2 h24;refine A0.chn rfl (Ma (off':=0) (o:=true) (e':=v14) ekS e15 rfl rfl rfl rfl rfl rfl rfl rfl rfl e16) ?_;refine A0.done (RW.sf 2 rfl ?_);refine RW.kp [2] [(2,.ptr 1 0)] [some ⟨[pvB B0_ o0_ x0.mB,.j v3.2.mI,.j v3.2.mH],0⟩,some ⟨B5 4 5 v4,0⟩,some ⟨fl (encS true) v3.1.Sectors,1⟩,some ⟨fl (A1 true) v3.1.Cache,2⟩,some ⟨fl (encS true) v16,1⟩,some ⟨fl (A1 true) v4.Cache,2⟩,some ⟨B5 4 5 v4,0⟩] rfl rfl ?_;refine RW.ret ?_;cases h25
  exact RRetM.mk [0,4,5] Gh.refl rfl (.c rfl rfl (.keep (.pv ekB.rlst) (.i (.i .nil))) (.same rfl (ekS.fref _ _) (.same rfl (B4.fref _ _) .nil))) rfl rfl rfl (RnL.agg (.cons (.slq rfl (Av e16)) (.cons (.slq rfl rfl) .nil)))
theorem Pk {x0:TL01Cur} {B0_ o0_:Nat} {r:TFrame×TL01Cur} (hF:Y2 x0=some r):C0 Tryz.prog 0 180 [.ptr 0 0] [some ⟨[pvB B0_ o0_ x0.mB,.j x0.mI,.j x0.mH],0⟩] (.agg (C4 true r.1)) [some ⟨[pvB B0_ o0_ x0.mB,.j r.2.mI,.j r.2.mH],0⟩]:=by
 refine C0.q Xr ?_;unfold Y2 at hF;refine RW.sf 1 rfl (RW.sr 1 rfl ?_);obtain ⟨v1,e1,h1⟩:=A2 hF;refine rl.call rfl rfl rfl (A6.eN (r0:=.j v1.1) (H':=[some ⟨[pvB B0_ o0_ x0.mB,.j v1.2.mI,.j v1.2.mH],0⟩,some ⟨[.j 0,.j 0,.str []],0⟩]) [⟨[pvB B0_ o0_ x0.mB,.j x0.mI,.j x0.mH],0⟩] [⟨[pvB B0_ o0_ x0.mB,.j v1.2.mI,.j v1.2.mH],0⟩] [] [0] [pvB B0_ o0_ x0.mB] (A9 e1) ?_);refine rl.run 2 rfl ?_;obtain ⟨v2,e2,h2⟩:=A2 h1;refine rl.call rfl rfl rfl (A6.eN (r0:=.j v2.1) (H':=[some ⟨[pvB B0_ o0_ x0.mB,.j v2.2.mI,.j v2.2.mH],0⟩,some ⟨[.j 0,.j 0,.str []],0⟩]) [⟨[pvB B0_ o0_ x0.mB,.j v1.2.mI,.j v1.2.mH],0⟩] [⟨[pvB B0_ o0_ x0.mB,.j v2.2.mI,.j v2.2.mH],0⟩] [] [0] [pvB B0_ o0_ x0.mB] (A9 e2) ?_);refine rl.run 3 rfl ?_;obtain ⟨v3,e3,h3⟩:=A2 h2;refine rl.call rfl rfl rfl (A6.eN (r0:=.j v3.1) (H':=[some ⟨[pvB B0_ o0_ x0.mB,.j v3.2.mI,.j v3.2.mH],0⟩,some ⟨[.j 0,.j 0,.str []],0⟩]) [⟨[pvB B0_ o0_ x0.mB,.j v2.2.mI,.j v2.2.mH],0⟩] [⟨[pvB B0_ o0_ x0.mB,.j v3.2.mI,.j v3.2.mH],0⟩] [] [0] [pvB B0_ o0_ x0.mB] (A9 e3) ?_);refine rl.run 1 rfl ?_;obtain ⟨v4,e4,h4⟩:=A2 h3;refine rl.call rfl rfl rfl (A6.eN (r0:=.str v4.1) (H':=[some ⟨[pvB B0_ o0_ x0.mB,.j v4.2.mI,.j v4.2.mH],0⟩,some ⟨[.j 0,.j 0,.str []],0⟩]) [⟨[pvB B0_ o0_ x0.mB,.j v3.2.mI,.j v3.2.mH],0⟩] [⟨[pvB B0_ o0_ x0.mB,.j v4.2.mI,.j v4.2.mH],0⟩] [] [0] [pvB B0_ o0_ x0.mB] (W1 e4) ?_);refine rl.f 2 rfl ?_;refine RW.kp [2] [(2,.ptr 1 0)] [some ⟨[pvB B0_ o0_ x0.mB,.j v4.2.mI,.j v4.2.mH],0⟩,some ⟨[.j (w64 (1+v1.1)),.j (w64 (1+v2.1)),.str v4.1],0⟩] rfl rfl ?_;refine RW.ret ?_;cases h4
 exact RRetS.m (Gh.rN [0])
theorem Qs {x0:TL01Cur} {B0_ o0_:Nat} {r:TDisk×TL01Cur} (hF:Az x0=some r):C0 Tryz.prog 0 159 [.ptr 0 0] [some ⟨[pvB B0_ o0_ x0.mB,.j x0.mI,.j x0.mH],0⟩] (.agg (B5 1 2 r.1)) [some ⟨[pvB B0_ o0_ x0.mB,.j r.2.mI,.j r.2.mH],0⟩,some ⟨fl (encS true) r.1.Sectors,1⟩,some ⟨fl (A1 true) r.1.Cache,2⟩]:=by
 refine C0.p Zi ?_;unfold Az at hF;refine RW.sf 1 rfl (RW.sr 1 rfl ?_);obtain ⟨v1,e1,h1⟩:=A2 hF;refine rl.call rfl rfl rfl (A6.eN (r0:=.j v1.1) (H':=[some ⟨[pvB B0_ o0_ x0.mB,.j v1.2.mI,.j v1.2.mH],0⟩,some ⟨[.nils,.nils],0⟩]) [⟨[pvB B0_ o0_ x0.mB,.j x0.mI,.j x0.mH],0⟩] [⟨[pvB B0_ o0_ x0.mB,.j v1.2.mI,.j v1.2.mH],0⟩] [] [0] [pvB B0_ o0_ x0.mB] (A9 e1) ?_);refine rl.run 3 rfl ?_;obtain ⟨v2,e2,h2⟩:=A2 h1;refine rl.call rfl rfl rfl (A6.z (r':=.tup [.agg (B5 2 3 v2.1),.bool v2.2]) (H':=[some ⟨[pvB B0_ o0_ x0.mB,.j v1.2.mI,.j v1.2.mH],0⟩,some ⟨[.nils,.nils],0⟩,some ⟨fl (encS true) v2.1.Sectors,1⟩,some ⟨fl (A1 true) v2.1.Cache,2⟩]) (Ga e2) ?_);refine rl.f 6 rfl (RW.seq (RW.sf 1 rfl ?_));obtain ⟨y17,ey17,h4⟩:=A2 h2
 refine RW.cutq (σ:=Int×Int×(List (List UInt8))×(List TWrite)) (fun y4=>[(2,.ptr 1 0),(3,.ptr 2 0)]) (fun y4=>[some ⟨[pvB B0_ o0_ x0.mB,.j y4.1,.j y4.2.1],0⟩,some ⟨[.nils,.nils],0⟩,some ⟨[.sl 3 0 y4.2.2.1.length,.sl 4 0 y4.2.2.2.length],0⟩,some ⟨fl (encS true) y4.2.2.1,1⟩,some ⟨fl (A1 true) y4.2.2.2,2⟩]) (fun y=>y17=y) gg ?_ ?_
 ·refine RW.blk ?_
  refine RW.iter (σ:=Int×Int×Int×(List (List UInt8))×(List TWrite)) ey17 (fun s3=>[(0,.ptr 0 0),(2,.ptr 1 0),(3,.ptr 2 0),(5,.j s3.1)]) (fun s3=>[some ⟨[pvB B0_ o0_ x0.mB,.j s3.2.1,.j s3.2.2.1],0⟩,some ⟨[.nils,.nils],0⟩,some ⟨[.sl 3 0 s3.2.2.2.1.length,.sl 4 0 s3.2.2.2.2.length],0⟩,some ⟨fl (encS true) s3.2.2.2.1,1⟩,some ⟨fl (A1 true) s3.2.2.2.2,2⟩]) (Gh.rN [0,1,4,2,3]) (fun s3 B o hS3 hB3 hE3=>?_)
  unfold Bi at hS3;refine RW.seq (RW.sr 2 rfl ?_);obtain ⟨v5,e5,h5⟩:=A2 hS3;refine rl.call rfl rfl rfl (A6.eN (r0:=.j v5.1) (H':=[some ⟨[pvB B0_ o0_ x0.mB,.j v5.2.mI,.j v5.2.mH],0⟩,some ⟨[.nils,.nils],0⟩,some ⟨[.sl 3 0 s3.2.2.2.1.length,.sl 4 0 s3.2.2.2.2.length],0⟩,some ⟨fl (encS true) s3.2.2.2.1,1⟩,some ⟨fl (A1 true) s3.2.2.2.2,2⟩]) [⟨[pvB B0_ o0_ x0.mB,.j s3.2.1,.j s3.2.2.1],0⟩] [⟨[pvB B0_ o0_ x0.mB,.j v5.2.mI,.j v5.2.mH],0⟩] [] [0] [pvB B0_ o0_ x0.mB] (A9 e5) ?_)
  refine rl.gen rfl rfl fun b hb=>?_
  cases b
  ·have h6:=A4 h5 hb;refine rl.done (RW.cond_f rfl (RW.exit (C7 ?_)));cases h6
   exact ⟨_,(hE3 _ rfl).symm,(Gh.rN [0,1,2,3,4])⟩
  ·have h7:=A5 h5 hb;refine rl.done (RW.cond_t rfl (RW.skip (RW.seq (RW.blk (RW.sr 1 rfl ?_)))));obtain ⟨v6,e6,h8⟩:=A2 h7;refine rl.call rfl rfl rfl (A6.eN (r0:=.j v6.1) (H':=[some ⟨[pvB B0_ o0_ x0.mB,.j v6.2.mI,.j v6.2.mH],0⟩,some ⟨[.nils,.nils],0⟩,some ⟨[.sl 3 0 s3.2.2.2.1.length,.sl 4 0 s3.2.2.2.2.length],0⟩,some ⟨fl (encS true) s3.2.2.2.1,1⟩,some ⟨fl (A1 true) s3.2.2.2.2,2⟩]) [⟨[pvB B0_ o0_ x0.mB,.j v5.2.mI,.j v5.2.mH],0⟩] [⟨[pvB B0_ o0_ x0.mB,.j v6.2.mI,.j v6.2.mH],0⟩] [] [0] [pvB B0_ o0_ x0.mB] (A9 e6) ?_);refine rl.f 1 rfl (RW.sf 3 rfl (RW.sr 2 rfl ?_));obtain ⟨v7,e7,h9⟩:=A2 h8;refine rl.call rfl rfl rfl (A6.y (r':=.tup [.str v7.1,.bool v7.2]) (R3 e7) ?_);refine rl.f 5 rfl ?_;refine RW.kp [0,2,3,5,6,7,8] [(0,.ptr 0 0),(2,.ptr 1 0),(3,.ptr 2 0),(5,.j s3.1),(6,.j v6.1),(7,.j (w64 (1+s3.1))),(8,.str v7.1)] [some ⟨[pvB B0_ o0_ x0.mB,.j v6.2.mI,.j v6.2.mH],0⟩,some ⟨[.nils,.nils],0⟩,some ⟨[.sl 3 0 s3.2.2.2.1.length,.sl 4 0 s3.2.2.2.2.length],0⟩,some ⟨fl (encS true) s3.2.2.2.1,1⟩,some ⟨fl (A1 true) s3.2.2.2.2,2⟩] rfl rfl ?_;refine RW.seq (RW.sf 1 rfl ?_);obtain ⟨y14,ey14,h11⟩:=A2 h9
   refine RW.cutq (σ:=(List UInt8)×Int×Int) (fun y9=>[(0,.ptr 0 0),(2,.ptr 1 0),(3,.ptr 2 0),(5,.j s3.1),(6,.j v6.1),(8,.str y9.1)]) (fun y9=>[some ⟨[pvB B0_ o0_ x0.mB,.j y9.2.1,.j y9.2.2],0⟩,some ⟨[.nils,.nils],0⟩,some ⟨[.sl 3 0 s3.2.2.2.1.length,.sl 4 0 s3.2.2.2.2.length],0⟩,some ⟨fl (encS true) s3.2.2.2.1,1⟩,some ⟨fl (A1 true) s3.2.2.2.2,2⟩]) (fun y=>y14=y) gg ?_ ?_
   ·refine RW.blk ?_
    refine RW.iter (σ:=(List UInt8)×Int×Int×Int) ey14 (fun s8=>[(0,.ptr 0 0),(2,.ptr 1 0),(3,.ptr 2 0),(5,.j s3.1),(6,.j v6.1),(7,.j (w64 (1+s3.1))),(8,.str s8.1),(10,.j s8.2.1)]) (fun s8=>[some ⟨[pvB B0_ o0_ x0.mB,.j s8.2.2.1,.j s8.2.2.2],0⟩,some ⟨[.nils,.nils],0⟩,some ⟨[.sl 3 0 s3.2.2.2.1.length,.sl 4 0 s3.2.2.2.2.length],0⟩,some ⟨fl (encS true) s3.2.2.2.1,1⟩,some ⟨fl (A1 true) s3.2.2.2.2,2⟩]) (Gh.rN [0,1,2,3,4]) (fun s8 B o hS10 hB10 hE10=>?_)
    unfold Bg at hS10;refine RW.seq (RW.sr 2 rfl ?_);obtain ⟨v10,e10,h12⟩:=A2 hS10;refine rl.call rfl rfl rfl (A6.eN (r0:=.j v10.1) (H':=[some ⟨[pvB B0_ o0_ x0.mB,.j v10.2.mI,.j v10.2.mH],0⟩,some ⟨[.nils,.nils],0⟩,some ⟨[.sl 3 0 s3.2.2.2.1.length,.sl 4 0 s3.2.2.2.2.length],0⟩,some ⟨fl (encS true) s3.2.2.2.1,1⟩,some ⟨fl (A1 true) s3.2.2.2.2,2⟩]) [⟨[pvB B0_ o0_ x0.mB,.j s8.2.2.1,.j s8.2.2.2],0⟩] [⟨[pvB B0_ o0_ x0.mB,.j v10.2.mI,.j v10.2.mH],0⟩] [] [0] [pvB B0_ o0_ x0.mB] (A9 e10) ?_)
    refine rl.gen rfl rfl fun b hb=>?_
    cases b
    ·have h13:=A4 h12 hb;refine rl.done (RW.cond_f rfl (RW.exit (C7 ?_)));cases h13
     exact ⟨_,(hE10 _ rfl).symm,(Gh.rN [0,1,2,3,4])⟩
    ·have h14:=A5 h12 hb;refine rl.done (RW.cond_t rfl (RW.skip (RW.seq (RW.blk (RW.sr 1 rfl ?_)))));obtain ⟨v11,e11,h15⟩:=A2 h14;refine rl.call rfl rfl rfl (A6.eN (r0:=.agg (C4 false v11.1)) (H':=[some ⟨[pvB B0_ o0_ x0.mB,.j v11.2.mI,.j v11.2.mH],0⟩,some ⟨[.nils,.nils],0⟩,some ⟨[.sl 3 0 s3.2.2.2.1.length,.sl 4 0 s3.2.2.2.2.length],0⟩,some ⟨fl (encS true) s3.2.2.2.1,1⟩,some ⟨fl (A1 true) s3.2.2.2.2,2⟩]) [⟨[pvB B0_ o0_ x0.mB,.j v10.2.mI,.j v10.2.mH],0⟩] [⟨[pvB B0_ o0_ x0.mB,.j v11.2.mI,.j v11.2.mH],0⟩] [] [0] [pvB B0_ o0_ x0.mB] (Pk e11) ?_);refine rl.f 2 rfl (RW.sf 3 rfl (RW.sr 1 rfl ?_));obtain ⟨v12,e12,h16⟩:=A2 h15;refine rl.call rfl rfl rfl (A6.y (r':=.tup [.str v12.1,.bool v12.2]) (R3 e12) ?_);refine rl.f 5 rfl ?_;refine RW.kp [0,2,3,5,6,7,8,10,12] [(0,.ptr 0 0),(2,.ptr 1 0),(3,.ptr 2 0),(5,.j s3.1),(6,.j v6.1),(7,.j (w64 (1+s3.1))),(8,.str s8.1),(10,.j s8.2.1),(12,.str v12.1)] [some ⟨[pvB B0_ o0_ x0.mB,.j v11.2.mI,.j v11.2.mH],0⟩,some ⟨[.nils,.nils],0⟩,some ⟨[.sl 3 0 s3.2.2.2.1.length,.sl 4 0 s3.2.2.2.2.length],0⟩,some ⟨fl (encS true) s3.2.2.2.1,1⟩,some ⟨fl (A1 true) s3.2.2.2.2,2⟩,some ⟨[.j (w64 (1+s3.1)),.j v11.1.Seq,.str v11.1.Body],0⟩] rfl rfl ?_;refine RW.reg (rl.run 2 rfl ?_);obtain ⟨v13,e13,h17⟩:=A2 h16;refine rl.op (M0 rfl rfl e13) ?_;refine rl.f 1 rfl (RW.reg (rl.f 3 rfl ?_));cases h17
     exact hB10 _ rfl _ _ (Gh.rN [0,1,2,3,4])
   ·intro y9 hC
    subst hC;refine RW.sr 3 rfl ?_;obtain ⟨v15,e15,h18⟩:=A2 h11;refine rl.call rfl rfl rfl (A6.y (r':=.tup [.agg (A3 false v15.1),.bool v15.2]) (K9 e15) ?_);refine rl.f 4 rfl (RW.reg (rl.run 1 rfl ?_));obtain ⟨v16,e16,h19⟩:=A2 h18;refine rl.call rfl rfl rfl (A6.z (r':=.agg (B5 5 6 v16)) (H':=[some ⟨[pvB B0_ o0_ x0.mB,.j y14.2.1,.j y14.2.2],0⟩,some ⟨[.nils,.nils],0⟩,some ⟨A3 false v15.1,0⟩,some ⟨fl (encS true) s3.2.2.2.1,1⟩,some ⟨fl (A1 true) s3.2.2.2.2,2⟩,some ⟨fl (encS true) v16.Sectors,1⟩,some ⟨fl (A1 true) v16.Cache,2⟩]) (M8 e16) ?_);refine rl.f 1 rfl (RW.reg (rl.f 3 rfl ?_));cases h19
    exact hB3 _ rfl _ _ (Gh.rN [0,1,2,5,6])
 ·intro y4 hC
  subst hC;refine RW.sf 2 rfl (RW.ret ?_);cases h4
  exact RRetM.m [0,3,4] Gh.refl
theorem Tb {x0:TL01Cur} {B0_ o0_:Nat} {r:TDisk×TL01Cur×List (List UInt8)×Int×Int} (hF:Bt x0=some r):C0 Tryz.prog 0 108 [.ptr 0 0] [some ⟨[pvB B0_ o0_ x0.mB,.j x0.mI,.j x0.mH],0⟩] (.agg [.sl 1 ((r.2.2.2.1:Int).toNat*1) r.1.Sectors.length,.sl 2 0 r.1.Cache.length]) [some ⟨[pvB B0_ o0_ x0.mB,.j r.2.1.mI,.j r.2.1.mH],0⟩,some ⟨fl (encS true) r.2.2.1,1⟩,some ⟨fl (A1 true) r.1.Cache,2⟩]:=by
 refine C0.p A0z ?_;unfold Bt at hF;refine RW.sf 1 rfl (RW.sr 1 rfl ?_);obtain ⟨v1,e1,h1⟩:=A2 hF;refine rl.call rfl rfl rfl (A6.eN (r0:=.j v1.1) (H':=[some ⟨[pvB B0_ o0_ x0.mB,.j v1.2.mI,.j v1.2.mH],0⟩,some ⟨[.nils,.nils],0⟩]) [⟨[pvB B0_ o0_ x0.mB,.j x0.mI,.j x0.mH],0⟩] [⟨[pvB B0_ o0_ x0.mB,.j v1.2.mI,.j v1.2.mH],0⟩] [] [0] [pvB B0_ o0_ x0.mB] (A9 e1) ?_);refine rl.f 1 rfl (RW.sr 1 rfl ?_);obtain ⟨v2,e2,h2⟩:=A2 h1;refine rl.call rfl rfl rfl (A6.eN (r0:=.j v2.1) (H':=[some ⟨[pvB B0_ o0_ x0.mB,.j v2.2.mI,.j v2.2.mH],0⟩,some ⟨[.nils,.nils],0⟩]) [⟨[pvB B0_ o0_ x0.mB,.j v1.2.mI,.j v1.2.mH],0⟩] [⟨[pvB B0_ o0_ x0.mB,.j v2.2.mI,.j v2.2.mH],0⟩] [] [0] [pvB B0_ o0_ x0.mB] (A9 e2) ?_);refine rl.f 1 rfl (RW.sr 1 rfl ?_);obtain ⟨v3,e3,h3⟩:=A2 h2;refine rl.call rfl rfl rfl (A6.eN (r0:=.agg (B5 2 3 v3.1)) (H':=[some ⟨[pvB B0_ o0_ x0.mB,.j v3.2.mI,.j v3.2.mH],0⟩,some ⟨[.nils,.nils],0⟩,some ⟨fl (encS true) v3.1.Sectors,1⟩,some ⟨fl (A1 true) v3.1.Cache,2⟩]) [⟨[pvB B0_ o0_ x0.mB,.j v2.2.mI,.j v2.2.mH],0⟩] [⟨[pvB B0_ o0_ x0.mB,.j v3.2.mI,.j v3.2.mH],0⟩] [⟨fl (encS true) v3.1.Sectors,1⟩,⟨fl (A1 true) v3.1.Cache,2⟩] [0] [pvB B0_ o0_ x0.mB] (Qs e3) ?_);obtain ⟨v4,e4,h4⟩:=A2 h3;refine rl.call rfl rfl rfl (A6.z (r':=.agg (B5 4 5 v4)) (H':=[some ⟨[pvB B0_ o0_ x0.mB,.j v3.2.mI,.j v3.2.mH],0⟩,some ⟨[.nils,.nils],0⟩,some ⟨fl (encS true) v3.1.Sectors,1⟩,some ⟨fl (A1 true) v3.1.Cache,2⟩,some ⟨fl (encS true) v4.Sectors,1⟩,some ⟨fl (A1 true) v4.Cache,2⟩]) (G6 e4) ?_);refine rl.f 2 rfl (RW.seq (RW.sf 1 rfl (RW.blk (RW.sreg ?_))))
 refine rl.gen rfl rfl fun b hb=>?_
 cases b
 ·have h5:=A4 h4 hb;refine rl.f 1 rfl (RW.cond_f rfl (RW.sreg ?_))
  refine rl.gen rfl rfl fun b hb=>?_
  cases b
  ·have h6:=A4 h5 hb;refine rl.f 1 rfl ?_;refine RW.kp [0,2,4,5,14,26] [(0,.ptr 0 0),(2,.ptr 1 0),(4,.j v2.1),(5,.ptr 6 0),(14,.j v1.1),(26,.bool false)] [some ⟨[pvB B0_ o0_ x0.mB,.j v3.2.mI,.j v3.2.mH],0⟩,some ⟨[.nils,.nils],0⟩,some ⟨fl (encS true) v3.1.Sectors,1⟩,some ⟨fl (A1 true) v3.1.Cache,2⟩,some ⟨fl (encS true) v4.Sectors,1⟩,some ⟨fl (A1 true) v4.Cache,2⟩,some ⟨B5 4 5 v4,0⟩] rfl rfl ?_;refine RW.cond_f rfl (RW.sreg ?_)
   refine rl.gen rfl rfl fun b hb=>?_
   cases b
   ·have h7:=A4 h6 hb;refine rl.f 1 rfl (RW.cond_f rfl (RW.skip (RW.sf 2 rfl (RW.ret ?_))));cases h7
    exact RRetM.m [0,4,5] Gh.refl
   ·have h8:=A5 h6 hb;refine rl.f 1 rfl (RW.cond_t rfl (RW.sr 1 rfl ?_));obtain ⟨v5,e5,h9⟩:=A2 h8;refine rl.call rfl rfl rfl (A6.eN (r0:=.agg [.sl 7 ((v5.2.2.2.1:Int).toNat*1) v5.1.Sectors.length,.sl 8 0 v5.1.Cache.length]) (H':=[some ⟨[pvB B0_ o0_ x0.mB,.j v5.2.1.mI,.j v5.2.1.mH],0⟩,some ⟨[.nils,.nils],0⟩,some ⟨fl (encS true) v3.1.Sectors,1⟩,some ⟨fl (A1 true) v3.1.Cache,2⟩,some ⟨fl (encS true) v4.Sectors,1⟩,some ⟨fl (A1 true) v4.Cache,2⟩,some ⟨B5 4 5 v4,0⟩,some ⟨fl (encS true) v5.2.2.1,1⟩,some ⟨fl (A1 true) v5.1.Cache,2⟩]) [⟨[pvB B0_ o0_ x0.mB,.j v3.2.mI,.j v3.2.mH],0⟩] [⟨[pvB B0_ o0_ x0.mB,.j v5.2.1.mI,.j v5.2.1.mH],0⟩] [⟨fl (encS true) v5.2.2.1,1⟩,⟨fl (A1 true) v5.1.Cache,2⟩] [0] [pvB B0_ o0_ x0.mB] (Jg (Kk e5)) ?_);refine rl.f 1 rfl (RW.ret ?_);cases h9
    exact RRetM.m [0,7,8] Gh.refl
  ·have h10:=A5 h5 hb;refine rl.f 1 rfl ?_;refine RW.kp [0,2,4,5,14,26] [(0,.ptr 0 0),(2,.ptr 1 0),(4,.j v2.1),(5,.ptr 6 0),(14,.j v1.1),(26,.bool true)] [some ⟨[pvB B0_ o0_ x0.mB,.j v3.2.mI,.j v3.2.mH],0⟩,some ⟨[.nils,.nils],0⟩,some ⟨fl (encS true) v3.1.Sectors,1⟩,some ⟨fl (A1 true) v3.1.Cache,2⟩,some ⟨fl (encS true) v4.Sectors,1⟩,some ⟨fl (A1 true) v4.Cache,2⟩,some ⟨B5 4 5 v4,0⟩] rfl rfl ?_;refine RW.cond_t rfl (RW.sf 4 rfl (RW.sr 4 rfl ?_))
   refine rl.gen rfl rfl fun b hb=>?_
   cases b
   ·have h11:=A4 h10 hb;refine rl.done (RW.cond_f rfl (RW.skip (RW.sf 2 rfl ?_)));refine RW.kp [2] [(2,.ptr 1 0)] [some ⟨[pvB B0_ o0_ x0.mB,.j v3.2.mI,.j v3.2.mH],0⟩,some ⟨B5 4 5 v4,0⟩,some ⟨fl (encS true) v3.1.Sectors,1⟩,some ⟨fl (A1 true) v3.1.Cache,2⟩,some ⟨fl (encS true) v4.Sectors,1⟩,some ⟨fl (A1 true) v4.Cache,2⟩,some ⟨B5 4 5 v4,0⟩] rfl rfl ?_;refine RW.ret ?_;cases h11
    exact RRetM.m [0,4,5] Gh.refl
   ·have h12:=A5 h10 hb;refine rl.done (RW.cond_t rfl (RW.drw (A0.op rfl rfl (A0.op rfl rfl (A0.op rfl rfl (A0.op rfl rfl (A0.op rfl rfl ?_)))))));obtain ⟨v6,e6,h13⟩:=A2 h12;refine A0.call rfl rfl rfl (A6.y (r':=.str v6) (Di e6) ⟨rfl,?_⟩);obtain ⟨v7,e7,h14⟩:=A2 h13;refine A0.op rfl (P7 rfl rfl rfl rfl e7) ?_;obtain ⟨v8,e8,h15⟩:=A2 h14;refine A0.chn rfl (Ma (off':=0) (o:=true) (e':=v6) ekS e7 rfl rfl rfl rfl rfl rfl rfl rfl rfl e8) ?_;refine A0.done (RW.sf 2 rfl ?_);refine RW.kp [2] [(2,.ptr 1 0)] [some ⟨[pvB B0_ o0_ x0.mB,.j v3.2.mI,.j v3.2.mH],0⟩,some ⟨B5 4 5 v4,0⟩,some ⟨fl (encS true) v3.1.Sectors,1⟩,some ⟨fl (A1 true) v3.1.Cache,2⟩,some ⟨fl (encS true) v8,1⟩,some ⟨fl (A1 true) v4.Cache,2⟩,some ⟨B5 4 5 v4,0⟩] rfl rfl ?_;refine RW.ret ?_;cases h15
    exact RRetM.mk [0,4,5] Gh.refl rfl (.c rfl rfl (.keep (.pv ekB.rlst) (.i (.i .nil))) (.same rfl (ekS.fref _ _) (.same rfl (B4.fref _ _) .nil))) rfl rfl rfl (RnL.agg (.cons (.slq rfl (Av e8)) (.cons (.slq rfl rfl) .nil)))
 ·have h16:=A5 h4 hb;refine rl.f 1 rfl (RW.cond_t rfl (RW.drw (A0.op rfl rfl (A0.op rfl rfl (A0.op rfl rfl (A0.op rfl rfl (A0.op rfl rfl (A0.op rfl rfl ?_))))))));obtain ⟨v9,e9,h17⟩:=A2 h16;refine A0.op rfl (A6g rfl rfl e9) ?_;obtain ⟨v10,e10,h18⟩:=A2 h17;refine A0.op rfl (Tp (i:=0) rfl rfl rfl rfl rfl T5 e10) ?_;refine A0.op rfl rfl ?_;refine A0.chn rfl rfl ?_;refine A0.done (RW.sf 2 rfl ?_);refine RW.kp [2] [(2,.ptr 1 0)] [some ⟨[pvB B0_ o0_ x0.mB,.j v3.2.mI,.j v3.2.mH],0⟩,some ⟨[.sl 4 ((0:Int).toNat*1) v10.length,.sl 5 0 v4.Cache.length],0⟩,some ⟨fl (encS true) v3.1.Sectors,1⟩,some ⟨fl (A1 true) v3.1.Cache,2⟩,some ⟨fl (encS true) v4.Sectors,1⟩,some ⟨fl (A1 true) v4.Cache,2⟩,some ⟨[.sl 4 ((0:Int).toNat*1) v10.length,.sl 5 0 v4.Cache.length],0⟩] rfl rfl ?_;refine RW.ret ?_;cases h18
  exact RRetM.m [0,4,5] Gh.refl
theorem Ke {x0:List Int} {r:TDisk×TCheck} (hF:Q5 x0=some r):A7 Tryz.prog 41 [L_B x0] (.tup [.agg [L_S r.1.Sectors,.lst true 2 (fl (A1 true) r.1.Cache) r.1.Cache.length],.agg (B6 false r.2)]):=by
 refine A7.q Ll ?_;unfold Q5 at hF;refine RW.sf 2 rfl ?_
 refine RW.pin 0 rfl fun B1 o1=>?_
 refine RW.sr 1 rfl ?_;obtain ⟨v2,e2,h1⟩:=A2 hF;refine rl.call rfl rfl rfl (A6.eN (r0:=.ptr 2 0) (H':=[some ⟨[.nils,.nils],0⟩,some ⟨[.j 0,.j 0,.j 0,.j 0,.nils],0⟩,some ⟨[pvB B1 o1 x0,.j v2.mI,.j v2.mH],0⟩]) [] [] [⟨[pvB B1 o1 x0,.j v2.mI,.j v2.mH],0⟩] [] [pvB B1 o1 x0] (Ft e2) ?_);refine rl.f 1 rfl (RW.sr 1 rfl ?_);obtain ⟨v3,e3,h2⟩:=A2 h1;refine rl.call rfl rfl rfl (A6.eN (r0:=.j v3.1) (H':=[some ⟨[.nils,.nils],0⟩,some ⟨[.j 0,.j 0,.j 0,.j 0,.nils],0⟩,some ⟨[pvB B1 o1 x0,.j v3.2.mI,.j v3.2.mH],0⟩]) [⟨[pvB B1 o1 x0,.j v2.mI,.j v2.mH],0⟩] [⟨[pvB B1 o1 x0,.j v3.2.mI,.j v3.2.mH],0⟩] [] [2] [pvB B1 o1 x0] (A9 e3) ?_);refine rl.f 1 rfl (RW.sr 1 rfl ?_);obtain ⟨v4,e4,h3⟩:=A2 h2;refine rl.call rfl rfl rfl (A6.eN (r0:=.agg [.j v4.1.Stamp,.j v4.1.NextGen,.j v4.1.NextSeq,.j v4.1.NextValid,.sl 3 ((v4.2.2.2.1:Int).toNat*2) v4.1.Refs.length]) (H':=[some ⟨[.nils,.nils],0⟩,some ⟨[.j 0,.j 0,.j 0,.j 0,.nils],0⟩,some ⟨[pvB B1 o1 x0,.j v4.2.1.mI,.j v4.2.1.mH],0⟩,some ⟨fl (B8 true) v4.2.2.1,2⟩]) [⟨[pvB B1 o1 x0,.j v3.2.mI,.j v3.2.mH],0⟩] [⟨[pvB B1 o1 x0,.j v4.2.1.mI,.j v4.2.1.mH],0⟩] [⟨fl (B8 true) v4.2.2.1,2⟩] [2] [pvB B1 o1 x0] (Ea (Kk e4)) ?_);refine rl.f 2 rfl (RW.seq (RW.sr 1 rfl ?_))
 refine rl.gen rfl rfl fun b hb=>?_
 cases b
 ·have h4:=A4 h3 hb;refine rl.done (RW.cond_f rfl (RW.skip (RW.sdrw (A0.op rfl rfl ?_))));obtain ⟨v5,e5,h5⟩:=A2 h4;refine A0.ccall rfl rfl rfl (A6.eN (r0:=.agg [.sl 5 ((v5.2.2.2.1:Int).toNat*1) v5.1.Sectors.length,.sl 6 0 v5.1.Cache.length]) (H':=[some ⟨[.nils,.nils],0⟩,some ⟨[.j 0,.j 0,.j 0,.j 0,.nils],0⟩,some ⟨[pvB B1 o1 x0,.j v5.2.1.mI,.j v5.2.1.mH],0⟩,some ⟨fl (B8 true) v4.2.2.1,2⟩,some ⟨[.j v4.1.Stamp,.j v4.1.NextGen,.j v4.1.NextSeq,.j v4.1.NextValid,.sl 3 ((v4.2.2.2.1:Int).toNat*2) v4.1.Refs.length],0⟩,some ⟨fl (encS true) v5.2.2.1,1⟩,some ⟨fl (A1 true) v5.1.Cache,2⟩]) [⟨[pvB B1 o1 x0,.j v4.2.1.mI,.j v4.2.1.mH],0⟩] [⟨[pvB B1 o1 x0,.j v5.2.1.mI,.j v5.2.1.mH],0⟩] [⟨fl (encS true) v5.2.2.1,1⟩,⟨fl (A1 true) v5.1.Cache,2⟩] [2] [pvB B1 o1 x0] (Tb (Kk e5)) ?_);refine A0.opA rfl rfl (.here (.rx rfl) .nil) ?_;refine A0.chnB rfl rfl (.here (.rx rfl) (.skip rfl .nil)) ?_;refine A0.chn rfl rfl ?_;refine A0.done ?_;refine RW.kp [2,3] [(2,.ptr 0 0),(3,.ptr 1 0)] [some ⟨[.sl 5 ((v5.2.2.2.1:Int).toNat*1) v5.1.Sectors.length,.sl 6 0 v5.1.Cache.length],0⟩,some ⟨[.j v4.1.Stamp,.j v4.1.NextGen,.j v4.1.NextSeq,.j v4.1.NextValid,.sl 3 ((v4.2.2.2.1:Int).toNat*2) v4.1.Refs.length],0⟩,some ⟨[pvB B1 o1 x0,.j v5.2.1.mI,.j v5.2.1.mH],0⟩,some ⟨fl (B8 true) v4.2.2.1,2⟩,some ⟨[.j v4.1.Stamp,.j v4.1.NextGen,.j v4.1.NextSeq,.j v4.1.NextValid,.sl 3 ((v4.2.2.2.1:Int).toNat*2) v4.1.Refs.length],0⟩,some ⟨fl (encS true) v5.2.2.1,1⟩,some ⟨fl (A1 true) v5.1.Cache,2⟩] rfl rfl ?_;refine RW.ret ?_;cases h5
  exact RRet.m rfl (OutT.tup (.cons (OutL.agg (.cons (OutR.viewq fkS rfl (Ki (p:=fun r:TDisk×TL01Cur×List (List UInt8)×Int×Int=>sub? r.2.2.1 r.2.2.2.1 r.2.2.2.2=some r.1.Sectors) e5)) rfl (.cons (OutR.ownq B4 rfl rfl) rfl .nil))) (.cons (OutL.agg (.i (.i (.i (.i (.cons (OutR.viewq Ch rfl (Ki (p:=fun r:TCheck×TL01Cur×List TRef×Int×Int=>sub? r.2.2.1 r.2.2.2.1 r.2.2.2.2=some r.1.Refs) e4)) rfl .nil)))))) .nil)))
 ·have h6:=A5 h3 hb;refine rl.done (RW.cond_t rfl (RW.sdrw (A0.op rfl rfl ?_)));obtain ⟨v6,e6,h7⟩:=A2 h6;refine A0.ccall rfl rfl rfl (A6.eN (r0:=.agg [.sl 5 ((v6.2.2.2.1:Int).toNat*1) v6.1.Sectors.length,.sl 6 0 v6.1.Cache.length]) (H':=[some ⟨[.nils,.nils],0⟩,some ⟨[.j 0,.j 0,.j 0,.j 0,.nils],0⟩,some ⟨[pvB B1 o1 x0,.j v6.2.1.mI,.j v6.2.1.mH],0⟩,some ⟨fl (B8 true) v4.2.2.1,2⟩,some ⟨[.j v4.1.Stamp,.j v4.1.NextGen,.j v4.1.NextSeq,.j v4.1.NextValid,.sl 3 ((v4.2.2.2.1:Int).toNat*2) v4.1.Refs.length],0⟩,some ⟨fl (encS true) v6.2.2.1,1⟩,some ⟨fl (A1 true) v6.1.Cache,2⟩]) [⟨[pvB B1 o1 x0,.j v4.2.1.mI,.j v4.2.1.mH],0⟩] [⟨[pvB B1 o1 x0,.j v6.2.1.mI,.j v6.2.1.mH],0⟩] [⟨fl (encS true) v6.2.2.1,1⟩,⟨fl (A1 true) v6.1.Cache,2⟩] [2] [pvB B1 o1 x0] (Jg (Kk e6)) ?_);refine A0.opA rfl rfl (.here (.rx rfl) .nil) ?_;refine A0.chnB rfl rfl (.here (.rx rfl) (.skip rfl .nil)) ?_;refine A0.chn rfl rfl ?_;refine A0.done ?_;refine RW.kp [2,3] [(2,.ptr 0 0),(3,.ptr 1 0)] [some ⟨[.sl 5 ((v6.2.2.2.1:Int).toNat*1) v6.1.Sectors.length,.sl 6 0 v6.1.Cache.length],0⟩,some ⟨[.j v4.1.Stamp,.j v4.1.NextGen,.j v4.1.NextSeq,.j v4.1.NextValid,.sl 3 ((v4.2.2.2.1:Int).toNat*2) v4.1.Refs.length],0⟩,some ⟨[pvB B1 o1 x0,.j v6.2.1.mI,.j v6.2.1.mH],0⟩,some ⟨fl (B8 true) v4.2.2.1,2⟩,some ⟨[.j v4.1.Stamp,.j v4.1.NextGen,.j v4.1.NextSeq,.j v4.1.NextValid,.sl 3 ((v4.2.2.2.1:Int).toNat*2) v4.1.Refs.length],0⟩,some ⟨fl (encS true) v6.2.2.1,1⟩,some ⟨fl (A1 true) v6.1.Cache,2⟩] rfl rfl ?_;refine RW.ret ?_;cases h7
  exact RRet.m rfl (OutT.tup (.cons (OutL.agg (.cons (OutR.viewq fkS rfl (Ki (p:=fun r:TDisk×TL01Cur×List (List UInt8)×Int×Int=>sub? r.2.2.1 r.2.2.2.1 r.2.2.2.2=some r.1.Sectors) e6)) rfl (.cons (OutR.ownq B4 rfl rfl) rfl .nil))) (.cons (OutL.agg (.i (.i (.i (.i (.cons (OutR.viewq Ch rfl (Ki (p:=fun r:TCheck×TL01Cur×List TRef×Int×Int=>sub? r.2.2.1 r.2.2.2.1 r.2.2.2.2=some r.1.Refs) e4)) rfl .nil)))))) .nil)))
theorem Rb {x0:List UInt8} {x1:Int} {r:List UInt8} (hF:Da x0 x1=some r):A7 Tryz.prog 161 [.str x0,.j x1] (.str r):=A7.rep Py hF
theorem Vu {x0:Int} {r:TDisk×Bool} (hF:Ck x0=some r):A7 Tryz.prog 112 [.j x0] (.tup [.agg (A3 true r.1),.bool r.2]):=by
 refine A7.q Zc ?_;unfold Ck at hF;refine RW.sf 2 rfl (RW.seq (RW.sr 1 rfl ?_));obtain ⟨v1,e1,h1⟩:=A2 hF;refine rl.call rfl rfl rfl (A6.y (r':=.bool v1) (C8 e1) ?_)
 cases hb:v1
 ·have h2:=A4 h1 hb;refine rl.f 1 rfl (RW.cond_t rfl (RW.sf 3 rfl (RW.ret ?_)));cases h2
  exact RRet.y
 ·have h3:=A5 h1 hb;refine rl.f 1 rfl (RW.cond_f rfl (RW.skip (RW.sf 3 rfl (RW.seq (RW.sf 2 rfl ?_)))));refine RW.gh (Gh.nil_c 1 0 1 rfl rfl) ?_;obtain ⟨y6,ey6,h5⟩:=A2 h3
  refine RW.cutq (σ:=(List (List UInt8))) (fun y3=>[(2,.ptr 0 0),(4,.ptr 1 0)]) (fun y3=>[some ⟨[.nils,.nils],0⟩,some ⟨[.sl 2 0 y3.length,.nils],0⟩,some ⟨fl (encS true) y3,1⟩]) (fun y=>y6=y) gg ?_ ?_
  ·refine RW.blk ?_
   refine RW.iter (σ:=Int×(List (List UInt8))) ey6 (fun s2=>[(2,.ptr 0 0),(4,.ptr 1 0),(10,.j x0),(11,.j s2.1)]) (fun s2=>[some ⟨[.nils,.nils],0⟩,some ⟨[.sl 2 0 s2.2.length,.nils],0⟩,some ⟨fl (encS true) s2.2,1⟩]) (Gh.y0 [0,1,2]) (fun s2 B o hS4 hB4 hE4=>?_)
   unfold Dj at hS4;refine RW.sreg ?_
   refine rl.gen rfl rfl fun b hb=>?_
   cases b
   ·have h6:=A4 hS4 hb;refine rl.done (RW.seq (RW.cond_f rfl (RW.exit (C7 ?_))));cases h6
    exact ⟨_,(hE4 _ rfl).symm,(Gh.y0 [0,1,2])⟩
   ·have h7:=A5 hS4 hb;refine rl.done (RW.seq (RW.cond_t rfl (RW.skip (RW.seq (RW.blk (RW.drw (A0.op rfl rfl (A0.op rfl rfl ?_))))))));obtain ⟨v4,e4,h8⟩:=A2 h7;refine A0.call rfl rfl rfl (A6.y (r':=.str v4) (Rb e4) ⟨rfl,?_⟩);refine A0.chnB rfl rfl (.skip rfl (.here (.rx rfl) (.here (.rx rfl) .nil))) ?_;obtain ⟨v5,e5,h9⟩:=A2 h8;refine A0.chn rfl (T9 rfl rfl (M6 (l:=s2.2) (m:=[v4]) (o:=true) ekS rfl rfl (J3 (m:=[v4]) (o:=true) fkS rfl rfl) rfl (fkS.fst _ _) e5)) ?_;refine A0.op rfl rfl ?_;refine A0.chn rfl rfl ?_;refine A0.done (RW.reg (rl.f 2 rfl ?_));cases h9
    exact hB4 _ rfl _ _ (Gh.y0 [0,1,4])
  ·intro y3 hC
   subst hC;refine RW.sf 3 rfl (RW.ret ?_);cases h5
   exact RRet.y
theorem Um {x0:TLog} {r:TCheck} (hF:W5 x0=some r):A7 Tryz.prog 113 [.agg (C2 false x0)] (.agg (B6 true r)):=by
 refine A7.q Yt ?_;unfold W5 at hF;refine RW.sf 2 rfl (RW.sf 12 rfl ?_);refine RW.kp [1,2,3] [(1,.ptr 0 0),(2,.ptr 1 0),(3,.ptr 2 0)] [some ⟨C2 false x0,0⟩,some ⟨[.j 0,.j 0,.j 0,.j 0,.nils],0⟩,some ⟨[.j (w64 (x0.Stamp+1)),.j x0.NextGen,.j x0.NextSeq,.j x0.NextValid,.nils],0⟩] rfl rfl ?_;refine RW.seq (RW.sf 4 rfl ?_);refine RW.gh (Gh.nil_c 2 4 2 rfl rfl) ?_;obtain ⟨y5,ey5,h2⟩:=A2 hF
 refine RW.cutq (σ:=(List TRef)) (fun y2=>[(2,.ptr 0 0),(3,.ptr 1 0)]) (fun y2=>[some ⟨[.j 0,.j 0,.j 0,.j 0,.nils],0⟩,some ⟨[.j (w64 (x0.Stamp+1)),.j x0.NextGen,.j x0.NextSeq,.j x0.NextValid,.sl 2 0 y2.length],0⟩,some ⟨fl (B8 true) y2,2⟩]) (fun y=>y5=y) gg ?_ ?_
 ·refine RW.blk ?_
  refine RW.iter (σ:=Int×(List TRef)) ey5 (fun s1=>[(2,.ptr 0 0),(3,.ptr 1 0),(17,Fw x0.Used),(18,.j (x0.Used.length:Int)),(19,.j s1.1)]) (fun s1=>[some ⟨[.j 0,.j 0,.j 0,.j 0,.nils],0⟩,some ⟨[.j (w64 (x0.Stamp+1)),.j x0.NextGen,.j x0.NextSeq,.j x0.NextValid,.sl 2 0 s1.2.length],0⟩,some ⟨fl (B8 true) s1.2,2⟩]) (Gh.y0 [1,2,3]) (fun s1 B o hS1 hB1 hE1=>?_)
  unfold Dp at hS1;refine RW.sreg ?_
  refine rl.gen rfl rfl fun b hb=>?_
  cases b
  ·have h3:=A4 hS1 hb;refine rl.done (RW.seq (RW.cond_f rfl (RW.exit (C7 ?_))));cases h3
   exact ⟨_,(hE1 _ rfl).symm,(Gh.y0 [0,1,2])⟩
  ·have h4:=A5 hS1 hb;refine rl.done (RW.seq (RW.cond_t rfl (RW.skip (RW.seq (RW.blk (RW.sreg ?_))))));obtain ⟨v3,e3,h5⟩:=A2 h4;refine rl.op (C6 (enc:=A8) (o:=false) rfl rfl rfl e3) ?_;refine rl.op (M5 (off':=0) (vs:=(A8 false v3)) C1 rfl e3 rfl rfl rfl) ?_;refine rl.f 2 rfl (RW.reg (rl.run 8 rfl ?_));obtain ⟨v4,e4,h6⟩:=A2 h5;refine rl.op (T9 rfl rfl (M6 (l:=s1.2) (m:=[({ No:=v3.No,Gen:=v3.Gen }:TRef)]) (o:=true) U6 rfl rfl (J3 (m:=[({ No:=v3.No,Gen:=v3.Gen }:TRef)]) (o:=true) Ch rfl rfl) rfl (Ch.fst _ _) e4)) ?_;refine rl.f 2 rfl (RW.reg (rl.f 2 rfl ?_));cases h6
   exact hB1 _ rfl _ _ (Gh.y0 [0,1,5])
 ·intro y2 hC
  subst hC;refine RW.sf 2 rfl (RW.ret ?_);cases h2
  exact RRet.y
theorem Ln {x0:TSeg} {x1:Int} {r:Bool} (hF:U5 x0 x1=some r):C0 Tryz.prog 1 51 [.agg (A8 false x0),.ptr 0 0] [some ⟨[.j x1],0⟩] (.bool r) [some ⟨[.j x1],0⟩]:=by
 refine C0.q Rg ?_;unfold U5 at hF;refine RW.sf 2 rfl (RW.sf 5 rfl (RW.ret ?_));cases hF
 exact RRetS.m (Gh.rN [0])
theorem Ef {x0:List TSeg} {x1:Int} {r:Int} (hF:G3 x0 x1=some r):C0 Tryz.prog 1 117 [Fw x0,.fn 51 [.ptr 0 0]] [some ⟨[.j x1],0⟩] (.j r) [some ⟨[.j x1],0⟩]:=by
 refine C0.q Fk ?_;unfold G3 at hF;refine RW.sf 1 rfl (RW.seq (RW.sf 3 rfl ?_));obtain ⟨y5,ey5,h2⟩:=A2 hF
 refine RW.cutq (σ:=Unit) (fun y2=>[]) (fun y2=>[some ⟨[.j x1],0⟩]) (fun y=>y5=.inr y) gg ?_ ?_
 ·refine RW.blk ?_
  refine RW.iter (σ:=Int) ey5 (fun s1=>[(0,Fw x0),(1,.fn 51 [.ptr 0 0]),(7,.j (x0.length:Int)),(8,.j s1)]) (fun s1=>[some ⟨[.j x1],0⟩]) (Gh.rN [0]) (fun s1 B o hS1 hB1 hE1=>?_)
  unfold J8 at hS1;refine RW.sreg ?_
  refine rl.gen rfl rfl fun b hb=>?_
  cases b
  ·have h3:=A4 hS1 hb;refine rl.done (RW.seq (RW.cond_f rfl (RW.exit (C7 ?_))));cases h3
   exact ⟨_,(hE1 _ rfl).symm,(Gh.rN [0])⟩
  ·have h4:=A5 hS1 hb;refine rl.done (RW.seq (RW.cond_t rfl (RW.skip (RW.seq (RW.blk (RW.sf 2 rfl (RW.sr 3 rfl ?_)))))));obtain ⟨v3,e3,h5⟩:=A2 h4;refine rl.op (C6 (enc:=A8) (o:=false) rfl rfl rfl e3) ?_;refine rl.op (M5 (off':=0) (vs:=(A8 false v3)) C1 rfl e3 rfl rfl rfl) ?_;obtain ⟨v4,e4,h6⟩:=A2 h5;refine rl.call rfl rfl rfl (A6.eR [0] (Ln e4) ?_)
   cases hb:v4
   ·have h7:=A4 h6 hb;refine rl.done (RW.cond_f rfl (RW.skip (RW.reg (rl.f 2 rfl ?_))));cases h7
    exact hB1 _ rfl _ _ (Gh.rN [0])
   ·have h8:=A5 h6 hb;refine rl.done (RW.cond_t rfl (RW.sf 2 rfl ?_));refine RW.kp [4] [(4,.j s1)] [some ⟨[.j x1],0⟩] rfl rfl ?_;refine RW.ret ?_;cases h8;have h9:=elimL h2 (hE1 _ rfl);cases h9
    exact RRetS.m (Gh.rN [0])
 ·intro y2 hC
  have h2:=elimR h2 hC;refine RW.sf 1 rfl (RW.ret ?_);cases h2
  exact RRetS.m (Gh.rN [0])
theorem Cp {x0:List TSeg} {x1:Int} {r:Bool} (hF:F1 x0 x1=some r):C0 Tryz.prog 1 50 [Fw x0,.fn 51 [.ptr 0 0]] [some ⟨[.j x1],0⟩] (.bool r) [some ⟨[.j x1],0⟩]:=by
 refine C0.q Du ?_;unfold F1 at hF;refine RW.sf 1 rfl (RW.sr 2 rfl ?_);obtain ⟨v1,e1,h1⟩:=A2 hF;refine rl.call rfl rfl rfl (A6.eR [0] (Ef e1) ?_);refine rl.f 2 rfl (RW.ret ?_);cases h1
 exact RRetS.m (Gh.rN [0])
theorem Tq {x0:TLog} {r:List Int} (hF:Bk x0=some r):A7 Tryz.prog 11 [.agg (C2 false x0)] (.lst true 1 (fl (encI true) r) r.length):=by
 refine A7.q Xf ?_;unfold Bk at hF;refine RW.sf 2 rfl (RW.sf 2 rfl (RW.seq (RW.sf 4 rfl ?_)));refine RW.gh (Gh.nil_t 3 1 rfl) ?_;obtain ⟨y5,ey5,h2⟩:=A2 hF
 refine RW.cutq (σ:=(List Int)) (fun y2=>[(3,.sl 0 0 y2.length)]) (fun y2=>[some ⟨fl (encI true) y2,1⟩]) (fun y=>y5=y) gg ?_ ?_
 ·refine RW.blk ?_
  refine RW.iter (σ:=Int×(List Int)) ey5 (fun s1=>[(1,.ptr 0 0),(3,.sl 1 0 s1.2.length),(8,.j (if 11<x0.Segs then 11 else x0.Segs)),(9,.j s1.1)]) (fun s1=>[some ⟨C2 false x0,0⟩,some ⟨fl (encI true) s1.2,1⟩]) (Gh.y0 [0,1]) (fun s1 B o hS1 hB1 hE1=>?_)
  unfold Ce at hS1;refine RW.sreg ?_
  refine rl.gen rfl rfl fun b hb=>?_
  cases b
  ·have h3:=A4 hS1 hb;refine rl.done (RW.seq (RW.cond_f rfl (RW.exit (C7 ?_))));cases h3
   exact ⟨_,(hE1 _ rfl).symm,(Gh.y0 [1])⟩
  ·have h4:=A5 hS1 hb;refine rl.done (RW.seq (RW.cond_t rfl (RW.skip (RW.seq (RW.blk (RW.sf 3 rfl (RW.sr 3 rfl ?_)))))));obtain ⟨v3,e3,h5⟩:=A2 h4;refine rl.call rfl rfl rfl (A6.eR [2] (Cp e3) ?_)
   cases hb:v3
   ·have h6:=A4 h5 hb;refine rl.f 1 rfl (RW.cond_t rfl (RW.reg (rl.run 3 rfl ?_)));obtain ⟨v4,e4,h7⟩:=A2 h6;refine rl.op (T9 rfl rfl (M6 (l:=s1.2) (m:=[s1.1]) (o:=true) ekI rfl rfl (J3 (m:=[s1.1]) (o:=true) fkI rfl rfl) rfl (fkI.fst _ _) e4)) ?_;refine rl.f 1 rfl (RW.reg (rl.f 2 rfl ?_));cases h7
    exact hB1 _ rfl _ _ (Gh.y0 [0,4])
   ·have h8:=A5 h5 hb;refine rl.f 1 rfl (RW.cond_f rfl (RW.skip (RW.reg (rl.f 2 rfl ?_))));cases h8
    exact hB1 _ rfl _ _ (Gh.y0 [0,1])
 ·intro y2 hC
  subst hC;refine RW.sf 2 rfl (RW.ret ?_);cases h2
  exact RRet.y
theorem Lp {x0:List TItem} {r:List TItem} (hF:Gy x0=some r):A7 Tryz.prog 118 [U7 x0] (.lst true 9 (fl (B3 true) r) r.length):=Wl Eh (FnOk.w Pj) rfl hF
theorem Ri {x0:TLog} {r:TLog} (hF:Bo x0=some r):A7 Tryz.prog 53 [.agg (C2 false x0)] (.agg (C2 true r)):=by
 refine A7.q Xs ?_;unfold Bo at hF;refine RW.sf 2 rfl (RW.sf 3 rfl (RW.sr 2 rfl ?_));obtain ⟨v1,e1,h1⟩:=A2 hF;refine rl.call rfl rfl rfl (A6.z (r':=.agg (B5 3 4 v1)) (H':=[some ⟨C2 false x0,0⟩,some ⟨[.nils,.nils,.j 0,.nils,.j 0,.j 0,.j 0,.j 0],0⟩,some ⟨C2 false x0,0⟩,some ⟨fl (encS true) v1.Sectors,1⟩,some ⟨fl (A1 true) v1.Cache,2⟩]) (H6 e1) ?_);refine rl.f 2 rfl (RW.sf 2 rfl (RW.seq (RW.sf 4 rfl ?_)));refine RW.gh (Gh.nil_c 2 3 4 rfl rfl) ?_;obtain ⟨y7,ey7,h3⟩:=A2 h1
 refine RW.cutq (σ:=(List TSeg)) (fun y3=>[(2,.ptr 0 0),(3,.ptr 1 0)]) (fun y3=>[some ⟨[.nils,.nils,.j 0,.nils,.j 0,.j 0,.j 0,.j 0],0⟩,some ⟨[.sl 2 0 v1.Sectors.length,.sl 3 0 v1.Cache.length,.j x0.Segs,.sl 4 0 y3.length,.j x0.NextGen,.j x0.NextSeq,.j x0.Stamp,.j x0.NextValid],0⟩,some ⟨fl (encS true) v1.Sectors,1⟩,some ⟨fl (A1 true) v1.Cache,2⟩,some ⟨fl (A8 true) y3,4⟩]) (fun y=>y7=y) gg ?_ ?_
 ·refine RW.blk ?_
  refine RW.iter (σ:=Int×(List TSeg)) ey7 (fun s2=>[(2,.ptr 0 0),(3,.ptr 1 0),(13,Fw x0.Used),(14,.j (x0.Used.length:Int)),(15,.j s2.1)]) (fun s2=>[some ⟨[.nils,.nils,.j 0,.nils,.j 0,.j 0,.j 0,.j 0],0⟩,some ⟨[.sl 2 0 v1.Sectors.length,.sl 3 0 v1.Cache.length,.j x0.Segs,.sl 4 0 s2.2.length,.j x0.NextGen,.j x0.NextSeq,.j x0.Stamp,.j x0.NextValid],0⟩,some ⟨fl (encS true) v1.Sectors,1⟩,some ⟨fl (A1 true) v1.Cache,2⟩,some ⟨fl (A8 true) s2.2,4⟩]) (Gh.y0 [1,2,3,4,5]) (fun s2 B o hS2 hB2 hE2=>?_)
  unfold Fs at hS2;refine RW.sreg ?_
  refine rl.gen rfl rfl fun b hb=>?_
  cases b
  ·have h4:=A4 hS2 hb;refine rl.done (RW.seq (RW.cond_f rfl (RW.exit (C7 ?_))));cases h4
   exact ⟨_,(hE2 _ rfl).symm,(Gh.y0 [0,1,2,3,4])⟩
  ·have h5:=A5 hS2 hb;refine rl.done (RW.seq (RW.cond_t rfl (RW.skip (RW.seq (RW.blk (RW.sreg ?_))))));obtain ⟨v4,e4,h6⟩:=A2 h5;refine rl.op (C6 (enc:=A8) (o:=false) rfl rfl rfl e4) ?_;refine rl.op (M5 (off':=0) (vs:=(A8 false v4)) C1 rfl e4 rfl rfl rfl) ?_;refine rl.f 2 rfl (RW.sr 2 rfl ?_);obtain ⟨v5,e5,h7⟩:=A2 h6;refine rl.call rfl rfl rfl (A6.z (r':=.sl 6 0 v5.length) (H':=[some ⟨[.nils,.nils,.j 0,.nils,.j 0,.j 0,.j 0,.j 0],0⟩,some ⟨[.sl 2 0 v1.Sectors.length,.sl 3 0 v1.Cache.length,.j x0.Segs,.sl 4 0 s2.2.length,.j x0.NextGen,.j x0.NextSeq,.j x0.Stamp,.j x0.NextValid],0⟩,some ⟨fl (encS true) v1.Sectors,1⟩,some ⟨fl (A1 true) v1.Cache,2⟩,some ⟨fl (A8 true) s2.2,4⟩,some ⟨A8 false v4,0⟩,some ⟨fl (B3 true) v5,9⟩]) (Lp e5) ?_);refine rl.f 2 rfl (RW.reg (rl.run 4 rfl ?_));obtain ⟨v6,e6,h8⟩:=A2 h7;refine rl.op (T9 rfl rfl (Tg C1 rfl rfl (A2k rfl rfl rfl) e6)) ?_;refine rl.f 2 rfl ?_
   refine RW.gh (Gh.absorb_rawq (b:=8) (j:=3) (m:=6) rfl rfl rfl (by decide) (by decide) rfl (D7.flen true _) (D7.fown _)) ?_
   refine RW.gh (Gh.blk (b:=8) rfl (Yd (enc:=A8) e6 rfl)) ?_;refine RW.reg (rl.f 2 rfl ?_);cases h8
   exact hB2 _ rfl _ _ (Gh.y0 [0,1,2,3,8])
 ·intro y3 hC
  subst hC;refine RW.sf 2 rfl (RW.ret ?_);cases h3
  exact RRet.y
theorem Jk {x0:TDisk} {x1:Int} {x2:Int} {x3:List UInt8} {r:TDisk×Bool} (hF:X2 x0 x1 x2 x3=some r):A7 Tryz.prog 84 [.agg (A3 false x0),.j x1,.j x2,.str x3] (.tup [.agg (A3 true r.1),.bool r.2]):=by
 refine A7.q Xq ?_;unfold X2 at hF;refine RW.sf 3 rfl (RW.seq (RW.seq ?_));obtain ⟨y1,ey1,h1⟩:=A2 hF
 refine RW.cutq (σ:=Bool) (fun y1=>[(1,.j x1),(2,.j x2),(3,.str x3),(4,.ptr 0 0),(8,.ptr 1 0),(24,.bool y1)]) (fun y1=>[some ⟨A3 false x0,0⟩,some ⟨[.nils,.nils],0⟩]) (fun y=>y1=y) gg ?_ ?_
 ·refine RW.reg ?_;refine rl.run 1 rfl ?_;obtain ⟨v2,e2,h2⟩:=A2 ey1;refine rl.call rfl rfl rfl (A6.y (r':=.bool v2) (C8 e2) ?_)
  cases hb:v2
  ·have h3:=A4 h2 hb;refine rl.f 13 rfl ?_;cases h3
   exact ⟨_,rfl,(Gh.y0 [0,1])⟩
  ·have h4:=A5 h2 hb;refine rl.run 3 rfl ?_;obtain ⟨v3,e3,h5⟩:=A2 h4;refine rl.call rfl rfl rfl (A6.y (r':=.bool v3) (C8 e3) ?_)
   cases hb:v3
   ·have h6:=A4 h5 hb;refine rl.f 9 rfl ?_;cases h6
    exact ⟨_,rfl,(Gh.y0 [0,1])⟩
   ·have h7:=A5 h5 hb;refine rl.run 7 rfl ?_
    refine rl.gen rfl rfl fun b hb=>?_
    cases b
    ·have h8:=A4 h7 hb;refine rl.f 1 rfl ?_;cases h8
     exact ⟨_,rfl,(Gh.y0 [0,1])⟩
    ·have h9:=A5 h7 hb;refine rl.f 1 rfl ?_;cases h9
     exact ⟨_,rfl,(Gh.y0 [0,1])⟩
 ·intro y hC
  subst hC
  cases hb:y1
  ·have h10:=A4 h1 hb;refine RW.cond_f rfl (RW.skip (RW.sdrw (A0.op rfl rfl (A0.op rfl rfl ?_))));obtain ⟨v4,e4,h11⟩:=A2 h10;refine A0.call rfl rfl rfl (A6.y (r':=.j v4) (Jf e4) ⟨rfl,?_⟩);refine A0.op rfl rfl (A0.op rfl rfl ?_);obtain ⟨v5,e5,h12⟩:=A2 h11;refine A0.ccall rfl rfl rfl (A6.z (r':=.tup [.agg (B5 2 3 v5.1),.bool v5.2]) (H':=[some ⟨A3 false x0,0⟩,some ⟨[.nils,.nils],0⟩,some ⟨fl (encS true) v5.1.Sectors,1⟩,some ⟨fl (A1 true) v5.1.Cache,2⟩]) (Ec e5) ?_);refine A0.op rfl rfl (A0.op rfl rfl ?_);refine A0.chn rfl rfl ?_;refine A0.op rfl rfl (A0.done ?_);refine RW.kp [8,9] [(8,.ptr 1 0),(9,.bool v5.2)] [some ⟨A3 false x0,0⟩,some ⟨B5 2 3 v5.1,0⟩,some ⟨fl (encS true) v5.1.Sectors,1⟩,some ⟨fl (A1 true) v5.1.Cache,2⟩] rfl rfl ?_;refine RW.ret ?_;cases h12
   exact RRet.y
  ·have h13:=A5 h1 hb;refine RW.cond_t rfl (RW.sr 1 rfl ?_);obtain ⟨v6,e6,h14⟩:=A2 h13;refine rl.call rfl rfl rfl (A6.z (r':=.agg (B5 2 3 v6)) (H':=[some ⟨A3 false x0,0⟩,some ⟨[.nils,.nils],0⟩,some ⟨fl (encS true) v6.Sectors,1⟩,some ⟨fl (A1 true) v6.Cache,2⟩]) (H6 e6) ?_);refine rl.f 2 rfl (RW.ret ?_);cases h14
   exact RRet.y
theorem Wk {x0:TLog} {x1:Int} {r:TLog×Bool} (hF:Ad x0 x1=some r):A7 Tryz.prog 52 [.agg (C2 false x0),.j x1] (.tup [.agg (C2 true r.1),.bool r.2]):=by
 refine A7.q Yj ?_;unfold Ad at hF;refine RW.sf 3 rfl (RW.sr 1 rfl ?_);obtain ⟨v1,e1,h1⟩:=A2 hF;refine rl.call rfl rfl rfl (A6.y (r':=L_I v1) (Tq e1) ?_);refine rl.f 1 rfl (RW.seq (RW.seq ?_));obtain ⟨y2,ey2,h2⟩:=A2 h1
 refine RW.cutq (σ:=Bool) (fun y2=>[(2,.ptr 0 0),(4,.ptr 1 0),(6,L_I v1),(26,.bool y2)]) (fun y2=>[some ⟨C2 false x0,0⟩,some ⟨[.nils,.nils,.j 0,.nils,.j 0,.j 0,.j 0,.j 0],0⟩]) (fun y=>y2=y) gg ?_ ?_
 ·refine RW.reg ?_;refine rl.run 1 rfl ?_
  refine rl.gen rfl rfl fun b hb=>?_
  cases b
  ·have h3:=A4 ey2 hb;refine rl.run 4 rfl ?_
   refine rl.gen rfl rfl fun b hb=>?_
   cases b
   ·have h4:=A4 h3 hb;refine rl.run 4 rfl ?_
    refine rl.gen rfl rfl fun b hb=>?_
    cases b
    ·have h5:=A4 h4 hb;refine rl.f 1 rfl ?_;cases h5
     exact ⟨_,rfl,(Gh.y0 [0,1])⟩
    ·have h6:=A5 h4 hb;refine rl.f 1 rfl ?_;cases h6
     exact ⟨_,rfl,(Gh.y0 [0,1])⟩
   ·have h7:=A5 h3 hb;refine rl.f 6 rfl ?_;cases h7
    exact ⟨_,rfl,(Gh.y0 [0,1])⟩
  ·have h8:=A5 ey2 hb;refine rl.f 11 rfl ?_;cases h8
   exact ⟨_,rfl,(Gh.y0 [0,1])⟩
 ·intro y hC
  subst hC
  cases hb:y2
  ·have h9:=A4 h2 hb;refine RW.cond_f rfl (RW.skip (RW.sr 3 rfl ?_));obtain ⟨v3,e3,h10⟩:=A2 h9;refine rl.call rfl rfl rfl (A6.y (r':=.tup [.str v3.1,.bool v3.2]) (Ho e3) ?_);refine rl.f 5 rfl (RW.sdrw (A0.op rfl rfl (A0.op rfl rfl (A0.op rfl rfl ?_))));obtain ⟨v4,e4,h11⟩:=A2 h10;refine A0.op rfl (C6 (enc:=encI) (o:=false) rfl rfl rfl e4) ?_;refine A0.op rfl (H5 (off':=0) ekI rfl e4 rfl rfl rfl) ?_;refine A0.op rfl rfl ?_;obtain ⟨v5,e5,h12⟩:=A2 h11;refine A0.call rfl rfl rfl (A6.y (r':=.tup [.agg (A3 false v5.1),.bool v5.2]) (Jk e5) ⟨rfl,?_⟩);refine A0.op rfl rfl (A0.op rfl rfl (A0.op rfl rfl ?_));refine A0.chnB rfl rfl (.here (.rx rfl) (.here (.rx rfl) (.here (.rx rfl) (.here (.cl rfl rfl (A6.y (r':=.tup [.agg (A3 false v5.1),.bool v5.2]) (Jk e5) ⟨rfl,rfl⟩)) (.here (.rx rfl) (.here (.rx (H5 (off':=0) ekI rfl e4 rfl rfl rfl)) (.here (.rx (C6 (enc:=encI) (o:=false) rfl rfl rfl e4)) (.here (.rx rfl) (.here (.rx rfl) (.here (.rx rfl) .nil)))))))))) ?_;refine A0.chnB rfl rfl (.here (.rx rfl) (.skip rfl (.skip rfl (.skip rfl (.skip rfl (.skip rfl (.skip rfl (.skip rfl (.skip rfl (.skip rfl .nil)))))))))) ?_;refine A0.op rfl rfl (A0.done ?_);refine RW.kp [2,4,6,7,9,10] [(2,.ptr 0 0),(4,.ptr 1 0),(6,L_I v1),(7,.str v3.1),(9,.ptr 2 0),(10,.bool v5.2)] [some ⟨C2 false x0,0⟩,some ⟨[.nils,.nils,.j 0,.nils,.j 0,.j 0,.j 0,.j 0],0⟩,some ⟨A3 false v5.1,0⟩] rfl rfl ?_;refine RW.seq (RW.sf 2 rfl ?_)
   cases hb:(!v5.2)
   ·have h13:=A4 h12 hb;refine RW.cond_f rfl (RW.skip (RW.sr 1 rfl ?_));obtain ⟨v6,e6,h14⟩:=A2 h13;refine rl.call rfl rfl rfl (A6.z (r':=.agg (L1 3 4 5 v6)) (H':=[some ⟨C2 false x0,0⟩,some ⟨[.nils,.nils,.j 0,.nils,.j 0,.j 0,.j 0,.j 0],0⟩,some ⟨A3 false v5.1,0⟩,some ⟨fl (encS true) v6.Disk.Sectors,1⟩,some ⟨fl (A1 true) v6.Disk.Cache,2⟩,some ⟨fl (A8 true) v6.Used,4⟩]) (Ri e6) ?_);refine rl.f 2 rfl (RW.sr 1 rfl ?_);obtain ⟨v7,e7,h15⟩:=A2 h14;refine rl.call rfl rfl rfl (A6.z (r':=.agg (B5 7 8 v7)) (H':=[some ⟨C2 false x0,0⟩,some ⟨[.nils,.nils,.j 0,.nils,.j 0,.j 0,.j 0,.j 0],0⟩,some ⟨A3 false v5.1,0⟩,some ⟨fl (encS true) v6.Disk.Sectors,1⟩,some ⟨fl (A1 true) v6.Disk.Cache,2⟩,some ⟨fl (A8 true) v6.Used,4⟩,some ⟨L1 3 4 5 v6,0⟩,some ⟨fl (encS true) v7.Sectors,1⟩,some ⟨fl (A1 true) v7.Cache,2⟩]) (Hy e7) ?_);refine rl.f 2 rfl (RW.sdrw (A0.op rfl rfl (A0.op rfl rfl (A0.op rfl rfl ?_))));obtain ⟨v8,e8,h16⟩:=A2 h15;refine A0.op rfl (C6 (enc:=encI) (o:=false) rfl rfl rfl e8) ?_;refine A0.op rfl (H5 (off':=0) ekI rfl e8 rfl rfl rfl) ?_;refine A0.op rfl rfl (A0.op rfl rfl (A0.op rfl rfl (A0.op rfl rfl (A0.op rfl rfl ?_))));refine A0.chnB rfl rfl (.skip rfl (.skip rfl (.skip rfl (.skip rfl (.skip rfl (.skip rfl (.skip rfl (.skip rfl (.here (.rx rfl) (.here (.rx rfl) .nil)))))))))) ?_;obtain ⟨v9,e9,h17⟩:=A2 h16;refine A0.chn rfl (T9 rfl rfl (Tg C1 rfl rfl (A2k rfl rfl rfl) e9)) ?_;refine A0.op rfl rfl ?_;refine A0.chn rfl rfl ?_;refine A0.done ?_;refine RW.gh (Gh.own0 (b:=10) rfl (NL.append NL.refl (NL.append (.same (.same (.same (.nils (es:=9) .nil)))) NL.refl))) ?_;refine RW.gh (Gh.blk (b:=10) rfl (Yd (enc:=A8) e9 rfl)) ?_;refine RW.sf 5 rfl (RW.sf 3 rfl (RW.ret ?_));cases h17
    exact RRet.y
   ·have h18:=A5 h12 hb;refine RW.cond_t rfl (RW.sf 3 rfl (RW.ret ?_));cases h18
    exact RRet.y
  ·have h19:=A5 h2 hb;refine RW.cond_t rfl (RW.sf 3 rfl (RW.ret ?_));cases h19
   exact RRet.y
theorem Gx {x0:Int} {r:TLog×Bool} (hF:M2 x0=some r):A7 Tryz.prog 43 [.j x0] (.tup [.agg (C2 true r.1),.bool r.2]):=by
 refine A7.q Rs ?_;unfold M2 at hF;refine RW.sf 2 rfl (RW.seq (RW.sr 1 rfl ?_));obtain ⟨v1,e1,h1⟩:=A2 hF;refine rl.call rfl rfl rfl (A6.y (r':=.bool v1) (C8 e1) ?_)
 cases hb:v1
 ·have h2:=A4 h1 hb;refine rl.f 1 rfl (RW.cond_t rfl (RW.sf 3 rfl (RW.ret ?_)));cases h2
  exact RRet.y
 ·have h3:=A5 h1 hb;refine rl.f 1 rfl (RW.cond_f rfl (RW.skip (RW.sr 3 rfl ?_)));obtain ⟨v2,e2,h4⟩:=A2 h3;refine rl.call rfl rfl rfl (A6.y (r':=.tup [.agg (A3 false v2.1),.bool v2.2]) (Vu e2) ?_);refine rl.f 6 rfl ?_;refine RW.kp [0,2,4] [(0,.j x0),(2,.ptr 0 0),(4,.ptr 1 0)] [some ⟨[.nils,.nils,.j 0,.nils,.j 0,.j 0,.j 0,.j 0],0⟩,some ⟨A3 false v2.1,0⟩] rfl rfl ?_;refine RW.sr 3 rfl ?_;obtain ⟨v3,e3,h5⟩:=A2 h4;refine rl.call rfl rfl rfl (A6.z (r':=.tup [.agg (L1 2 3 4 v3.1),.bool v3.2]) (H':=[some ⟨[.nils,.nils,.j 0,.nils,.j 0,.j 0,.j 0,.j 0],0⟩,some ⟨A3 false v2.1,0⟩,some ⟨fl (encS true) v3.1.Disk.Sectors,1⟩,some ⟨fl (A1 true) v3.1.Disk.Cache,2⟩,some ⟨fl (A8 true) v3.1.Used,4⟩]) (Wk e3) ?_);refine rl.f 6 rfl ?_;refine RW.sdrwF [⟨[.nils,.nils],0⟩] ?_;refine A0.op rfl rfl (A0.op rfl rfl (A0.op rfl rfl ?_));obtain ⟨v4,e4,h6⟩:=A2 h5;refine A0.call rfl rfl rfl (A6.y (r':=.agg (B6 false v4)) (Um e4) ⟨rfl,?_⟩);obtain ⟨v5,e5,h7⟩:=A2 h6;refine A0.ccall rfl rfl rfl (A6.z (r':=.tup [.agg (B5 7 8 v5.1),.bool v5.2]) (H':=[some ⟨[.nils,.nils,.j 0,.nils,.j 0,.j 0,.j 0,.j 0],0⟩,some ⟨A3 false v2.1,0⟩,some ⟨fl (encS true) v3.1.Disk.Sectors,1⟩,some ⟨fl (A1 true) v3.1.Disk.Cache,2⟩,some ⟨fl (A8 true) v3.1.Used,4⟩,some ⟨L1 2 3 4 v3.1,0⟩,some ⟨[.nils,.nils],0⟩,some ⟨fl (encS true) v5.1.Sectors,1⟩,some ⟨fl (A1 true) v5.1.Cache,2⟩]) (Hd e5) ?_);refine A0.op rfl rfl (A0.op rfl rfl (A0.op rfl rfl ?_));refine A0.flt rfl (.cons rfl .nil) ?_;refine A0.chnB rfl rfl (.here (.rx rfl) (.skip rfl (.skip rfl (.skip rfl (.skip rfl (.skip rfl (.skip rfl .nil))))))) ?_;refine A0.op rfl rfl (A0.done ?_);refine RW.kp [2,6,7,8,9] [(2,.ptr 0 0),(6,.ptr 5 0),(7,.bool v3.2),(8,.ptr 6 0),(9,.bool v5.2)] [some ⟨[.nils,.nils,.j 0,.nils,.j 0,.j 0,.j 0,.j 0],0⟩,some ⟨A3 false v2.1,0⟩,some ⟨fl (encS true) v3.1.Disk.Sectors,1⟩,some ⟨fl (A1 true) v3.1.Disk.Cache,2⟩,some ⟨fl (A8 true) v3.1.Used,4⟩,some ⟨L1 2 3 4 v3.1,0⟩,some ⟨B5 7 8 v5.1,0⟩,some ⟨fl (encS true) v5.1.Sectors,1⟩,some ⟨fl (A1 true) v5.1.Cache,2⟩] rfl rfl ?_
  refine RW.seq (RW.sr 3 rfl ?_)
  cases hb:(!v3.2)
  ·have h8:=A4 h7 hb;refine rl.f 3 rfl ?_
   cases hb:(!v5.2)
   ·have h9:=A4 h8 hb;refine RW.cond_f rfl (RW.skip (RW.sf 3 rfl ?_));refine RW.kp [2,6] [(2,.ptr 0 0),(6,.ptr 5 0)] [some ⟨[.nils,.nils,.j 0,.nils,.j 0,.j 0,.j 0,.j 0],0⟩,some ⟨A3 false v2.1,0⟩,some ⟨fl (encS true) v3.1.Disk.Sectors,1⟩,some ⟨fl (A1 true) v3.1.Disk.Cache,2⟩,some ⟨fl (A8 true) v3.1.Used,4⟩,some ⟨[.sl 7 0 v5.1.Sectors.length,.sl 8 0 v5.1.Cache.length,.j v3.1.Segs,.sl 4 0 v3.1.Used.length,.j v3.1.NextGen,.j v3.1.NextSeq,.j v3.1.Stamp,.j v3.1.NextValid],0⟩,some ⟨B5 7 8 v5.1,0⟩,some ⟨fl (encS true) v5.1.Sectors,1⟩,some ⟨fl (A1 true) v5.1.Cache,2⟩] rfl rfl ?_;refine RW.sf 2 rfl (RW.sf 3 rfl (RW.ret ?_));cases h9
    exact RRet.y
   ·have h10:=A5 h8 hb;refine RW.cond_t rfl (RW.sf 3 rfl ?_);refine RW.kp [2,3] [(2,.ptr 0 0),(3,.bool false)] [some ⟨[.nils,.nils,.j 0,.nils,.j 0,.j 0,.j 0,.j 0],0⟩,some ⟨A3 false v2.1,0⟩,some ⟨fl (encS true) v3.1.Disk.Sectors,1⟩,some ⟨fl (A1 true) v3.1.Disk.Cache,2⟩,some ⟨fl (A8 true) v3.1.Used,4⟩,some ⟨L1 2 3 4 v3.1,0⟩,some ⟨B5 7 8 v5.1,0⟩,some ⟨fl (encS true) v5.1.Sectors,1⟩,some ⟨fl (A1 true) v5.1.Cache,2⟩] rfl rfl ?_;refine RW.ret ?_;cases h10
    exact RRet.y
  ·have h11:=A5 h7 hb;refine rl.f 3 rfl (RW.cond_t rfl (RW.sf 3 rfl ?_));refine RW.kp [2,3] [(2,.ptr 0 0),(3,.bool false)] [some ⟨[.nils,.nils,.j 0,.nils,.j 0,.j 0,.j 0,.j 0],0⟩,some ⟨A3 false v2.1,0⟩,some ⟨fl (encS true) v3.1.Disk.Sectors,1⟩,some ⟨fl (A1 true) v3.1.Disk.Cache,2⟩,some ⟨fl (A8 true) v3.1.Used,4⟩,some ⟨L1 2 3 4 v3.1,0⟩,some ⟨B5 7 8 v5.1,0⟩,some ⟨fl (encS true) v5.1.Sectors,1⟩,some ⟨fl (A1 true) v5.1.Cache,2⟩] rfl rfl ?_;refine RW.ret ?_;cases h11
   exact RRet.y
theorem A39 {x0:List Int} {r:Bool} (hF:Ev x0=some r):A7 Tryz.prog 8 [L_B x0] (.bool r):=by
 refine A7.q A58 ?_;unfold Ev at hF;refine RW.sf 1 rfl (RW.sf 4 rfl (RW.ret ?_));cases hF
 exact RRet.y
theorem Lq {x0:List Int} {r:Bool} (hF:Y6 x0=some r):A7 Tryz.prog 7 [L_B x0] (.bool r):=by
 refine A7.q Pm ?_;unfold Y6 at hF;refine RW.sf 1 rfl (RW.seq (RW.sr 1 rfl ?_));obtain ⟨v1,e1,h1⟩:=A2 hF;refine rl.call rfl rfl rfl (A6.y (r':=.bool v1) (A39 e1) ?_)
 cases hb:v1
 ·have h2:=A4 h1 hb;refine rl.done (RW.cond_f rfl (RW.skip (RW.sr 1 rfl ?_)));obtain ⟨v2,e2,h3⟩:=A2 h2;refine rl.call rfl rfl rfl (A6.y (r':=.agg (B6 false v2)) (Kv e2) ?_);refine rl.f 2 rfl (RW.sr 1 rfl ?_);obtain ⟨v3,e3,h4⟩:=A2 h3;refine rl.call rfl rfl rfl (A6.y (r':=.tup [.str v3.1,.bool v3.2]) (Eu e3) ?_);refine rl.f 5 rfl (RW.sr 1 rfl ?_);obtain ⟨v4,e4,h5⟩:=A2 h4;refine rl.call rfl rfl rfl (A6.y (r':=.tup [.str v4.1,.bool v4.2]) (Q8 e4) ?_);refine rl.f 5 rfl ?_;refine RW.kp [0,3,4,5,6,7] [(0,L_B x0),(3,.ptr 0 0),(4,.str v3.1),(5,.bool v3.2),(6,.str v4.1),(7,.bool v4.2)] [some ⟨B6 false v2,0⟩] rfl rfl ?_;refine RW.sr 1 rfl ?_;obtain ⟨v5,e5,h6⟩:=A2 h5;refine rl.call rfl rfl rfl (A6.y (r':=.str v5) (La e5) ?_);refine rl.f 1 rfl (RW.sr 1 rfl ?_);obtain ⟨v6,e6,h7⟩:=A2 h6;refine rl.call rfl rfl rfl (A6.y (r':=.tup [.agg (B6 false v6.1),.bool v6.2]) (Qb e6) ?_);refine rl.f 6 rfl (RW.sr 1 rfl ?_);obtain ⟨v7,e7,h8⟩:=A2 h7;refine rl.call rfl rfl rfl (A6.y (r':=.tup [.agg (B6 false v7.1),.bool v7.2]) (Qv e7) ?_);refine rl.f 6 rfl ?_;refine RW.kp [0,3,4,5,6,7,9,10,11,12] [(0,L_B x0),(3,.ptr 0 0),(4,.str v3.1),(5,.bool v3.2),(6,.str v4.1),(7,.bool v4.2),(9,.ptr 1 0),(10,.bool v6.2),(11,.ptr 2 0),(12,.bool v7.2)] [some ⟨B6 false v2,0⟩,some ⟨B6 false v6.1,0⟩,some ⟨B6 false v7.1,0⟩] rfl rfl ?_;refine RW.sr 1 rfl ?_;obtain ⟨v8,e8,h9⟩:=A2 h8;refine rl.call rfl rfl rfl (A6.y (r':=.tup [.str v8.1,.bool v8.2]) (Q8 e8) ?_);refine rl.f 5 rfl (RW.sr 1 rfl ?_);obtain ⟨v9,e9,h10⟩:=A2 h9;refine rl.call rfl rfl rfl (A6.y (r':=.tup [.str v9.1,.bool v9.2]) (Q8 e9) ?_);refine rl.f 5 rfl ?_;refine RW.kp [0,3,4,5,6,7,10,12,13,15] [(0,L_B x0),(3,.ptr 0 0),(4,.str v3.1),(5,.bool v3.2),(6,.str v4.1),(7,.bool v4.2),(10,.bool v6.2),(12,.bool v7.2),(13,.str v8.1),(15,.str v9.1)] [some ⟨B6 false v2,0⟩,some ⟨B6 false v6.1,0⟩,some ⟨B6 false v7.1,0⟩] rfl rfl ?_;refine RW.sr 1 rfl ?_;obtain ⟨v10,e10,h11⟩:=A2 h10;refine rl.call rfl rfl rfl (A6.y (r':=.tup [.agg (A3 false v10.1),.agg (B6 false v10.2)]) (Ke e10) ?_)
  refine rl.f 7 rfl (RW.sr 2 rfl ?_);obtain ⟨v11,e11,h12⟩:=A2 h11;refine rl.call rfl rfl rfl (A6.y (r':=.tup [.agg (A3 false v11.1),.bool v11.2]) (Hd e11) ?_);refine rl.f 6 rfl ?_;refine RW.kp [3,4,5,6,7,10,12,13,15,17,18,19,20] [(3,.ptr 0 0),(4,.str v3.1),(5,.bool v3.2),(6,.str v4.1),(7,.bool v4.2),(10,.bool v6.2),(12,.bool v7.2),(13,.str v8.1),(15,.str v9.1),(17,.ptr 3 0),(18,.ptr 4 0),(19,.ptr 5 0),(20,.bool v11.2)] [some ⟨B6 false v2,0⟩,some ⟨B6 false v6.1,0⟩,some ⟨B6 false v7.1,0⟩,some ⟨A3 false v10.1,0⟩,some ⟨B6 false v10.2,0⟩,some ⟨A3 false v11.1,0⟩] rfl rfl ?_;refine RW.sr 2 rfl ?_;obtain ⟨v12,e12,h13⟩:=A2 h12;refine rl.call rfl rfl rfl (A6.y (r':=.tup [.agg (A3 false v12.1),.bool v12.2]) (Ha e12) ?_);refine rl.f 6 rfl (RW.sreg ?_);obtain ⟨v13,e13,h14⟩:=A2 h13;refine rl.call rfl rfl rfl (A6.y (r':=.tup [.agg (C2 false v13.1),.bool v13.2]) (Gx e13) ?_);refine rl.f 6 rfl ?_;refine RW.kp [3,4,5,6,7,10,12,13,15,19,20,21,22,23,24] [(3,.ptr 0 0),(4,.str v3.1),(5,.bool v3.2),(6,.str v4.1),(7,.bool v4.2),(10,.bool v6.2),(12,.bool v7.2),(13,.str v8.1),(15,.str v9.1),(19,.ptr 5 0),(20,.bool v11.2),(21,.ptr 6 0),(22,.bool v12.2),(23,.ptr 7 0),(24,.bool v13.2)] [some ⟨B6 false v2,0⟩,some ⟨B6 false v6.1,0⟩,some ⟨B6 false v7.1,0⟩,some ⟨A3 false v10.1,0⟩,some ⟨B6 false v10.2,0⟩,some ⟨A3 false v11.1,0⟩,some ⟨A3 false v12.1,0⟩,some ⟨C2 false v13.1,0⟩] rfl rfl ?_;refine RW.sreg ?_;obtain ⟨v14,e14,h15⟩:=A2 h14;refine rl.call rfl rfl rfl (A6.y (r':=.tup [.agg (C2 false v14.1),.bool v14.2]) (Gx e14) ?_);refine rl.f 6 rfl (RW.seq ?_);obtain ⟨y15,ey15,h16⟩:=A2 h15
  refine RW.cutq (σ:=Bool) (fun y15=>[(2,.bool y15)]) (fun y15=>[]) (fun y=>y15=y) gg ?_ ?_
  ·refine RW.drw ?_;refine A0.op rfl rfl (A0.op rfl rfl ?_)
   refine A0.gen rfl rfl fun b hb=>?_
   cases b
   ·have h17:=A4 ey15 hb;refine A0.op rfl rfl (A0.off rfl (A0.off rfl (A0.off rfl (A0.op rfl rfl (A0.op rfl rfl (A0.off rfl (A0.off rfl (A0.off rfl (A0.op rfl rfl (A0.op rfl rfl (A0.off rfl ?_)))))))))));refine A0.off rfl (A0.off rfl (A0.op rfl rfl (A0.op rfl rfl (A0.off rfl (A0.off rfl (A0.off rfl (A0.op rfl rfl (A0.op rfl rfl (A0.off rfl (A0.off rfl (A0.off rfl ?_)))))))))));refine A0.op rfl rfl (A0.op rfl rfl (A0.off rfl (A0.off rfl (A0.off rfl (A0.off rfl (A0.off rfl (A0.op rfl rfl (A0.op rfl rfl (A0.off rfl (A0.op rfl rfl (A0.op rfl rfl ?_)))))))))));refine A0.off rfl (A0.off rfl (A0.op rfl rfl (A0.op rfl rfl (A0.off rfl (A0.off rfl (A0.op rfl rfl (A0.op rfl rfl (A0.off rfl (A0.off rfl (A0.off rfl (A0.op rfl rfl ?_)))))))))));refine A0.op rfl rfl (A0.done ?_);cases h17
    exact ⟨_,rfl,(Gh.y0 [])⟩
   ·have h18:=A5 ey15 hb;refine A0.op rfl rfl (A0.op rfl rfl (A0.op rfl rfl ?_))
    refine A0.gen rfl rfl fun b hb=>?_
    cases b
    ·have h19:=A4 h18 hb;refine A0.op rfl rfl (A0.op rfl rfl (A0.off rfl (A0.off rfl (A0.off rfl (A0.op rfl rfl (A0.op rfl rfl (A0.off rfl (A0.off rfl (A0.off rfl (A0.op rfl rfl (A0.op rfl rfl ?_)))))))))));refine A0.off rfl (A0.off rfl (A0.off rfl (A0.op rfl rfl (A0.op rfl rfl (A0.off rfl (A0.off rfl (A0.off rfl (A0.op rfl rfl (A0.op rfl rfl (A0.off rfl (A0.off rfl ?_)))))))))));refine A0.off rfl (A0.off rfl (A0.off rfl (A0.op rfl rfl (A0.op rfl rfl (A0.off rfl (A0.op rfl rfl (A0.op rfl rfl (A0.off rfl (A0.off rfl (A0.op rfl rfl (A0.op rfl rfl ?_)))))))))));refine A0.off rfl (A0.off rfl (A0.op rfl rfl (A0.op rfl rfl (A0.off rfl (A0.off rfl (A0.off rfl (A0.op rfl rfl (A0.op rfl rfl (A0.done ?_)))))))));cases h19
     exact ⟨_,rfl,(Gh.y0 [])⟩
    ·have h20:=A5 h18 hb;refine A0.op rfl rfl (A0.op rfl rfl (A0.op rfl rfl (A0.op rfl rfl ?_)))
     refine A0.gen rfl rfl fun b hb=>?_
     cases b
     ·have h21:=A4 h20 hb;refine A0.op rfl rfl (A0.op rfl rfl (A0.off rfl (A0.off rfl (A0.off rfl (A0.op rfl rfl (A0.op rfl rfl (A0.off rfl (A0.off rfl (A0.off rfl (A0.op rfl rfl (A0.op rfl rfl ?_)))))))))));refine A0.off rfl (A0.off rfl (A0.off rfl (A0.op rfl rfl (A0.op rfl rfl (A0.off rfl (A0.off rfl (A0.off rfl (A0.off rfl (A0.off rfl (A0.op rfl rfl (A0.op rfl rfl ?_)))))))))));refine A0.off rfl (A0.op rfl rfl (A0.op rfl rfl (A0.off rfl (A0.off rfl (A0.op rfl rfl (A0.op rfl rfl (A0.off rfl (A0.off rfl (A0.op rfl rfl (A0.op rfl rfl (A0.off rfl ?_)))))))))));refine A0.off rfl (A0.off rfl (A0.op rfl rfl (A0.op rfl rfl (A0.done ?_))));cases h21
      exact ⟨_,rfl,(Gh.y0 [])⟩
     ·have h22:=A5 h20 hb;refine A0.op rfl rfl (A0.op rfl rfl (A0.op rfl rfl (A0.op rfl rfl ?_)))
      refine A0.gen rfl rfl fun b hb=>?_
      cases b
      ·have h23:=A4 h22 hb;refine A0.op rfl rfl (A0.op rfl rfl (A0.off rfl (A0.off rfl (A0.off rfl (A0.op rfl rfl (A0.op rfl rfl (A0.off rfl (A0.off rfl (A0.off rfl (A0.op rfl rfl (A0.op rfl rfl ?_)))))))))));refine A0.off rfl (A0.off rfl (A0.off rfl (A0.off rfl (A0.off rfl (A0.op rfl rfl (A0.op rfl rfl (A0.off rfl (A0.op rfl rfl (A0.op rfl rfl (A0.off rfl (A0.off rfl ?_)))))))))));refine A0.op rfl rfl (A0.op rfl rfl (A0.off rfl (A0.off rfl (A0.op rfl rfl (A0.op rfl rfl (A0.off rfl (A0.off rfl (A0.off rfl (A0.op rfl rfl (A0.op rfl rfl (A0.done ?_)))))))))));cases h23
       exact ⟨_,rfl,(Gh.y0 [])⟩
      ·have h24:=A5 h22 hb;refine A0.op rfl rfl (A0.op rfl rfl (A0.op rfl rfl (A0.op rfl rfl ?_)))
       refine A0.gen rfl rfl fun b hb=>?_
       cases b
       ·have h25:=A4 h24 hb;refine A0.op rfl rfl (A0.op rfl rfl (A0.off rfl (A0.off rfl (A0.off rfl (A0.op rfl rfl (A0.op rfl rfl (A0.off rfl (A0.off rfl (A0.off rfl (A0.off rfl (A0.off rfl ?_)))))))))));refine A0.op rfl rfl (A0.op rfl rfl (A0.off rfl (A0.op rfl rfl (A0.op rfl rfl (A0.off rfl (A0.off rfl (A0.op rfl rfl (A0.op rfl rfl (A0.off rfl (A0.off rfl (A0.op rfl rfl ?_)))))))))));refine A0.op rfl rfl (A0.off rfl (A0.off rfl (A0.off rfl (A0.op rfl rfl (A0.op rfl rfl (A0.done ?_))))));cases h25
        exact ⟨_,rfl,(Gh.y0 [])⟩
       ·have h26:=A5 h24 hb;refine A0.op rfl rfl (A0.op rfl rfl (A0.op rfl rfl (A0.op rfl rfl ?_)));obtain ⟨v16,e16,h27⟩:=A2 h26;refine A0.call rfl rfl rfl (A6.y (r':=.bool v16) (Rr e16) ⟨rfl,?_⟩)
        cases hb:v16
        ·have h28:=A4 h27 hb;refine A0.op rfl rfl (A0.op rfl rfl (A0.off rfl (A0.off rfl (A0.off rfl (A0.off rfl (A0.off rfl (A0.op rfl rfl (A0.op rfl rfl (A0.off rfl (A0.op rfl rfl (A0.op rfl rfl ?_)))))))))));refine A0.off rfl (A0.off rfl (A0.op rfl rfl (A0.op rfl rfl (A0.off rfl (A0.off rfl (A0.op rfl rfl (A0.op rfl rfl (A0.off rfl (A0.off rfl (A0.off rfl (A0.op rfl rfl ?_)))))))))));refine A0.op rfl rfl (A0.done ?_);cases h28
         exact ⟨_,rfl,(Gh.y0 [])⟩
        ·have h29:=A5 h27 hb;refine A0.op rfl rfl (A0.op rfl rfl (A0.op rfl rfl ?_));obtain ⟨v17,e17,h30⟩:=A2 h29;refine A0.call rfl rfl rfl (A6.y (r':=.bool v17) (Jx e17) ⟨rfl,?_⟩);refine A0.op rfl rfl ?_;obtain ⟨v18,e18,h31⟩:=A2 h30;refine A0.call rfl rfl rfl (A6.y (r':=.bool v18) (Jr e18) ⟨rfl,?_⟩)
         refine A0.gen rfl rfl fun b hb=>?_
         cases b
         ·have h32:=A4 h31 hb;refine A0.op rfl rfl (A0.op rfl rfl (A0.off rfl (A0.op rfl rfl (A0.op rfl rfl (A0.off rfl (A0.off rfl (A0.op rfl rfl (A0.op rfl rfl (A0.off rfl (A0.off rfl (A0.op rfl rfl ?_)))))))))));refine A0.op rfl rfl (A0.off rfl (A0.off rfl (A0.off rfl (A0.op rfl rfl (A0.op rfl rfl (A0.done ?_))))));cases h32
          exact ⟨_,rfl,(Gh.y0 [])⟩
         ·have h33:=A5 h31 hb;refine A0.op rfl rfl (A0.op rfl rfl (A0.op rfl rfl (A0.op rfl rfl (A0.op rfl rfl ?_))))
          cases hb:v13.2
          ·have h34:=A4 h33 hb;refine A0.off rfl (A0.off rfl (A0.op rfl rfl (A0.op rfl rfl (A0.off rfl (A0.off rfl (A0.op rfl rfl (A0.op rfl rfl (A0.off rfl (A0.off rfl (A0.off rfl (A0.op rfl rfl ?_)))))))))));refine A0.op rfl rfl (A0.done ?_);cases h34
           exact ⟨_,rfl,(Gh.y0 [])⟩
          ·have h35:=A5 h33 hb;refine A0.op rfl rfl (A0.op rfl rfl (A0.op rfl rfl (A0.op rfl rfl ?_)))
           cases hb:(!v14.2)
           ·have h36:=A4 h35 hb;refine A0.off rfl (A0.off rfl (A0.op rfl rfl (A0.op rfl rfl (A0.off rfl (A0.off rfl (A0.off rfl (A0.op rfl rfl (A0.op rfl rfl (A0.done ?_)))))))));cases h36
            exact ⟨_,rfl,(Gh.y0 [])⟩
           ·have h37:=A5 h35 hb;refine A0.op rfl rfl ?_;obtain ⟨v19,e19,h38⟩:=A2 h37;refine A0.call rfl rfl rfl (A6.y (r':=.bool v19) (Yk e19) ⟨rfl,?_⟩)
            cases hb:v19
            ·have h39:=A4 h38 hb;refine A0.op rfl rfl (A0.op rfl rfl (A0.off rfl (A0.off rfl (A0.off rfl (A0.op rfl rfl (A0.op rfl rfl (A0.done ?_)))))));cases h39
             exact ⟨_,rfl,(Gh.y0 [])⟩
            ·have h40:=A5 h38 hb;refine A0.op rfl rfl (A0.op rfl rfl (A0.op rfl rfl (A0.op rfl rfl (A0.op rfl rfl (A0.op rfl rfl (A0.op rfl rfl (A0.done ?_)))))));cases h40
             exact ⟨_,rfl,(Gh.y0 [])⟩
  ·intro y hC
   subst hC;refine RW.ret ?_;cases h16
   exact RRet.y
 ·have h41:=A5 h1 hb;refine rl.done (RW.cond_t rfl (RW.sf 1 rfl (RW.ret ?_)));cases h41
  exact RRet.y
end Go.Proofs.YtldndhdohlfpgaaGreat.V
