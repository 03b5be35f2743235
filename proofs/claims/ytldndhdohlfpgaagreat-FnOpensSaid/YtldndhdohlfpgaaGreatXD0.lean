/- What a call comes to. -/
import Derived.Test.YtldndhdohlfpgaaGreatXT
import Derived.Test.YtldndhdohlfpgaaGreatXU
namespace Go.Proofs.YtldndhdohlfpgaaGreat.V
open Go Go.Proofs Go.RowKit
set_option maxRecDepth 100000
abbrev B8 (n0 n1 : Nat) (x : TDisk) : List AV:=[.sl n0 0 x.Sectors.length,.sl n1 0 x.Cache.length]
abbrev G7 (n0 n1 n3 : Nat) (x : TLog) : List AV:=[.sl n0 0 x.Disk.Sectors.length,.sl n1 0 x.Disk.Cache.length,.j x.Segs,.sl n3 0 x.Used.length,.j x.NextGen,.j x.NextSeq,.j x.Stamp,.j x.NextValid]
abbrev F9 (n3 : Nat) (x : TSeg) : List AV:=[.j x.No,.j x.Gen,.j x.End,.sl n3 0 x.Items.length]
theorem SubL.i {ns : List Nat} {a : Asg} {x : Nat} {r : Asg} {k : IntKind} {n : Int} (h : get a x = some (.int k n)) (t : SubL ns a r) : SubL ns a ((x,.int k n) :: r):=.cons h (.dat .int) t
theorem SubL.b {ns : List Nat} {a : Asg} {x : Nat} {r : Asg} {n : Bool} (h : get a x = some (.bool n)) (t : SubL ns a r) : SubL ns a ((x,.bool n) :: r):=.cons h (.dat .bool) t
theorem SubL.s {ns : List Nat} {a : Asg} {x : Nat} {r : Asg} {n : List UInt8} (h : get a x = some (.str n)) (t : SubL ns a r) : SubL ns a ((x,.str n) :: r):=.cons h (.dat .str) t
theorem SubL.p {ns : List Nat} {a : Asg} {x : Nat} {r : Asg} {b c o : Nat} (h : get a x = some (.ptr b o)) (g : ns[c]? = some b) (t : SubL ns a r) : SubL ns a ((x,.ptr c o) :: r):=.cons h (.ptr g) t
theorem OutL.i {H : AH} {k : IntKind} {n : Int} {vs rs : List AV} {d : List Nat} (t : OutL H vs rs d) : OutL H (.int k n :: vs) (.int k n :: rs) d:=.cons .int rfl t
theorem RnC.z0 {ns : List Nat} {o0 : Bool} {l0 : List (Int)} {m0 : Nat} {p0 : Nat} {q0 : Nat} {k1 : IntKind} {a1 : Int} {k2 : IntKind} {a2 : Int} : RnC ns [.pv p0 q0 1 (fl (encB o0) l0) m0,.int k1 a1,.int k2 a2] [.pv p0 q0 1 (fl (encB o0) l0) m0,.int k1 a1,.int k2 a2]:=(.keep (.pv ekB.rlst) (.keep .int (.keep .int .nil)))
theorem RnC.z1 {ns : List Nat} {k0 : IntKind} {a0 : Int} : RnC ns [.int k0 a0] [.int k0 a0]:=(.keep .int .nil)
theorem RnC.z2 {ns : List Nat} {o0 : Bool} {l0 : List (List UInt8)} {m0 : Nat} {c0 : Bool} {o1 : Bool} {l1 : List (TWrite)} {m1 : Nat} {c1 : Bool} {k2 : IntKind} {a2 : Int} {o3 : Bool} {l3 : List (TSeg)} {m3 : Nat} {c3 : Bool} {k4 : IntKind} {a4 : Int} {k5 : IntKind} {a5 : Int} {k6 : IntKind} {a6 : Int} {k7 : IntKind} {a7 : Int} : RnC ns [.lst c0 1 (fl (encS o0) l0) m0,.lst c1 2 (fl (A2 o1) l1) m1,.int k2 a2,.lst c3 4 (fl (A8 o3) l3) m3,.int k4 a4,.int k5 a5,.int k6 a6,.int k7 a7] [.lst c0 1 (fl (encS o0) l0) m0,.lst c1 2 (fl (A2 o1) l1) m1,.int k2 a2,.lst c3 4 (fl (A8 o3) l3) m3,.int k4 a4,.int k5 a5,.int k6 a6,.int k7 a7]:=(.keep (ekS.rlst) (.keep (A1.rlst) (.keep .int (.keep (A9.rlst) (.keep .int (.keep .int (.keep .int (.keep .int .nil))))))))
theorem RnC.z3 {ns : List Nat} {k0 : IntKind} {a0 : Int} {k1 : IntKind} {a1 : Int} {k2 : IntKind} {a2 : Int} {o3 : Bool} {l3 : List (TItem)} {m3 : Nat} {c3 : Bool} : RnC ns [.int k0 a0,.int k1 a1,.int k2 a2,.lst c3 9 (fl (B2 o3) l3) m3] [.int k0 a0,.int k1 a1,.int k2 a2,.lst c3 9 (fl (B2 o3) l3) m3]:=(.keep .int (.keep .int (.keep .int (.keep (B4.rlst) .nil))))
theorem RnC.z4 {ns : List Nat} {o0 : Bool} {l0 : List (List UInt8)} {m0 : Nat} {c0 : Bool} {o1 : Bool} {l1 : List (TWrite)} {m1 : Nat} {c1 : Bool} : RnC ns [.lst c0 1 (fl (encS o0) l0) m0,.lst c1 2 (fl (A2 o1) l1) m1] [.lst c0 1 (fl (encS o0) l0) m0,.lst c1 2 (fl (A2 o1) l1) m1]:=(.keep (ekS.rlst) (.keep (A1.rlst) .nil))
theorem RnC.z5 {ns : List Nat} {k0 : IntKind} {a0 : Int} {k1 : IntKind} {a1 : Int} {s2 : List UInt8} : RnC ns [.int k0 a0,.int k1 a1,.str s2] [.int k0 a0,.int k1 a1,.str s2]:=(.keep .int (.keep .int (.keep .str .nil)))
theorem RnC.z6 {ns : List Nat} {k0 : IntKind} {a0 : Int} {k1 : IntKind} {a1 : Int} {k2 : IntKind} {a2 : Int} {k3 : IntKind} {a3 : Int} {k4 : IntKind} {a4 : Int} {s5 : List UInt8} {s6 : List UInt8} {s7 : List UInt8} : RnC ns [.int k0 a0,.int k1 a1,.int k2 a2,.int k3 a3,.int k4 a4,.str s5,.str s6,.str s7] [.int k0 a0,.int k1 a1,.int k2 a2,.int k3 a3,.int k4 a4,.str s5,.str s6,.str s7]:=(.keep .int (.keep .int (.keep .int (.keep .int (.keep .int (.keep .str (.keep .str (.keep .str .nil))))))))
theorem RnC.z7 {ns : List Nat} {k0 : IntKind} {a0 : Int} {k1 : IntKind} {a1 : Int} {k2 : IntKind} {a2 : Int} {k3 : IntKind} {a3 : Int} {k4 : IntKind} {a4 : Int} {k5 : IntKind} {a5 : Int} {s6 : List UInt8} {s7 : List UInt8} {s8 : List UInt8} : RnC ns [.int k0 a0,.int k1 a1,.int k2 a2,.int k3 a3,.int k4 a4,.int k5 a5,.str s6,.str s7,.str s8] [.int k0 a0,.int k1 a1,.int k2 a2,.int k3 a3,.int k4 a4,.int k5 a5,.str s6,.str s7,.str s8]:=(.keep .int (.keep .int (.keep .int (.keep .int (.keep .int (.keep .int (.keep .str (.keep .str (.keep .str .nil)))))))))
theorem RnC.z8 {ns : List Nat} {k2 : IntKind} {a2 : Int} {k4 : IntKind} {a4 : Int} {k5 : IntKind} {a5 : Int} {k6 : IntKind} {a6 : Int} {k7 : IntKind} {a7 : Int} : RnC ns [.nils,.nils,.int k2 a2,.nils,.int k4 a4,.int k5 a5,.int k6 a6,.int k7 a7] [.nils,.nils,.int k2 a2,.nils,.int k4 a4,.int k5 a5,.int k6 a6,.int k7 a7]:=(.keep .nils (.keep .nils (.keep .int (.keep .nils (.keep .int (.keep .int (.keep .int (.keep .int .nil))))))))
theorem RnC.z9 {ns : List Nat} : RnC ns [.nils,.nils] [.nils,.nils]:=(.keep .nils (.keep .nils .nil))
theorem RnC.z10 {ns : List Nat} {k0 : IntKind} {a0 : Int} {k1 : IntKind} {a1 : Int} {k2 : IntKind} {a2 : Int} {k3 : IntKind} {a3 : Int} : RnC ns [.int k0 a0,.int k1 a1,.int k2 a2,.int k3 a3,.nils] [.int k0 a0,.int k1 a1,.int k2 a2,.int k3 a3,.nils]:=(.keep .int (.keep .int (.keep .int (.keep .int (.keep .nils .nil)))))
theorem RnC.z11 {ns : List Nat} {k0 : IntKind} {a0 : Int} {k1 : IntKind} {a1 : Int} {k2 : IntKind} {a2 : Int} {k3 : IntKind} {a3 : Int} {o4 : Bool} {l4 : List (TRef)} {m4 : Nat} {c4 : Bool} : RnC ns [.int k0 a0,.int k1 a1,.int k2 a2,.int k3 a3,.lst c4 2 (fl (L6 o4) l4) m4] [.int k0 a0,.int k1 a1,.int k2 a2,.int k3 a3,.lst c4 2 (fl (L6 o4) l4) m4]:=(.keep .int (.keep .int (.keep .int (.keep .int (.keep (V3.rlst) .nil)))))
theorem RnC.z12 {ns : List Nat} {k0 : IntKind} {a0 : Int} {k1 : IntKind} {a1 : Int} : RnC ns [.int k0 a0,.int k1 a1] [.int k0 a0,.int k1 a1]:=(.keep .int (.keep .int .nil))
theorem Gr {x0 : List Int} {B0_ o0_ : Nat} {r : TL01Cur} (hF : T9 x0 = some r) : C4 Tryz.prog 0 47 [pvB B0_ o0_ x0] [] (.ptr 0 0) [some ⟨[pvB B0_ o0_ x0,.j r.mI,.j r.mH],0⟩]:=by
 refine C4.of_m A37 rfl ?_
 unfold T9 at hF
 refine RW.sreg (rl.run 1 rfl (rl.done (RW.sreg (rl.run 4 rfl (rl.done (RW.seq (RW.sreg (rl.run 1 rfl (rl.done ?_)))))))))
 obtain ⟨y5,ey5,h2⟩:=A3 hF
 refine RW.cutq (σ:=Int) (fun y2=>[(0,pvB B0_ o0_ x0),(3,.j y2)]) (fun y2=>[]) (fun y=>y5 = y) (fun _ _ _ _ g h=>RW.gh g h) ?_ ?_
 ·refine RW.blk ?_
  refine RW.iter (σ:=Int × Int) ey5 (fun s1=>[(0,pvB B0_ o0_ x0),(3,.j s1.1),(4,.j s1.2)]) (fun s1=>[]) (Gh.ren0 [] .nil rfl (.cons rfl (.dat (.pv ekB.rlst)) (.i rfl (.i rfl .nil)))) (fun s1 B o hS1 hB1 hE1=>?_)
  unfold Aj at hS1
  refine RW.seq (RW.seq ?_)
  obtain ⟨y3,ey3,h3⟩:=A3 hS1
  refine RW.cutq (σ:=Bool) (fun y3=>[(0,pvB B0_ o0_ x0),(3,.j s1.1),(4,.j s1.2),(15,.bool y3)]) (fun y3=>[]) (fun y=>y3 = y) (fun _ _ _ _ g h=>RW.gh g h) ?_ ?_
  ·refine RW.reg ?_
   refine rl.run 3 rfl ?_
   refine rl.gen rfl rfl fun b hb=>?_
   cases b
   ·have h4:=A5 ey3 hb
    refine rl.run 4 rfl (rl.done ?_)
    cases h4
    exact ⟨_,rfl,(Gh.ren0 [] .nil rfl (.cons rfl (.dat (.pv ekB.rlst)) (.i rfl (.i rfl (.b rfl .nil)))))⟩
   ·have h5:=A4 ey3 hb
    refine rl.run 2 rfl ?_
    refine rl.gen rfl rfl fun b hb=>?_
    cases b
    ·have h6:=A5 h5 hb
     refine rl.run 1 rfl (rl.done ?_)
     cases h6
     exact ⟨_,rfl,(Gh.ren0 [] .nil rfl (.cons rfl (.dat (.pv ekB.rlst)) (.i rfl (.i rfl (.b rfl .nil)))))⟩
    ·have h7:=A4 h5 hb
     refine rl.run 1 rfl (rl.done ?_)
     cases h7
     exact ⟨_,rfl,(Gh.ren0 [] .nil rfl (.cons rfl (.dat (.pv ekB.rlst)) (.i rfl (.i rfl (.b rfl .nil)))))⟩
  ·intro y hC
   subst hC
   cases hb : y3
   ·have h8:=A5 h3 hb
    refine RW.cond_f rfl (RW.exit (D0 ?_))
    cases h8
    exact ⟨_,(hE1 _ rfl).symm,(Gh.ren0 [] .nil rfl (.cons rfl (.dat (.pv ekB.rlst)) (.i rfl .nil)))⟩
   ·have h9:=A4 h3 hb
    refine RW.cond_t rfl (RW.skip (RW.seq (RW.blk (RW.reg (rl.run 4 rfl ?_)))))
    obtain ⟨v4,e4,h10⟩:=A3 h9
    refine rl.op (Abd (enc:=encB) (o:=false) rfl rfl rfl e4) ?_
    refine rl.op (G5 (off':=0) ekB rfl e4 rfl rfl rfl) ?_
    refine rl.run 5 rfl (rl.done (RW.reg (rl.run 3 rfl (rl.done ?_))))
    cases h10
    exact hB1 _ rfl _ _ (Gh.ren0 [] .nil rfl (.cons rfl (.dat (.pv ekB.rlst)) (.i rfl (.i rfl .nil))))
 ·intro y2 hC
  subst hC
  refine RW.sreg (rl.run 5 rfl (rl.done (RW.ret ?_)))
  cases h2
  exact RRetM.mk [0] Gh.refl rfl (.cells rfl rfl .z0 .nil) rfl rfl rfl (.ptr rfl)
theorem M7 {x0 : TL01Cur} {B0_ o0_ : Nat} {r : Int × TL01Cur} (hF : J5 x0 = some r) : C4 Tryz.prog 0 48 [.ptr 0 0] [some ⟨[pvB B0_ o0_ x0.mB,.j x0.mI,.j x0.mH],0⟩] (.j r.1) [some ⟨[pvB B0_ o0_ x0.mB,.j r.2.mI,.j r.2.mH],0⟩]:=by
 refine C4.of_s A1e rfl ?_
 unfold J5 at hF
 refine RW.sreg (rl.run 1 rfl (rl.done (RW.sreg (rl.run 10 rfl (rl.done (RW.sdrw (A0.op rfl rfl (A0.op rfl rfl (A0.op rfl rfl (A0.op rfl rfl (A0.op rfl rfl ?_)))))))))))
 refine A0.op rfl rfl (A0.op rfl rfl (A0.op rfl rfl (A0.op rfl rfl (A0.op rfl rfl (A0.op rfl rfl (A0.op rfl rfl (A0.op rfl rfl (A0.done ?_))))))))
 refine RW.kp [0,3] [(0,.ptr 0 0),(3,.j (andv .i64 (xorv .i64 (shrv .i64 (w64 ((w64 (x0.mH * 6364136223846793005)) + 1442695040888963407)) 33) (shrv .i64 (w64 ((w64 (x0.mH * 6364136223846793005)) + 1442695040888963407)) 45)) 255))] [some ⟨[pvB B0_ o0_ x0.mB,.j x0.mI,.j (w64 ((w64 (x0.mH * 6364136223846793005)) + 1442695040888963407))],0⟩] rfl rfl ?_
 refine RW.seq (RW.sdrw (A0.op rfl rfl (A0.op rfl rfl (A0.op rfl rfl (A0.op rfl rfl (A0.op rfl rfl (A0.op rfl rfl (A0.op rfl rfl (A0.op rfl rfl (A0.op rfl rfl ?_))))))))))
 refine A0.gen rfl rfl fun b hb=>?_
 cases b
 ·have h1:=A5 hF hb
  refine A0.done (RW.cond_f rfl (RW.skip (RW.sreg (rl.run 2 rfl (rl.done ?_)))))
  refine RW.kp [2] [(2,.j (andv .i64 (xorv .i64 (shrv .i64 (w64 ((w64 (x0.mH * 6364136223846793005)) + 1442695040888963407)) 33) (shrv .i64 (w64 ((w64 (x0.mH * 6364136223846793005)) + 1442695040888963407)) 45)) 255))] [some ⟨[pvB B0_ o0_ x0.mB,.j x0.mI,.j (w64 ((w64 (x0.mH * 6364136223846793005)) + 1442695040888963407))],0⟩] rfl rfl ?_
  refine RW.ret ?_
  cases h1
  exact RRetS.mk rfl .int (Gh.renN [0] (.cells rfl rfl .z0 .nil) rfl rfl rfl .nil)
 ·have h2:=A4 hF hb
  refine A0.done (RW.cond_t rfl (RW.sdrw (A0.op rfl rfl (A0.op rfl rfl (A0.op rfl rfl (A0.op rfl rfl (A0.op rfl rfl (A0.op rfl rfl (A0.op rfl rfl (A0.op rfl rfl (A0.op rfl rfl ?_)))))))))))
  obtain ⟨v1,e1,h3⟩:=A3 h2
  refine A0.op rfl (C1 (enc:=encB) (o:=false) rfl rfl rfl e1) ?_
  refine A0.op rfl (G5 (off':=0) ekB rfl e1 rfl rfl rfl) ?_
  refine A0.op rfl rfl (A0.op rfl rfl (A0.op rfl rfl (A0.op rfl rfl (A0.done ?_))))
  refine RW.kp [0,3] [(0,.ptr 0 0),(3,.j (andv .i64 (w64 ((andv .i64 (xorv .i64 (shrv .i64 (w64 ((w64 (x0.mH * 6364136223846793005)) + 1442695040888963407)) 33) (shrv .i64 (w64 ((w64 (x0.mH * 6364136223846793005)) + 1442695040888963407)) 45)) 255) + (w64 v1))) 255))] [some ⟨[pvB B0_ o0_ x0.mB,.j x0.mI,.j (w64 ((w64 (x0.mH * 6364136223846793005)) + 1442695040888963407))],0⟩] rfl rfl ?_
  refine RW.reg (rl.run 9 rfl (rl.done (RW.sreg (rl.run 2 rfl (rl.done ?_)))))
  refine RW.kp [2] [(2,.j (andv .i64 (w64 ((andv .i64 (xorv .i64 (shrv .i64 (w64 ((w64 (x0.mH * 6364136223846793005)) + 1442695040888963407)) 33) (shrv .i64 (w64 ((w64 (x0.mH * 6364136223846793005)) + 1442695040888963407)) 45)) 255) + (w64 v1))) 255))] [some ⟨[pvB B0_ o0_ x0.mB,.j (w64 (x0.mI + 1)),.j (w64 ((w64 (x0.mH * 6364136223846793005)) + 1442695040888963407))],0⟩] rfl rfl ?_
  refine RW.ret ?_
  cases h3
  exact RRetS.mk rfl .int (Gh.renN [0] (.cells rfl rfl .z0 .nil) rfl rfl rfl .nil)
theorem E1 {x0 : TL01Cur} {x1 : Int} {B0_ o0_ : Nat} {r : Int × TL01Cur} (hF : C6 x0 x1 = some r) : C4 Tryz.prog 0 49 [.ptr 0 0,.j x1] [some ⟨[pvB B0_ o0_ x0.mB,.j x0.mI,.j x0.mH],0⟩] (.j r.1) [some ⟨[pvB B0_ o0_ x0.mB,.j r.2.mI,.j r.2.mH],0⟩]:=by
 refine C4.of_s Yo rfl ?_
 unfold C6 at hF
 refine RW.sreg (rl.run 1 rfl (rl.done (RW.seq (RW.sreg (rl.run 1 rfl ?_)))))
 refine rl.gen rfl rfl fun b hb=>?_
 cases b
 ·have h1:=A5 hF hb
  refine rl.done (RW.cond_f rfl (RW.skip (RW.seq (RW.sreg (rl.run 1 rfl ?_)))))
  refine rl.gen rfl rfl fun b hb=>?_
  cases b
  ·have h2:=A5 h1 hb
   refine rl.done (RW.cond_f rfl (RW.skip (RW.sreg (rl.run 1 rfl ?_))))
   obtain ⟨v1,e1,h3⟩:=A3 h2
   refine rl.call rfl rfl rfl (A7.embN (r0:=.j v1.1) (H':=[some ⟨[pvB B0_ o0_ x0.mB,.j v1.2.mI,.j v1.2.mH],0⟩]) [⟨[pvB B0_ o0_ x0.mB,.j x0.mI,.j x0.mH],0⟩] [⟨[pvB B0_ o0_ x0.mB,.j v1.2.mI,.j v1.2.mH],0⟩] [] [0] [pvB B0_ o0_ x0.mB] U0 (M7 e1) (.cons rfl (fac (.pv ekB.rlst) (fac .int (fac .int fan))) (fac (.inr (.head _)) (fac (.inl .int) (fac (.inl .int) fan))) .nil) .nil (.blk 0 0 0 0 0 rfl rfl rfl rfl scalB .nil) rfl (.cons (.ptr rfl) .nil) .int rfl ?_)
   refine rl.run 1 rfl (rl.done (RW.sreg (rl.run 1 rfl ?_)))
   obtain ⟨v2,e2,h4⟩:=A3 h3
   refine rl.call rfl rfl rfl (A7.embN (r0:=.j v2.1) (H':=[some ⟨[pvB B0_ o0_ x0.mB,.j v2.2.mI,.j v2.2.mH],0⟩]) [⟨[pvB B0_ o0_ x0.mB,.j v1.2.mI,.j v1.2.mH],0⟩] [⟨[pvB B0_ o0_ x0.mB,.j v2.2.mI,.j v2.2.mH],0⟩] [] [0] [pvB B0_ o0_ x0.mB] U0 (M7 e2) (.cons rfl (fac (.pv ekB.rlst) (fac .int (fac .int fan))) (fac (.inr (.head _)) (fac (.inl .int) (fac (.inl .int) fan))) .nil) .nil (.blk 0 0 0 0 0 rfl rfl rfl rfl scalB .nil) rfl (.cons (.ptr rfl) .nil) .int rfl ?_)
   refine rl.run 1 rfl (rl.done (RW.sreg (rl.run 1 rfl ?_)))
   obtain ⟨v3,e3,h5⟩:=A3 h4
   refine rl.call rfl rfl rfl (A7.embN (r0:=.j v3.1) (H':=[some ⟨[pvB B0_ o0_ x0.mB,.j v3.2.mI,.j v3.2.mH],0⟩]) [⟨[pvB B0_ o0_ x0.mB,.j v2.2.mI,.j v2.2.mH],0⟩] [⟨[pvB B0_ o0_ x0.mB,.j v3.2.mI,.j v3.2.mH],0⟩] [] [0] [pvB B0_ o0_ x0.mB] U0 (M7 e3) (.cons rfl (fac (.pv ekB.rlst) (fac .int (fac .int fan))) (fac (.inr (.head _)) (fac (.inl .int) (fac (.inl .int) fan))) .nil) .nil (.blk 0 0 0 0 0 rfl rfl rfl rfl scalB .nil) rfl (.cons (.ptr rfl) .nil) .int rfl ?_)
   refine rl.run 1 rfl (rl.done ?_)
   refine RW.kp [0,1,5,6,7] [(0,.ptr 0 0),(1,.j x1),(5,.j v1.1),(6,.j v2.1),(7,.j v3.1)] [some ⟨[pvB B0_ o0_ x0.mB,.j v3.2.mI,.j v3.2.mH],0⟩] rfl rfl ?_
   refine RW.sreg (rl.run 1 rfl ?_)
   obtain ⟨v4,e4,h6⟩:=A3 h5
   refine rl.call rfl rfl rfl (A7.embN (r0:=.j v4.1) (H':=[some ⟨[pvB B0_ o0_ x0.mB,.j v4.2.mI,.j v4.2.mH],0⟩]) [⟨[pvB B0_ o0_ x0.mB,.j v3.2.mI,.j v3.2.mH],0⟩] [⟨[pvB B0_ o0_ x0.mB,.j v4.2.mI,.j v4.2.mH],0⟩] [] [0] [pvB B0_ o0_ x0.mB] U0 (M7 e4) (.cons rfl (fac (.pv ekB.rlst) (fac .int (fac .int fan))) (fac (.inr (.head _)) (fac (.inl .int) (fac (.inl .int) fan))) .nil) .nil (.blk 0 0 0 0 0 rfl rfl rfl rfl scalB .nil) rfl (.cons (.ptr rfl) .nil) .int rfl ?_)
   refine rl.run 1 rfl (rl.done (RW.sreg (rl.run 11 rfl ?_)))
   obtain ⟨v5,e5,h7⟩:=A3 h6
   refine rl.op (Abq rfl rfl e5) ?_
   refine rl.run 1 rfl (rl.done ?_)
   refine RW.kp [4] [(4,.j v5)] [some ⟨[pvB B0_ o0_ x0.mB,.j v4.2.mI,.j v4.2.mH],0⟩] rfl rfl ?_
   refine RW.ret ?_
   cases h7
   exact RRetS.mk rfl .int (Gh.renN [0] (.cells rfl rfl .z0 .nil) rfl rfl rfl .nil)
  ·have h8:=A4 h1 hb
   refine rl.done (RW.cond_t rfl (RW.sreg (rl.run 1 rfl ?_)))
   obtain ⟨v6,e6,h9⟩:=A3 h8
   refine rl.call rfl rfl rfl (A7.embN (r0:=.j v6.1) (H':=[some ⟨[pvB B0_ o0_ x0.mB,.j v6.2.mI,.j v6.2.mH],0⟩]) [⟨[pvB B0_ o0_ x0.mB,.j x0.mI,.j x0.mH],0⟩] [⟨[pvB B0_ o0_ x0.mB,.j v6.2.mI,.j v6.2.mH],0⟩] [] [0] [pvB B0_ o0_ x0.mB] U0 (M7 e6) (.cons rfl (fac (.pv ekB.rlst) (fac .int (fac .int fan))) (fac (.inr (.head _)) (fac (.inl .int) (fac (.inl .int) fan))) .nil) .nil (.blk 0 0 0 0 0 rfl rfl rfl rfl scalB .nil) rfl (.cons (.ptr rfl) .nil) .int rfl ?_)
   refine rl.run 1 rfl ?_
   obtain ⟨v7,e7,h10⟩:=A3 h9
   refine rl.op (Abq rfl rfl e7) ?_
   refine rl.run 1 rfl (rl.done (RW.ret ?_))
   cases h10
   exact RRetS.mk rfl .int (Gh.renN [0] (.cells rfl rfl .z0 .nil) rfl rfl rfl .nil)
 ·have h11:=A4 hF hb
  refine rl.done (RW.cond_t rfl (RW.sreg (rl.run 1 rfl (rl.done (RW.ret ?_)))))
  cases h11
  exact RRetS.mk rfl .int (Gh.renN [0] (.cells rfl rfl .z0 .nil) rfl rfl rfl .nil)
theorem Mk {x0 : List Int} {r : List Int} (hF : U6 x0 = some r) : B3 Tryz.prog 10 [L_B x0] (.lst true 1 (fl (encI true) r) r.length):=by
 refine B3.of_r Tj rfl ?_
 unfold U6 at hF
 refine RW.sreg (rl.run 1 rfl (rl.done ?_))
 refine RW.pin 0 rfl fun B1 o1=>?_
 refine RW.sreg (rl.run 1 rfl ?_)
 obtain ⟨v2,e2,h1⟩:=A3 hF
 refine rl.call rfl rfl rfl (A7.embN (r0:=.ptr 0 0) (H':=[some ⟨[pvB B1 o1 x0,.j v2.mI,.j v2.mH],0⟩]) [] [] [⟨[pvB B1 o1 x0,.j v2.mI,.j v2.mH],0⟩] [] [pvB B1 o1 x0] Ld (Gr e2) .nil (.cons (fac (.inr (.head _)) (fac (.inl .int) (fac (.inl .int) fan))) .nil) (.arg 0 rfl scalB .nil) rfl (.cons (.dat (.pv ekB.rlst)) .nil) (.ptr rfl) rfl ?_)
 refine rl.run 1 rfl (rl.done (RW.sreg (rl.run 1 rfl ?_)))
 obtain ⟨v3,e3,h2⟩:=A3 h1
 refine rl.call rfl rfl rfl (A7.embN (r0:=.j v3.1) (H':=[some ⟨[pvB B1 o1 x0,.j v3.2.mI,.j v3.2.mH],0⟩]) [⟨[pvB B1 o1 x0,.j v2.mI,.j v2.mH],0⟩] [⟨[pvB B1 o1 x0,.j v3.2.mI,.j v3.2.mH],0⟩] [] [0] [pvB B1 o1 x0] U0 (M7 e3) (.cons rfl (fac (.pv ekB.rlst) (fac .int (fac .int fan))) (fac (.inr (.head _)) (fac (.inl .int) (fac (.inl .int) fan))) .nil) .nil (.blk 0 0 0 0 0 rfl rfl rfl rfl scalB .nil) rfl (.cons (.ptr rfl) .nil) .int rfl ?_)
 refine rl.done (RW.sreg (rl.run 2 rfl (rl.done (RW.seq (RW.sreg (rl.run 1 rfl (rl.done ?_)))))))
 refine RW.gh (Gh.nil_t 4 1 rfl) ?_
 obtain ⟨y8,ey8,h4⟩:=A3 h2
 refine RW.cutq (σ:=(List Int)) (fun y5=>[(4,.sl 0 0 y5.length)]) (fun y5=>[some ⟨fl (encI true) y5,1⟩]) (fun y=>y8 = y) (fun _ _ _ _ g h=>RW.gh g h) ?_ ?_
 ·refine RW.blk ?_
  refine RW.iter (σ:=Int × Int × Int × (List Int)) ey8 (fun s4=>[(3,.ptr 0 0),(4,.sl 1 0 s4.2.2.2.length),(5,.j s4.1)]) (fun s4=>[some ⟨[pvB B1 o1 x0,.j s4.2.1,.j s4.2.2.1],0⟩,some ⟨fl (encI true) s4.2.2.2,1⟩]) (Gh.ren0 [0,1] (.cells rfl rfl .z0 (.same rfl (ekI.fref _ _) .nil)) rfl (.p rfl rfl (.cons rfl (.slq rfl rfl) (.i rfl .nil)))) (fun s4 B o hS3 hB3 hE3=>?_)
  unfold V4 at hS3
  refine RW.seq (RW.sreg (rl.run 1 rfl ?_))
  refine rl.gen rfl rfl fun b hb=>?_
  cases b
  ·have h5:=A5 hS3 hb
   refine rl.done (RW.cond_f rfl (RW.exit (D0 ?_)))
   cases h5
   exact ⟨_,(hE3 _ rfl).symm,(Gh.ren0 [1] (.same rfl (ekI.fref _ _) .nil) rfl (.cons rfl (.slq rfl rfl) .nil))⟩
  ·have h6:=A4 hS3 hb
   refine rl.done (RW.cond_t rfl (RW.skip (RW.seq (RW.blk (RW.reg (rl.run 2 rfl ?_))))))
   obtain ⟨v6,e6,h7⟩:=A3 h6
   refine rl.call rfl rfl rfl (A7.embN (r0:=.j v6.1) (H':=[some ⟨[pvB B1 o1 x0,.j v6.2.mI,.j v6.2.mH],0⟩,some ⟨fl (encI true) s4.2.2.2,1⟩]) [⟨[pvB B1 o1 x0,.j s4.2.1,.j s4.2.2.1],0⟩] [⟨[pvB B1 o1 x0,.j v6.2.mI,.j v6.2.mH],0⟩] [] [0] [pvB B1 o1 x0] G3 (E1 e6) (.cons rfl (fac (.pv ekB.rlst) (fac .int (fac .int fan))) (fac (.inr (.head _)) (fac (.inl .int) (fac (.inl .int) fan))) .nil) .nil (.blk 0 0 0 0 0 rfl rfl rfl rfl scalB .nil) rfl (.cons (.ptr rfl) (.cons (.dat .int) .nil)) .int rfl ?_)
   refine rl.run 1 rfl ?_
   obtain ⟨v7,e7,h8⟩:=A3 h7
   refine rl.op (Z4 rfl rfl (V5 (l:=s4.2.2.2) (m:=[v6.1]) (o:=true) ekI rfl rfl (P8 (m:=[v6.1]) (o:=true) fkI rfl rfl) rfl (fkI.fst _ _) e7)) ?_
   refine rl.run 1 rfl (rl.done (RW.reg (rl.run 3 rfl (rl.done ?_))))
   cases h8
   exact hB3 _ rfl _ _ (Gh.ren0 [0,3] (.cells rfl rfl .z0 (.same rfl (ekI.fref _ _) .nil)) rfl (.p rfl rfl (.cons rfl (.slq rfl rfl) (.i rfl .nil))))
 ·intro y5 hC
  subst hC
  refine RW.sreg (rl.run 2 rfl (rl.done (RW.ret ?_)))
  cases h4
  exact RRet.mk rfl (OutR.ownq ekI rfl rfl) (by first | decide | simp)
theorem Kl {x0 : TSeg} {x1 : Int} {r : Bool} (hF : Q5 x0 x1 = some r) : C4 Tryz.prog 1 51 [.agg (A8 false x0),.ptr 0 0] [some ⟨[.j x1],0⟩] (.bool r) [some ⟨[.j x1],0⟩]:=by
 refine C4.of_s Tl rfl ?_
 unfold Q5 at hF
 refine RW.sreg (rl.run 2 rfl (rl.done (RW.sreg (rl.run 5 rfl (rl.done (RW.ret ?_))))))
 cases hF
 exact RRetS.mk rfl .bool (Gh.renN [0] (.cells rfl rfl .z1 .nil) rfl rfl rfl .nil)
theorem Cm {x0 : List TSeg} {x1 : Int} {r : Int} (hF : F8 x0 x1 = some r) : C4 Tryz.prog 1 117 [Fa x0,.fn 51 [.ptr 0 0]] [some ⟨[.j x1],0⟩] (.j r) [some ⟨[.j x1],0⟩]:=by
 refine C4.of_s Dh rfl ?_
 unfold F8 at hF
 refine RW.sreg (rl.run 1 rfl (rl.done (RW.seq (RW.sreg (rl.run 3 rfl (rl.done ?_))))))
 obtain ⟨y5,ey5,h2⟩:=A3 hF
 refine RW.cutq (σ:=Unit) (fun y2=>[]) (fun y2=>[some ⟨[.j x1],0⟩]) (fun y=>y5 = .inr y) (fun _ _ _ _ g h=>RW.gh g h) ?_ ?_
 ·refine RW.blk ?_
  refine RW.iter (σ:=Int) ey5 (fun s1=>[(0,Fa x0),(1,.fn 51 [.ptr 0 0]),(7,.j (x0.length : Int)),(8,.j s1)]) (fun s1=>[some ⟨[.j x1],0⟩]) (Gh.renN [0] (.cells rfl rfl .z1 .nil) rfl rfl rfl (.cons rfl (.dat (A9.rlst)) (.cons rfl (RnL.fn (.cons (.ptr rfl) .nil)) (.i rfl (.i rfl .nil))))) (fun s1 B o hS1 hB1 hE1=>?_)
  unfold H9 at hS1
  refine RW.sreg ?_
  refine rl.gen rfl rfl fun b hb=>?_
  cases b
  ·have h3:=A5 hS1 hb
   refine rl.done (RW.seq (RW.cond_f rfl (RW.exit (D0 ?_))))
   cases h3
   exact ⟨_,(hE1 _ rfl).symm,(Gh.renN [0] (.cells rfl rfl .z1 .nil) rfl rfl rfl .nil)⟩
  ·have h4:=A4 hS1 hb
   refine rl.done (RW.seq (RW.cond_t rfl (RW.skip (RW.seq (RW.blk (RW.sreg (rl.run 2 rfl (rl.done (RW.sreg (rl.run 3 rfl ?_))))))))))
   obtain ⟨v3,e3,h5⟩:=A3 h4
   refine rl.op (C1 (enc:=A8) (o:=false) rfl rfl rfl e3) ?_
   refine rl.op (K5 (off':=0) (vs:=(A8 false v3)) A9 rfl e3 rfl rfl rfl) ?_
   obtain ⟨v4,e4,h6⟩:=A3 h5
   refine rl.call rfl rfl rfl (A7.embR [0] Pg (Kl e4) (.cells rfl rfl .z1 .nil) rfl rfl (.cons (.dat (A9.rrec)) (.cons (.ptr rfl) .nil)) .bool ?_)
   cases hb : v4
   ·have h7:=A5 h6 hb
    refine rl.done (RW.cond_f rfl (RW.skip (RW.reg (rl.run 2 rfl (rl.done ?_)))))
    cases h7
    exact hB1 _ rfl _ _ (Gh.renN [0] (.cells rfl rfl .z1 .nil) rfl rfl rfl (.cons rfl (.dat (A9.rlst)) (.cons rfl (RnL.fn (.cons (.ptr rfl) .nil)) (.i rfl (.i rfl .nil)))))
   ·have h8:=A4 h6 hb
    refine rl.done (RW.cond_t rfl (RW.sreg (rl.run 2 rfl (rl.done ?_))))
    refine RW.kp [4] [(4,.j s1)] [some ⟨[.j x1],0⟩] rfl rfl ?_
    refine RW.ret ?_
    cases h8
    have h9:=elimL h2 (hE1 _ rfl)
    cases h9
    exact RRetS.mk rfl .int (Gh.renN [0] (.cells rfl rfl .z1 .nil) rfl rfl rfl .nil)
 ·intro y2 hC
  have h2:=elimR h2 hC
  refine RW.sreg (rl.run 1 rfl (rl.done (RW.ret ?_)))
  cases h2
  exact RRetS.mk rfl .int (Gh.renN [0] (.cells rfl rfl .z1 .nil) rfl rfl rfl .nil)
theorem Bh {x0 : List TSeg} {x1 : Int} {r : Bool} (hF : E9 x0 x1 = some r) : C4 Tryz.prog 1 50 [Fa x0,.fn 51 [.ptr 0 0]] [some ⟨[.j x1],0⟩] (.bool r) [some ⟨[.j x1],0⟩]:=by
 refine C4.of_s Ca rfl ?_
 unfold E9 at hF
 refine RW.sreg (rl.run 1 rfl (rl.done (RW.sreg (rl.run 2 rfl ?_))))
 obtain ⟨v1,e1,h1⟩:=A3 hF
 refine rl.call rfl rfl rfl (A7.embR [0] Cy (Cm e1) (.cells rfl rfl .z1 .nil) rfl rfl (.cons (.dat (A9.rlst)) (.cons (RnL.fn (.cons (.ptr rfl) .nil)) .nil)) .int ?_)
 refine rl.run 2 rfl (rl.done (RW.ret ?_))
 cases h1
 exact RRetS.mk rfl .bool (Gh.renN [0] (.cells rfl rfl .z1 .nil) rfl rfl rfl .nil)
theorem Dj {x0 : TLog} {r : List Int} (hF : Q2 x0 = some r) : B3 Tryz.prog 11 [.agg (B5 false x0)] (.lst true 1 (fl (encI true) r) r.length):=by
 refine B3.of_r Xy rfl ?_
 unfold Q2 at hF
 refine RW.sreg (rl.run 2 rfl (rl.done (RW.sreg (rl.run 2 rfl (rl.done (RW.seq (RW.sreg (rl.run 4 rfl (rl.done ?_)))))))))
 refine RW.gh (Gh.nil_t 3 1 rfl) ?_
 obtain ⟨y5,ey5,h2⟩:=A3 hF
 refine RW.cutq (σ:=(List Int)) (fun y2=>[(3,.sl 0 0 y2.length)]) (fun y2=>[some ⟨fl (encI true) y2,1⟩]) (fun y=>y5 = y) (fun _ _ _ _ g h=>RW.gh g h) ?_ ?_
 ·refine RW.blk ?_
  refine RW.iter (σ:=Int × (List Int)) ey5 (fun s1=>[(1,.ptr 0 0),(3,.sl 1 0 s1.2.length),(8,.j (if 11 < x0.Segs then 11 else x0.Segs)),(9,.j s1.1)]) (fun s1=>[some ⟨B5 false x0,0⟩,some ⟨fl (encI true) s1.2,1⟩]) (Gh.ren0 [0,1] (.cells rfl rfl .z2 (.same rfl (ekI.fref _ _) .nil)) rfl (.p rfl rfl (.cons rfl (.slq rfl rfl) (.i rfl (.i rfl .nil))))) (fun s1 B o hS1 hB1 hE1=>?_)
  unfold Ah at hS1
  refine RW.sreg ?_
  refine rl.gen rfl rfl fun b hb=>?_
  cases b
  ·have h3:=A5 hS1 hb
   refine rl.done (RW.seq (RW.cond_f rfl (RW.exit (D0 ?_))))
   cases h3
   exact ⟨_,(hE1 _ rfl).symm,(Gh.ren0 [1] (.same rfl (ekI.fref _ _) .nil) rfl (.cons rfl (.slq rfl rfl) .nil))⟩
  ·have h4:=A4 hS1 hb
   refine rl.done (RW.seq (RW.cond_t rfl (RW.skip (RW.seq (RW.blk (RW.sreg (rl.run 3 rfl (rl.done (RW.sreg (rl.run 3 rfl ?_))))))))))
   obtain ⟨v3,e3,h5⟩:=A3 h4
   refine rl.call rfl rfl rfl (A7.embR [2] Av (Bh e3) (.cells rfl rfl .z1 .nil) rfl rfl (.cons (.dat (A9.rlst)) (.cons (RnL.fn (.cons (.ptr rfl) .nil)) .nil)) .bool ?_)
   cases hb : v3
   ·have h6:=A5 h5 hb
    refine rl.run 1 rfl (rl.done (RW.cond_t rfl (RW.reg (rl.run 3 rfl ?_))))
    obtain ⟨v4,e4,h7⟩:=A3 h6
    refine rl.op (Z4 rfl rfl (V5 (l:=s1.2) (m:=[s1.1]) (o:=true) ekI rfl rfl (P8 (m:=[s1.1]) (o:=true) fkI rfl rfl) rfl (fkI.fst _ _) e4)) ?_
    refine rl.run 1 rfl (rl.done (RW.reg (rl.run 2 rfl (rl.done ?_))))
    cases h7
    exact hB1 _ rfl _ _ (Gh.ren0 [0,4] (.cells rfl rfl .z2 (.same rfl (ekI.fref _ _) .nil)) rfl (.p rfl rfl (.cons rfl (.slq rfl rfl) (.i rfl (.i rfl .nil)))))
   ·have h8:=A4 h5 hb
    refine rl.run 1 rfl (rl.done (RW.cond_f rfl (RW.skip (RW.reg (rl.run 2 rfl (rl.done ?_))))))
    cases h8
    exact hB1 _ rfl _ _ (Gh.ren0 [0,1] (.cells rfl rfl .z2 (.same rfl (ekI.fref _ _) .nil)) rfl (.p rfl rfl (.cons rfl (.slq rfl rfl) (.i rfl (.i rfl .nil)))))
 ·intro y2 hC
  subst hC
  refine RW.sreg (rl.run 2 rfl (rl.done (RW.ret ?_)))
  cases h2
  exact RRet.mk rfl (OutR.ownq ekI rfl rfl) (by first | decide | simp)
theorem Hy {x0 : TLog} {r : List TItem} (hF : Y3 x0 = some r) : B3 Tryz.prog 16 [.agg (B5 false x0)] (.lst true 9 (fl (B2 true) r) r.length):=by
 refine B3.of_r A1j rfl ?_
 unfold Y3 at hF
 refine RW.sreg (rl.run 2 rfl (rl.done (RW.sreg (rl.run 2 rfl (rl.done (RW.seq (RW.sreg (rl.run 4 rfl (rl.done ?_)))))))))
 refine RW.gh (Gh.nil_t 3 9 rfl) ?_
 obtain ⟨y5,ey5,h2⟩:=A3 hF
 refine RW.cutq (σ:=(List TItem)) (fun y2=>[(3,.sl 0 0 y2.length)]) (fun y2=>[some ⟨fl (B2 true) y2,9⟩]) (fun y=>y5 = y) (fun _ _ _ _ g h=>RW.gh g h) ?_ ?_
 ·refine RW.blk ?_
  refine RW.iter (σ:=Int × (List TItem)) ey5 (fun s1=>[(3,.sl 0 0 s1.2.length),(8,Fa x0.Used),(9,.j (x0.Used.length : Int)),(10,.j s1.1)]) (fun s1=>[some ⟨fl (B2 true) s1.2,9⟩]) (Gh.ren0 [1] (.same rfl (B4.fref _ _) .nil) rfl (.cons rfl (.slq rfl rfl) (.cons rfl (.dat (A9.rlst)) (.i rfl (.i rfl .nil))))) (fun s1 B o hS1 hB1 hE1=>?_)
  unfold Bs at hS1
  refine RW.sreg ?_
  refine rl.gen rfl rfl fun b hb=>?_
  cases b
  ·have h3:=A5 hS1 hb
   refine rl.done (RW.seq (RW.cond_f rfl (RW.exit (D0 ?_))))
   cases h3
   exact ⟨_,(hE1 _ rfl).symm,(Gh.ren0 [0] (.same rfl (B4.fref _ _) .nil) rfl (.cons rfl (.slq rfl rfl) .nil))⟩
  ·have h4:=A4 hS1 hb
   refine rl.done (RW.seq (RW.cond_t rfl (RW.skip (RW.seq (RW.blk (RW.sreg ?_))))))
   obtain ⟨v3,e3,h5⟩:=A3 h4
   refine rl.op (C1 (enc:=A8) (o:=false) rfl rfl rfl e3) ?_
   refine rl.op (K5 (off':=0) (vs:=(A8 false v3)) A9 rfl e3 rfl rfl rfl) ?_
   refine rl.run 2 rfl (rl.done (RW.reg (rl.run 3 rfl ?_)))
   obtain ⟨v4,e4,h6⟩:=A3 h5
   refine rl.op (Z4 rfl rfl (V5 (l:=s1.2) (m:=v3.Items) (o:=true) B4 rfl rfl Eh rfl (Cl.fst _ _) e4)) ?_
   refine rl.run 1 rfl (rl.done (RW.reg (rl.run 2 rfl (rl.done ?_))))
   cases h6
   exact hB1 _ rfl _ _ (Gh.ren0 [2] (.same rfl (B4.fref _ _) .nil) rfl (.cons rfl (.slq rfl rfl) (.cons rfl (.dat (A9.rlst)) (.i rfl (.i rfl .nil)))))
 ·intro y2 hC
  subst hC
  refine RW.sreg (rl.run 2 rfl (rl.done (RW.ret ?_)))
  cases h2
  exact RRet.mk rfl (OutR.ownq B4 rfl rfl) (by first | decide | simp)
theorem Pw {x0 : TSeg} {x1 : TSeg} {r : Bool} (hF : W0 x0 x1 = some r) : C4 Tryz.prog 1 59 [.agg (A8 false x0),.ptr 0 0] [some ⟨A8 false x1,0⟩] (.bool r) [some ⟨A8 false x1,0⟩]:=by
 refine C4.of_s A1u rfl ?_
 unfold W0 at hF
 refine RW.sreg (rl.run 2 rfl (rl.done (RW.sreg (rl.run 6 rfl (rl.done (RW.ret ?_))))))
 cases hF
 exact RRetS.mk rfl .bool (Gh.renN [0] (.cells rfl rfl .z3 .nil) rfl rfl rfl .nil)
theorem Dl {x0 : List TSeg} {x1 : TSeg} {r : Int} (hF : H7 x0 x1 = some r) : C4 Tryz.prog 1 117 [Fa x0,.fn 59 [.ptr 0 0]] [some ⟨A8 false x1,0⟩] (.j r) [some ⟨A8 false x1,0⟩]:=by
 refine C4.of_s Dh rfl ?_
 unfold H7 at hF
 refine RW.sreg (rl.run 1 rfl (rl.done (RW.seq (RW.sreg (rl.run 3 rfl (rl.done ?_))))))
 obtain ⟨y5,ey5,h2⟩:=A3 hF
 refine RW.cutq (σ:=Unit) (fun y2=>[]) (fun y2=>[some ⟨A8 false x1,0⟩]) (fun y=>y5 = .inr y) (fun _ _ _ _ g h=>RW.gh g h) ?_ ?_
 ·refine RW.blk ?_
  refine RW.iter (σ:=Int) ey5 (fun s1=>[(0,Fa x0),(1,.fn 59 [.ptr 0 0]),(7,.j (x0.length : Int)),(8,.j s1)]) (fun s1=>[some ⟨A8 false x1,0⟩]) (Gh.renN [0] (.cells rfl rfl .z3 .nil) rfl rfl rfl (.cons rfl (.dat (A9.rlst)) (.cons rfl (RnL.fn (.cons (.ptr rfl) .nil)) (.i rfl (.i rfl .nil))))) (fun s1 B o hS1 hB1 hE1=>?_)
  unfold J7 at hS1
  refine RW.sreg ?_
  refine rl.gen rfl rfl fun b hb=>?_
  cases b
  ·have h3:=A5 hS1 hb
   refine rl.done (RW.seq (RW.cond_f rfl (RW.exit (D0 ?_))))
   cases h3
   exact ⟨_,(hE1 _ rfl).symm,(Gh.renN [0] (.cells rfl rfl .z3 .nil) rfl rfl rfl .nil)⟩
  ·have h4:=A4 hS1 hb
   refine rl.done (RW.seq (RW.cond_t rfl (RW.skip (RW.seq (RW.blk (RW.sreg (rl.run 2 rfl (rl.done (RW.sreg (rl.run 3 rfl ?_))))))))))
   obtain ⟨v3,e3,h5⟩:=A3 h4
   refine rl.op (C1 (enc:=A8) (o:=false) rfl rfl rfl e3) ?_
   refine rl.op (K5 (off':=0) (vs:=(A8 false v3)) A9 rfl e3 rfl rfl rfl) ?_
   obtain ⟨v4,e4,h6⟩:=A3 h5
   refine rl.call rfl rfl rfl (A7.embR [0] Yh (Pw e4) (.cells rfl rfl .z3 .nil) rfl rfl (.cons (.dat (A9.rrec)) (.cons (.ptr rfl) .nil)) .bool ?_)
   cases hb : v4
   ·have h7:=A5 h6 hb
    refine rl.done (RW.cond_f rfl (RW.skip (RW.reg (rl.run 2 rfl (rl.done ?_)))))
    cases h7
    exact hB1 _ rfl _ _ (Gh.renN [0] (.cells rfl rfl .z3 .nil) rfl rfl rfl (.cons rfl (.dat (A9.rlst)) (.cons rfl (RnL.fn (.cons (.ptr rfl) .nil)) (.i rfl (.i rfl .nil)))))
   ·have h8:=A4 h6 hb
    refine rl.done (RW.cond_t rfl (RW.sreg (rl.run 2 rfl (rl.done ?_))))
    refine RW.kp [4] [(4,.j s1)] [some ⟨A8 false x1,0⟩] rfl rfl ?_
    refine RW.ret ?_
    cases h8
    have h9:=elimL h2 (hE1 _ rfl)
    cases h9
    exact RRetS.mk rfl .int (Gh.renN [0] (.cells rfl rfl .z3 .nil) rfl rfl rfl .nil)
 ·intro y2 hC
  have h2:=elimR h2 hC
  refine RW.sreg (rl.run 1 rfl (rl.done (RW.ret ?_)))
  cases h2
  exact RRetS.mk rfl .int (Gh.renN [0] (.cells rfl rfl .z3 .nil) rfl rfl rfl .nil)
theorem Cn {x0 : List TSeg} {x1 : TSeg} {r : Bool} (hF : E3 x0 x1 = some r) : C4 Tryz.prog 1 50 [Fa x0,.fn 59 [.ptr 0 0]] [some ⟨A8 false x1,0⟩] (.bool r) [some ⟨A8 false x1,0⟩]:=by
 refine C4.of_s Ca rfl ?_
 unfold E3 at hF
 refine RW.sreg (rl.run 1 rfl (rl.done (RW.sreg (rl.run 2 rfl ?_))))
 obtain ⟨v1,e1,h1⟩:=A3 hF
 refine rl.call rfl rfl rfl (A7.embR [0] Cy (Dl e1) (.cells rfl rfl .z3 .nil) rfl rfl (.cons (.dat (A9.rlst)) (.cons (RnL.fn (.cons (.ptr rfl) .nil)) .nil)) .int ?_)
 refine rl.run 2 rfl (rl.done (RW.ret ?_))
 cases h1
 exact RRetS.mk rfl .bool (Gh.renN [0] (.cells rfl rfl .z3 .nil) rfl rfl rfl .nil)
theorem Tt {x0 : List UInt8} {r : Bool} (hF : T8 x0 = some r) : B3 Tryz.prog 120 [.str x0] (.bool r):=by
 refine B3.of_r Zs rfl ?_
 unfold T8 at hF
 refine RW.sreg (rl.run 1 rfl (rl.done (RW.sreg (rl.run 4 rfl (rl.done (RW.ret ?_))))))
 cases hF
 exact RRet.mk rfl .bool (by first | decide | simp)
theorem Cd {x0 : List (List UInt8)} {r : Int} (hF : F1 x0 = some r) : B3 Tryz.prog 164 [L_S x0,.fn 120 []] (.j r):=by
 refine B3.of_r Gm rfl ?_
 unfold F1 at hF
 refine RW.sreg (rl.run 1 rfl (rl.done (RW.seq (RW.sreg (rl.run 3 rfl (rl.done ?_))))))
 obtain ⟨y5,ey5,h2⟩:=A3 hF
 refine RW.cutq (σ:=Unit) (fun y2=>[]) (fun y2=>[]) (fun y=>y5 = .inr y) (fun _ _ _ _ g h=>RW.gh g h) ?_ ?_
 ·refine RW.blk ?_
  refine RW.iter (σ:=Int) ey5 (fun s1=>[(0,L_S x0),(1,.fn 120 []),(7,.j (x0.length : Int)),(8,.j s1)]) (fun s1=>[]) (Gh.ren0 [] .nil rfl (.cons rfl (.dat (ekS.rlst)) (.cons rfl (RnL.fn .nil) (.i rfl (.i rfl .nil))))) (fun s1 B o hS1 hB1 hE1=>?_)
  unfold H4 at hS1
  refine RW.sreg ?_
  refine rl.gen rfl rfl fun b hb=>?_
  cases b
  ·have h3:=A5 hS1 hb
   refine rl.done (RW.seq (RW.cond_f rfl (RW.exit (D0 ?_))))
   cases h3
   exact ⟨_,(hE1 _ rfl).symm,(Gh.ren0 [] .nil rfl .nil)⟩
  ·have h4:=A4 hS1 hb
   refine rl.done (RW.seq (RW.cond_t rfl (RW.skip (RW.seq (RW.blk (RW.sreg (rl.run 2 rfl (rl.done (RW.sreg (rl.run 3 rfl ?_))))))))))
   obtain ⟨v3,e3,h5⟩:=A3 h4
   refine rl.op (C1 (enc:=encS) (o:=false) rfl rfl rfl e3) ?_
   refine rl.op (G5 (off':=0) ekS rfl e3 rfl rfl rfl) ?_
   obtain ⟨v4,e4,h6⟩:=A3 h5
   refine rl.call rfl rfl rfl (A7.val (r':=.bool v4) Wj (Tt e4) (.cons .str .nil) .refl ?_)
   cases hb : v4
   ·have h7:=A5 h6 hb
    refine rl.done (RW.cond_f rfl (RW.skip (RW.reg (rl.run 2 rfl (rl.done ?_)))))
    cases h7
    exact hB1 _ rfl _ _ (Gh.ren0 [] .nil rfl (.cons rfl (.dat (ekS.rlst)) (.cons rfl (RnL.fn .nil) (.i rfl (.i rfl .nil)))))
   ·have h8:=A4 h6 hb
    refine rl.done (RW.cond_t rfl (RW.sreg (rl.run 2 rfl (rl.done ?_))))
    refine RW.kp [4] [(4,.j s1)] [] rfl rfl ?_
    refine RW.ret ?_
    cases h8
    have h9:=elimL h2 (hE1 _ rfl)
    cases h9
    exact RRet.mk rfl .int (by first | decide | simp)
 ·intro y2 hC
  have h2:=elimR h2 hC
  refine RW.sreg (rl.run 1 rfl (rl.done (RW.ret ?_)))
  cases h2
  exact RRet.mk rfl .int (by first | decide | simp)
theorem Al {x0 : List (List UInt8)} {r : Bool} (hF : E6 x0 = some r) : B3 Tryz.prog 119 [L_S x0,.fn 120 []] (.bool r):=by
 refine B3.of_r Fb rfl ?_
 unfold E6 at hF
 refine RW.sreg (rl.run 1 rfl (rl.done (RW.sreg (rl.run 2 rfl ?_))))
 obtain ⟨v1,e1,h1⟩:=A3 hF
 refine rl.call rfl rfl rfl (A7.val (r':=.j v1) Fv (Cd e1) (.cons (.lst ekS) (.cons .fn .nil)) .refl ?_)
 refine rl.run 2 rfl (rl.done (RW.ret ?_))
 cases h1
 exact RRet.mk rfl .bool (by first | decide | simp)
theorem C8 {x0 : Int} {x1 : Int} {x2 : Int} {r : Bool} (hF : D9 x0 x1 x2 = some r) : B3 Tryz.prog 57 [.j x0,.j x1,.j x2] (.bool r):=by
 refine B3.of_r A9g rfl ?_
 unfold D9 at hF
 refine RW.sreg (rl.run 1 rfl (rl.done (RW.sreg (rl.run 2 rfl ?_))))
 refine rl.gen rfl rfl fun b hb=>?_
 cases b
 ·have h1:=A5 hF hb
  refine rl.run 6 rfl (rl.done ?_)
  refine RW.kp [6] [(6,.bool false)] [] rfl rfl ?_
  refine RW.ret ?_
  cases h1
  exact RRet.mk rfl .bool (by first | decide | simp)
 ·have h2:=A4 hF hb
  refine rl.run 6 rfl (rl.done ?_)
  refine RW.kp [6] [(6,.bool (decide (x0 ≤ x2)))] [] rfl rfl ?_
  refine RW.ret ?_
  cases h2
  exact RRet.mk rfl .bool (by first | decide | simp)
theorem Mh {x0 : TWrite} {x1 : TDisk} {r : Bool} (hF : P3 x0 x1 = some r) : C4 Tryz.prog 1 122 [.agg (A2 false x0),.ptr 0 0] [some ⟨A6 false x1,0⟩] (.bool r) [some ⟨A6 false x1,0⟩]:=by
 refine C4.of_s Zu rfl ?_
 unfold P3 at hF
 refine RW.sreg (rl.run 2 rfl (rl.done (RW.sreg (rl.run 6 rfl ?_))))
 obtain ⟨v1,e1,h1⟩:=A3 hF
 refine rl.call rfl rfl rfl (A7.val (r':=.bool v1) D8 (C8 e1) (.cons .int (.cons .int (.cons .int .nil))) .refl ?_)
 cases hb : v1
 ·have h2:=A5 h1 hb
  refine rl.run 8 rfl (rl.done ?_)
  refine RW.kp [3] [(3,.bool true)] [some ⟨A6 false x1,0⟩,some ⟨A2 false x0,0⟩] rfl rfl ?_
  refine RW.ret ?_
  cases h2
  exact RRetS.mk rfl .bool (Gh.renN [0] (.cells rfl rfl .z4 .nil) rfl rfl rfl .nil)
 ·have h3:=A4 h1 hb
  refine rl.run 8 rfl (rl.done ?_)
  refine RW.kp [3] [(3,.bool ((x0.Text.length : Int) != 32))] [some ⟨A6 false x1,0⟩,some ⟨A2 false x0,0⟩] rfl rfl ?_
  refine RW.ret ?_
  cases h3
  exact RRetS.mk rfl .bool (Gh.renN [0] (.cells rfl rfl .z4 .nil) rfl rfl rfl .nil)
theorem Cj {x0 : List TWrite} {x1 : TDisk} {r : Int} (hF : F6 x0 x1 = some r) : C4 Tryz.prog 1 165 [Hz x0,.fn 122 [.ptr 0 0]] [some ⟨A6 false x1,0⟩] (.j r) [some ⟨A6 false x1,0⟩]:=by
 refine C4.of_s Hk rfl ?_
 unfold F6 at hF
 refine RW.sreg (rl.run 1 rfl (rl.done (RW.seq (RW.sreg (rl.run 3 rfl (rl.done ?_))))))
 obtain ⟨y5,ey5,h2⟩:=A3 hF
 refine RW.cutq (σ:=Unit) (fun y2=>[]) (fun y2=>[some ⟨A6 false x1,0⟩]) (fun y=>y5 = .inr y) (fun _ _ _ _ g h=>RW.gh g h) ?_ ?_
 ·refine RW.blk ?_
  refine RW.iter (σ:=Int) ey5 (fun s1=>[(0,Hz x0),(1,.fn 122 [.ptr 0 0]),(7,.j (x0.length : Int)),(8,.j s1)]) (fun s1=>[some ⟨A6 false x1,0⟩]) (Gh.renN [0] (.cells rfl rfl .z4 .nil) rfl rfl rfl (.cons rfl (.dat (A1.rlst)) (.cons rfl (RnL.fn (.cons (.ptr rfl) .nil)) (.i rfl (.i rfl .nil))))) (fun s1 B o hS1 hB1 hE1=>?_)
  unfold H8 at hS1
  refine RW.sreg ?_
  refine rl.gen rfl rfl fun b hb=>?_
  cases b
  ·have h3:=A5 hS1 hb
   refine rl.done (RW.seq (RW.cond_f rfl (RW.exit (D0 ?_))))
   cases h3
   exact ⟨_,(hE1 _ rfl).symm,(Gh.renN [0] (.cells rfl rfl .z4 .nil) rfl rfl rfl .nil)⟩
  ·have h4:=A4 hS1 hb
   refine rl.done (RW.seq (RW.cond_t rfl (RW.skip (RW.seq (RW.blk (RW.sreg (rl.run 2 rfl (rl.done (RW.sreg (rl.run 3 rfl ?_))))))))))
   obtain ⟨v3,e3,h5⟩:=A3 h4
   refine rl.op (C1 (enc:=A2) (o:=false) rfl rfl rfl e3) ?_
   refine rl.op (K5 (off':=0) (vs:=(A2 false v3)) A1 rfl e3 rfl rfl rfl) ?_
   obtain ⟨v4,e4,h6⟩:=A3 h5
   refine rl.call rfl rfl rfl (A7.embR [0] Wo (Mh e4) (.cells rfl rfl .z4 .nil) rfl rfl (.cons (.dat (A1.rrec)) (.cons (.ptr rfl) .nil)) .bool ?_)
   cases hb : v4
   ·have h7:=A5 h6 hb
    refine rl.done (RW.cond_f rfl (RW.skip (RW.reg (rl.run 2 rfl (rl.done ?_)))))
    cases h7
    exact hB1 _ rfl _ _ (Gh.renN [0] (.cells rfl rfl .z4 .nil) rfl rfl rfl (.cons rfl (.dat (A1.rlst)) (.cons rfl (RnL.fn (.cons (.ptr rfl) .nil)) (.i rfl (.i rfl .nil)))))
   ·have h8:=A4 h6 hb
    refine rl.done (RW.cond_t rfl (RW.sreg (rl.run 2 rfl (rl.done ?_))))
    refine RW.kp [4] [(4,.j s1)] [some ⟨A6 false x1,0⟩] rfl rfl ?_
    refine RW.ret ?_
    cases h8
    have h9:=elimL h2 (hE1 _ rfl)
    cases h9
    exact RRetS.mk rfl .int (Gh.renN [0] (.cells rfl rfl .z4 .nil) rfl rfl rfl .nil)
 ·intro y2 hC
  have h2:=elimR h2 hC
  refine RW.sreg (rl.run 1 rfl (rl.done (RW.ret ?_)))
  cases h2
  exact RRetS.mk rfl .int (Gh.renN [0] (.cells rfl rfl .z4 .nil) rfl rfl rfl .nil)
theorem Ay {x0 : List TWrite} {x1 : TDisk} {r : Bool} (hF : E7 x0 x1 = some r) : C4 Tryz.prog 1 121 [Hz x0,.fn 122 [.ptr 0 0]] [some ⟨A6 false x1,0⟩] (.bool r) [some ⟨A6 false x1,0⟩]:=by
 refine C4.of_s Fo rfl ?_
 unfold E7 at hF
 refine RW.sreg (rl.run 1 rfl (rl.done (RW.sreg (rl.run 2 rfl ?_))))
 obtain ⟨v1,e1,h1⟩:=A3 hF
 refine rl.call rfl rfl rfl (A7.embR [0] Gp (Cj e1) (.cells rfl rfl .z4 .nil) rfl rfl (.cons (.dat (A1.rlst)) (.cons (RnL.fn (.cons (.ptr rfl) .nil)) .nil)) .int ?_)
 refine rl.run 2 rfl (rl.done (RW.ret ?_))
 cases h1
 exact RRetS.mk rfl .bool (Gh.renN [0] (.cells rfl rfl .z4 .nil) rfl rfl rfl .nil)
theorem Cr {x0 : TDisk} {r : Bool} (hF : R2 x0 = some r) : B3 Tryz.prog 55 [.agg (A6 false x0)] (.bool r):=by
 refine B3.of_r A38 rfl ?_
 unfold R2 at hF
 refine RW.sreg (rl.run 2 rfl (rl.done (RW.seq (RW.seq ?_))))
 obtain ⟨y1,ey1,h1⟩:=A3 hF
 refine RW.cutq (σ:=Bool) (fun y1=>[(1,.ptr 0 0),(13,.bool y1)]) (fun y1=>[some ⟨A6 false x0,0⟩]) (fun y=>y1 = y) (fun _ _ _ _ g h=>RW.gh g h) ?_ ?_
 ·refine RW.reg ?_
  refine rl.run 3 rfl ?_
  obtain ⟨v2,e2,h2⟩:=A3 ey1
  refine rl.call rfl rfl rfl (A7.val (r':=.bool v2) D8 (C8 e2) (.cons .int (.cons .int (.cons .int .nil))) .refl ?_)
  cases hb : v2
  ·have h3:=A5 h2 hb
   refine rl.run 7 rfl (rl.done ?_)
   cases h3
   exact ⟨_,rfl,(Gh.ren0 [0] (.cells rfl rfl .z4 .nil) rfl (.p rfl rfl (.b rfl .nil)))⟩
  ·have h4:=A4 h2 hb
   refine rl.run 5 rfl ?_
   refine rl.gen rfl rfl fun b hb=>?_
   cases b
   ·have h5:=A5 h4 hb
    refine rl.run 1 rfl (rl.done ?_)
    cases h5
    exact ⟨_,rfl,(Gh.ren0 [0] (.cells rfl rfl .z4 .nil) rfl (.p rfl rfl (.b rfl .nil)))⟩
   ·have h6:=A4 h4 hb
    refine rl.run 1 rfl (rl.done ?_)
    cases h6
    exact ⟨_,rfl,(Gh.ren0 [0] (.cells rfl rfl .z4 .nil) rfl (.p rfl rfl (.b rfl .nil)))⟩
 ·intro y hC
  subst hC
  cases hb : y1
  ·have h7:=A5 h1 hb
   refine RW.cond_f rfl (RW.skip (RW.seq (RW.sreg (rl.run 2 rfl ?_))))
   obtain ⟨v3,e3,h8⟩:=A3 h7
   refine rl.call rfl rfl rfl (A7.val (r':=.bool v3) Es (Al e3) (.cons (.lst ekS) (.cons .fn .nil)) .refl ?_)
   cases hb : v3
   ·have h9:=A5 h8 hb
    refine rl.done (RW.cond_f rfl (RW.skip (RW.sreg (rl.run 3 rfl ?_))))
    obtain ⟨v4,e4,h10⟩:=A3 h9
    refine rl.call rfl rfl rfl (A7.embR [0] Fh (Ay e4) (.cells rfl rfl .z4 .nil) rfl rfl (.cons (.dat (A1.rlst)) (.cons (RnL.fn (.cons (.ptr rfl) .nil)) .nil)) .bool ?_)
    refine rl.run 2 rfl (rl.done (RW.ret ?_))
    cases h10
    exact RRet.mk rfl .bool (by first | decide | simp)
   ·have h11:=A4 h8 hb
    refine rl.done (RW.cond_t rfl (RW.sreg (rl.run 1 rfl (rl.done (RW.ret ?_)))))
    cases h11
    exact RRet.mk rfl .bool (by first | decide | simp)
  ·have h12:=A4 h1 hb
   refine RW.cond_t rfl (RW.sreg (rl.run 1 rfl (rl.done (RW.ret ?_))))
   cases h12
   exact RRet.mk rfl .bool (by first | decide | simp)
theorem Yv {x0 : TDisk} {r : Int} (hF : En x0 = some r) : B3 Tryz.prog 56 [.agg (A6 false x0)] (.j r):=by
 refine B3.of_r A3k rfl ?_
 unfold En at hF
 refine RW.sreg (rl.run 2 rfl (rl.done (RW.sreg (rl.run 6 rfl (rl.done (RW.seq (RW.sreg (rl.run 1 rfl ?_))))))))
 obtain ⟨v1,e1,h1⟩:=A3 hF
 refine rl.call rfl rfl rfl (A7.val (r':=.bool v1) D8 (C8 e1) (.cons .int (.cons .int (.cons .int .nil))) .refl ?_)
 cases hb : v1
 ·have h2:=A5 h1 hb
  refine rl.run 1 rfl (rl.done (RW.cond_t rfl (RW.sreg (rl.run 1 rfl (rl.done ?_)))))
  refine RW.kp [2] [(2,.j 0)] [some ⟨A6 false x0,0⟩] rfl rfl ?_
  refine RW.ret ?_
  cases h2
  exact RRet.mk rfl .int (by first | decide | simp)
 ·have h3:=A4 h1 hb
  refine rl.run 1 rfl (rl.done (RW.cond_f rfl (RW.skip (RW.sreg (rl.run 2 rfl (rl.done ?_))))))
  refine RW.kp [2] [(2,.j (w64 (Int.tdiv (w64 ((x0.Sectors.length : Int) - 8)) 8)))] [some ⟨A6 false x0,0⟩] rfl rfl ?_
  refine RW.ret ?_
  cases h3
  exact RRet.mk rfl .int (by first | decide | simp)
set_option maxHeartbeats 2000000 in
theorem M5 {x0 : List UInt8} {x1 : Int} {r : Int × Int × Bool} (hF : J2 x0 x1 = some r) : B3 Tryz.prog 103 [.str x0,.j x1] (.tup [.j r.1,.j r.2.1,.bool r.2.2]):=by
 refine B3.of_r A0d rfl ?_
 unfold J2 at hF
 refine RW.sreg (rl.run 3 rfl (rl.done (RW.seq (RW.sreg (rl.run 3 rfl ?_)))))
 obtain ⟨v1,e1,h1⟩:=A3 hF
 refine rl.call rfl rfl rfl (A7.val (r':=.bool v1) D8 (C8 e1) (.cons .int (.cons .int (.cons .int .nil))) .refl ?_)
 cases hb : v1
 ·have h2:=A5 h1 hb
  refine rl.run 1 rfl (rl.done (RW.cond_t rfl (RW.sreg (rl.run 3 rfl (rl.done (RW.ret ?_))))))
  cases h2
  exact RRet.mk rfl (OutT.tup (.cons .int (.cons .int (.cons .bool .nil)))) (by first | decide | simp)
 ·have h3:=A4 h1 hb
  refine rl.run 1 rfl (rl.done (RW.cond_f rfl (RW.skip (RW.sreg (rl.run 1 rfl (rl.done (RW.seq (RW.sreg (rl.run 1 rfl (rl.done ?_))))))))))
  obtain ⟨y8,ey8,h5⟩:=A3 h3
  refine RW.cutq (σ:=Unit) (fun y3=>[]) (fun y3=>[]) (fun y=>y8 = .inr y) (fun _ _ _ _ g h=>RW.gh g h) ?_ ?_
  ·refine RW.blk ?_
   refine RW.iter (σ:=Int × Int) ey8 (fun s2=>[(0,.str x0),(1,.j x1),(7,.j s2.1),(8,.j s2.2)]) (fun s2=>[]) (Gh.ren0 [] .nil rfl (.s rfl (.i rfl (.i rfl (.i rfl .nil))))) (fun s2 B o hS4 hB4 hE4=>?_)
   unfold M8 at hS4
   refine RW.seq (RW.seq ?_)
   obtain ⟨y4,ey4,h6⟩:=A3 hS4
   refine RW.cutq (σ:=Bool) (fun y4=>[(0,.str x0),(1,.j x1),(7,.j s2.1),(8,.j s2.2),(24,.bool y4)]) (fun y4=>[]) (fun y=>y4 = y) (fun _ _ _ _ g h=>RW.gh g h) ?_ ?_
   ·refine RW.reg ?_
    refine rl.run 1 rfl ?_
    refine rl.gen rfl rfl fun b hb=>?_
    cases b
    ·have h7:=A5 ey4 hb
     refine rl.run 8 rfl (rl.done ?_)
     cases h7
     exact ⟨_,rfl,(Gh.ren0 [] .nil rfl (.s rfl (.i rfl (.i rfl (.i rfl (.b rfl .nil))))))⟩
    ·have h8:=A4 ey4 hb
     refine rl.run 6 rfl ?_
     refine rl.gen rfl rfl fun b hb=>?_
     cases b
     ·have h9:=A5 h8 hb
      refine rl.run 1 rfl (rl.done ?_)
      cases h9
      exact ⟨_,rfl,(Gh.ren0 [] .nil rfl (.s rfl (.i rfl (.i rfl (.i rfl (.b rfl .nil))))))⟩
     ·have h10:=A4 h8 hb
      refine rl.run 1 rfl (rl.done ?_)
      cases h10
      exact ⟨_,rfl,(Gh.ren0 [] .nil rfl (.s rfl (.i rfl (.i rfl (.i rfl (.b rfl .nil))))))⟩
   ·intro y hC
    subst hC
    cases hb : y4
    ·have h11:=A5 h6 hb
     refine RW.cond_f rfl (RW.exit (D0 ?_))
     cases h11
     exact ⟨_,(hE4 _ rfl).symm,(Gh.ren0 [] .nil rfl .nil)⟩
    ·have h12:=A4 h6 hb
     refine RW.cond_t rfl (RW.skip (RW.seq (RW.blk (RW.sreg (rl.run 4 rfl ?_)))))
     obtain ⟨v5,e5,h13⟩:=A3 h12
     refine rl.op (Xa rfl rfl e5) ?_
     refine rl.run 2 rfl (rl.done (RW.sreg (rl.run 5 rfl ?_)))
     obtain ⟨v6,e6,h14⟩:=A3 h13
     refine rl.op (Acc rfl rfl e6) ?_
     refine rl.run 2 rfl (rl.done ?_)
     refine RW.kp [0,1,7,8,9] [(0,.str x0),(1,.j x1),(7,.j (orv .i64 s2.1 v6)),(8,.j s2.2),(9,.j (w64 (v5.toNat : Int)))] [] rfl rfl ?_
     refine RW.seq (RW.sreg (rl.run 1 rfl ?_))
     refine rl.gen rfl rfl fun b hb=>?_
     cases b
     ·have h15:=A5 h14 hb
      refine rl.done (RW.cond_f rfl (RW.skip (RW.seq (RW.seq ?_))))
      obtain ⟨y7,ey7,h16⟩:=A3 h15
      refine RW.cutq (σ:=Bool) (fun y7=>[(1,.j x1),(7,.j (orv .i64 s2.1 v6)),(8,.j s2.2),(51,.bool y7)]) (fun y7=>[]) (fun y=>y7 = y) (fun _ _ _ _ g h=>RW.gh g h) ?_ ?_
      ·refine RW.reg ?_
       refine rl.run 1 rfl ?_
       refine rl.gen rfl rfl fun b hb=>?_
       cases b
       ·have h17:=A5 ey7 hb
        refine rl.run 6 rfl ?_
        refine rl.gen rfl rfl fun b hb=>?_
        cases b
        ·have h18:=A5 h17 hb
         refine rl.run 1 rfl (rl.done ?_)
         cases h18
         exact ⟨_,rfl,(Gh.ren0 [] .nil rfl (.i rfl (.i rfl (.i rfl (.b rfl .nil)))))⟩
        ·have h19:=A4 h17 hb
         refine rl.run 1 rfl (rl.done ?_)
         cases h19
         exact ⟨_,rfl,(Gh.ren0 [] .nil rfl (.i rfl (.i rfl (.i rfl (.b rfl .nil)))))⟩
       ·have h20:=A4 ey7 hb
        refine rl.run 2 rfl ?_
        refine rl.gen rfl rfl fun b hb=>?_
        cases b
        ·have h21:=A5 h20 hb
         refine rl.run 3 rfl ?_
         refine rl.gen rfl rfl fun b hb=>?_
         cases b
         ·have h22:=A5 h21 hb
          refine rl.run 1 rfl (rl.done ?_)
          cases h22
          exact ⟨_,rfl,(Gh.ren0 [] .nil rfl (.i rfl (.i rfl (.i rfl (.b rfl .nil)))))⟩
         ·have h23:=A4 h21 hb
          refine rl.run 1 rfl (rl.done ?_)
          cases h23
          exact ⟨_,rfl,(Gh.ren0 [] .nil rfl (.i rfl (.i rfl (.i rfl (.b rfl .nil)))))⟩
        ·have h24:=A4 h20 hb
         refine rl.run 5 rfl (rl.done ?_)
         cases h24
         exact ⟨_,rfl,(Gh.ren0 [] .nil rfl (.i rfl (.i rfl (.i rfl (.b rfl .nil)))))⟩
      ·intro y hC
       subst hC
       cases hb : y7
       ·have h25:=A5 h16 hb
        refine RW.cond_f rfl (RW.skip (RW.sreg (rl.run 8 rfl (rl.done (RW.ret ?_)))))
        cases h25
        have h26:=elimL h5 (hE4 _ rfl)
        cases h26
        exact RRet.mk rfl (OutT.tup (.cons .int (.cons .int (.cons .bool .nil)))) (by first | decide | simp)
       ·have h27:=A4 h16 hb
        refine RW.cond_t rfl (RW.sreg (rl.run 3 rfl (rl.done (RW.ret ?_))))
        cases h27
        have h28:=elimL h5 (hE4 _ rfl)
        cases h28
        exact RRet.mk rfl (OutT.tup (.cons .int (.cons .int (.cons .bool .nil)))) (by first | decide | simp)
     ·have h29:=A4 h14 hb
      refine rl.done (RW.cond_t rfl (RW.exit (D0 (RW.reg (rl.run 3 rfl (rl.done ?_))))))
      cases h29
      exact hB4 _ rfl _ _ (Gh.ren0 [] .nil rfl (.s rfl (.i rfl (.i rfl (.i rfl .nil)))))
  ·intro y3 hC
   have h5:=elimR h5 hC
   refine RW.sreg (rl.run 3 rfl (rl.done (RW.ret ?_)))
   cases h5
   exact RRet.mk rfl (OutT.tup (.cons .int (.cons .int (.cons .bool .nil)))) (by first | decide | simp)
theorem Y6 {x0 : List UInt8} {x1 : Int} {r : (List UInt8) × Int × Bool} (hF : K3 x0 x1 = some r) : B3 Tryz.prog 101 [.str x0,.j x1] (.tup [.str r.1,.j r.2.1,.bool r.2.2]):=by
 refine B3.of_r Vc rfl ?_
 unfold K3 at hF
 refine RW.sreg (rl.run 3 rfl (rl.done (RW.sreg (rl.run 2 rfl ?_))))
 obtain ⟨v1,e1,h1⟩:=A3 hF
 refine rl.call rfl rfl rfl (A7.val (r':=.tup [.j v1.1,.j v1.2.1,.bool v1.2.2]) Q3 (M5 e1) (.cons .str (.cons .int .nil)) (FlL.tup (.cons .refl (.cons .refl (.cons .refl .nil)))) ?_)
 refine rl.run 7 rfl (rl.done ?_)
 refine RW.kp [0,7,8,9] [(0,.str x0),(7,.j v1.1),(8,.j v1.2.1),(9,.bool v1.2.2)] [] rfl rfl ?_
 refine RW.seq (RW.seq ?_)
 obtain ⟨y2,ey2,h2⟩:=A3 h1
 refine RW.cutq (σ:=Bool) (fun y2=>[(0,.str x0),(7,.j v1.1),(8,.j v1.2.1),(30,.bool y2)]) (fun y2=>[]) (fun y=>y2 = y) (fun _ _ _ _ g h=>RW.gh g h) ?_ ?_
 ·refine RW.reg ?_
  refine rl.run 3 rfl ?_
  cases hb : (!v1.2.2)
  ·have h3:=A5 ey2 hb
   refine rl.run 1 rfl ?_
   refine rl.gen rfl rfl fun b hb=>?_
   cases b
   ·have h4:=A5 h3 hb
    refine rl.run 7 rfl ?_
    refine rl.gen rfl rfl fun b hb=>?_
    cases b
    ·have h5:=A5 h4 hb
     refine rl.run 1 rfl (rl.done ?_)
     cases h5
     exact ⟨_,rfl,(Gh.ren0 [] .nil rfl (.s rfl (.i rfl (.i rfl (.b rfl .nil)))))⟩
    ·have h6:=A4 h4 hb
     refine rl.run 1 rfl (rl.done ?_)
     cases h6
     exact ⟨_,rfl,(Gh.ren0 [] .nil rfl (.s rfl (.i rfl (.i rfl (.b rfl .nil)))))⟩
   ·have h7:=A4 h3 hb
    refine rl.run 9 rfl (rl.done ?_)
    cases h7
    exact ⟨_,rfl,(Gh.ren0 [] .nil rfl (.s rfl (.i rfl (.i rfl (.b rfl .nil)))))⟩
  ·have h8:=A4 ey2 hb
   refine rl.run 11 rfl (rl.done ?_)
   cases h8
   exact ⟨_,rfl,(Gh.ren0 [] .nil rfl (.s rfl (.i rfl (.i rfl (.b rfl .nil)))))⟩
 ·intro y hC
  subst hC
  cases hb : y2
  ·have h9:=A5 h2 hb
   refine RW.cond_f rfl (RW.skip (RW.sreg (rl.run 5 rfl ?_)))
   obtain ⟨v3,e3,h10⟩:=A3 h9
   refine rl.op (Jy rfl rfl rfl Mb e3) ?_
   refine rl.run 6 rfl (rl.done ?_)
   refine RW.kp [4,5,6] [(4,.str v3),(5,.j (w64 (v1.2.1 + v1.1))),(6,.bool true)] [] rfl rfl ?_
   refine RW.ret ?_
   cases h10
   exact RRet.mk rfl (OutT.tup (.cons .str (.cons .int (.cons .bool .nil)))) (by first | decide | simp)
  ·have h11:=A4 h2 hb
   refine RW.cond_t rfl (RW.sreg (rl.run 3 rfl (rl.done (RW.ret ?_))))
   cases h11
   exact RRet.mk rfl (OutT.tup (.cons .str (.cons .int (.cons .bool .nil)))) (by first | decide | simp)
theorem Ea {x0 : TFrame} {r : Bool} (hF : T0 x0 = some r) : B3 Tryz.prog 136 [.agg (B9 false x0)] (.bool r):=by
 refine B3.of_r A0n rfl ?_
 unfold T0 at hF
 refine RW.sreg (rl.run 2 rfl (rl.done (RW.seq ?_)))
 obtain ⟨y1,ey1,h1⟩:=A3 hF
 refine RW.cutq (σ:=Bool) (fun y1=>[(2,.bool y1)]) (fun y1=>[]) (fun y=>y1 = y) (fun _ _ _ _ g h=>RW.gh g h) ?_ ?_
 ·refine RW.reg ?_
  refine rl.run 2 rfl ?_
  obtain ⟨v2,e2,h2⟩:=A3 ey1
  refine rl.call rfl rfl rfl (A7.val (r':=.bool v2) D8 (C8 e2) (.cons .int (.cons .int (.cons .int .nil))) .refl ?_)
  cases hb : v2
  ·have h3:=A5 h2 hb
   refine rl.run 12 rfl (rl.done ?_)
   cases h3
   exact ⟨_,rfl,(Gh.ren0 [] .nil rfl (.b rfl .nil))⟩
  ·have h4:=A4 h2 hb
   refine rl.run 3 rfl ?_
   obtain ⟨v3,e3,h5⟩:=A3 h4
   refine rl.call rfl rfl rfl (A7.val (r':=.bool v3) D8 (C8 e3) (.cons .int (.cons .int (.cons .int .nil))) .refl ?_)
   cases hb : v3
   ·have h6:=A5 h5 hb
    refine rl.run 8 rfl (rl.done ?_)
    cases h6
    exact ⟨_,rfl,(Gh.ren0 [] .nil rfl (.b rfl .nil))⟩
   ·have h7:=A4 h5 hb
    refine rl.run 5 rfl ?_
    obtain ⟨v4,e4,h8⟩:=A3 h7
    refine rl.call rfl rfl rfl (A7.val (r':=.bool v4) D8 (C8 e4) (.cons .int (.cons .int (.cons .int .nil))) .refl ?_)
    refine rl.run 2 rfl (rl.done ?_)
    cases h8
    exact ⟨_,rfl,(Gh.ren0 [] .nil rfl (.b rfl .nil))⟩
 ·intro y hC
  subst hC
  refine RW.ret ?_
  cases h1
  exact RRet.mk rfl .bool (by first | decide | simp)
theorem Wm {x0 : Int} {x1 : List UInt8} {r : Int} (hF : Au x0 x1 = some r) : B3 Tryz.prog 177 [.int .u32 x0,.str x1] (.int .u32 r):=by
 refine B3.of_r A29 rfl ?_
 unfold Au at hF
 refine RW.sreg (rl.run 1 rfl (rl.done (RW.seq (RW.sreg (rl.run 3 rfl (rl.done ?_))))))
 obtain ⟨y7,ey7,h2⟩:=A3 hF
 refine RW.cutq (σ:=Int) (fun y2=>[(0,.int .u32 y2)]) (fun y2=>[]) (fun y=>y7 = y) (fun _ _ _ _ g h=>RW.gh g h) ?_ ?_
 ·refine RW.blk ?_
  refine RW.iter (σ:=Int × Int) ey7 (fun s1=>[(0,.int .u32 s1.1),(1,.str x1),(8,.j (x1.length : Int)),(9,.j s1.2)]) (fun s1=>[]) (Gh.ren0 [] .nil rfl (.i rfl (.s rfl (.i rfl (.i rfl .nil))))) (fun s1 B o hS1 hB1 hE1=>?_)
  unfold X7 at hS1
  refine RW.sreg ?_
  refine rl.gen rfl rfl fun b hb=>?_
  cases b
  ·have h3:=A5 hS1 hb
   refine rl.done (RW.seq (RW.cond_f rfl (RW.exit (D0 ?_))))
   cases h3
   exact ⟨_,(hE1 _ rfl).symm,(Gh.ren0 [] .nil rfl (.i rfl .nil))⟩
  ·have h4:=A4 hS1 hb
   refine rl.done (RW.seq (RW.cond_t rfl (RW.skip (RW.seq (RW.blk (RW.sreg (rl.run 2 rfl (rl.done (RW.sreg (rl.run 3 rfl ?_))))))))))
   obtain ⟨v3,e3,h5⟩:=A3 h4
   refine rl.op (Xa rfl rfl e3) ?_
   refine rl.run 3 rfl (rl.done (RW.sreg (rl.run 1 rfl (rl.done ?_))))
   obtain ⟨y6,ey6,h7⟩:=A3 h5
   refine RW.cutq (σ:=Int) (fun y5=>[(0,.int .u32 y5),(1,.str x1),(8,.j (x1.length : Int)),(9,.j s1.2)]) (fun y5=>[]) (fun y=>y6 = y) (fun _ _ _ _ g h=>RW.gh g h) ?_ ?_
   ·refine RW.blk ?_
    refine RW.iter (σ:=Int × Int) ey6 (fun s4=>[(0,.int .u32 s4.1),(1,.str x1),(8,.j (x1.length : Int)),(9,.j s1.2),(18,.j s4.2)]) (fun s4=>[]) (Gh.ren0 [] .nil rfl (.i rfl (.s rfl (.i rfl (.i rfl (.i rfl .nil)))))) (fun s4 B o hS6 hB6 hE6=>?_)
    unfold X8 at hS6
    refine RW.sreg ?_
    refine rl.gen rfl rfl fun b hb=>?_
    cases b
    ·have h8:=A5 hS6 hb
     refine rl.done (RW.seq (RW.cond_f rfl (RW.exit (D0 ?_))))
     cases h8
     exact ⟨_,(hE6 _ rfl).symm,(Gh.ren0 [] .nil rfl (.i rfl (.s rfl (.i rfl (.i rfl .nil)))))⟩
    ·have h9:=A4 hS6 hb
     refine rl.done (RW.seq (RW.cond_t rfl (RW.skip (RW.seq (RW.blk (RW.sreg (rl.run 2 rfl ?_)))))))
     refine rl.gen rfl rfl fun b hb=>?_
     cases b
     ·have h10:=A5 h9 hb
      refine rl.run 1 rfl (rl.done (RW.sreg (rl.run 3 rfl (rl.done (RW.sreg (rl.run 1 rfl (rl.done (RW.cond_f rfl (RW.skip (RW.reg (rl.run 2 rfl ?_)))))))))))
      refine rl.done ?_
      cases h10
      exact hB6 _ rfl _ _ (Gh.ren0 [] .nil rfl (.i rfl (.s rfl (.i rfl (.i rfl (.i rfl .nil))))))
     ·have h11:=A4 h9 hb
      refine rl.run 1 rfl (rl.done (RW.sreg (rl.run 3 rfl (rl.done (RW.sreg (rl.run 1 rfl (rl.done (RW.cond_t rfl (RW.reg (rl.run 3 rfl (rl.done ?_)))))))))))
      refine RW.reg (rl.run 2 rfl (rl.done ?_))
      cases h11
      exact hB6 _ rfl _ _ (Gh.ren0 [] .nil rfl (.i rfl (.s rfl (.i rfl (.i rfl (.i rfl .nil))))))
   ·intro y5 hC
    subst hC
    refine RW.reg (rl.run 2 rfl (rl.done ?_))
    cases h7
    exact hB1 _ rfl _ _ (Gh.ren0 [] .nil rfl (.i rfl (.s rfl (.i rfl (.i rfl .nil)))))
 ·intro y2 hC
  subst hC
  refine RW.sreg (rl.run 2 rfl (rl.done (RW.ret ?_)))
  cases h2
  exact RRet.mk rfl .int (by first | decide | simp)
theorem A14 {x0 : List UInt8} {r : Int} (hF : Dw x0 = some r) : B3 Tryz.prog 152 [.str x0] (.int .u32 r):=by
 refine B3.of_r A50 rfl ?_
 unfold Dw at hF
 refine RW.sreg (rl.run 1 rfl (rl.done (RW.sreg (rl.run 1 rfl ?_))))
 obtain ⟨v1,e1,h1⟩:=A3 hF
 refine rl.call rfl rfl rfl (A7.val (r':=.int .u32 v1) Zi (Wm e1) (.cons .int (.cons .str .nil)) .refl ?_)
 refine rl.run 1 rfl (rl.done (RW.ret ?_))
 cases h1
 exact RRet.mk rfl .int (by first | decide | simp)
theorem A30 {x0 : List UInt8} {r : List UInt8} (hF : Ev x0 = some r) : B3 Tryz.prog 96 [.str x0] (.str r):=by
 refine B3.of_r A6g rfl ?_
 unfold Ev at hF
 refine RW.sreg (rl.run 1 rfl (rl.done (RW.sreg (rl.run 1 rfl ?_))))
 obtain ⟨v1,e1,h1⟩:=A3 hF
 refine rl.call rfl rfl rfl (A7.val (r':=.int .u32 v1) A3c (A14 e1) (.cons .str .nil) .refl ?_)
 refine rl.run 1 rfl (rl.done (RW.sreg (rl.run 12 rfl ?_)))
 refine rl.op (Ja (o:=true) (l:=[IntKind.u8.wrap (shrv .u32 v1 24),IntKind.u8.wrap (shrv .u32 v1 16),IntKind.u8.wrap (shrv .u32 v1 8),IntKind.u8.wrap v1]) rfl rfl) ?_
 refine rl.run 1 rfl (rl.done ?_)
 refine RW.kp [2] [(2,.str ([IntKind.u8.wrap (shrv .u32 v1 24),IntKind.u8.wrap (shrv .u32 v1 16),IntKind.u8.wrap (shrv .u32 v1 8),IntKind.u8.wrap v1].map ofI))] [some ⟨fl (encB true) [IntKind.u8.wrap (shrv .u32 v1 24),IntKind.u8.wrap (shrv .u32 v1 16),IntKind.u8.wrap (shrv .u32 v1 8),IntKind.u8.wrap v1],1⟩] rfl rfl ?_
 refine RW.ret ?_
 cases h1
 exact RRet.mk rfl .str (by first | decide | simp)
theorem Yn {x0 : List UInt8} {r : (List UInt8) × Bool} (hF : Ci x0 = some r) : B3 Tryz.prog 143 [.str x0] (.tup [.str r.1,.bool r.2]):=by
 refine B3.of_r A3d rfl ?_
 unfold Ci at hF
 refine RW.sreg (rl.run 2 rfl (rl.done (RW.seq (RW.sreg (rl.run 2 rfl ?_)))))
 refine rl.gen rfl rfl fun b hb=>?_
 cases b
 ·have h1:=A5 hF hb
  refine rl.done (RW.cond_f rfl (RW.skip (RW.sreg (rl.run 2 rfl ?_))))
  obtain ⟨v1,e1,h2⟩:=A3 h1
  refine rl.call rfl rfl rfl (A7.val (r':=.str v1) A4q (A30 e1) (.cons .str .nil) .refl ?_)
  obtain ⟨v2,e2,h3⟩:=A3 h2
  refine rl.op (U3 rfl rfl e2) ?_
  refine rl.run 2 rfl (rl.done (RW.ret ?_))
  cases h3
  exact RRet.mk rfl (OutT.tup (.cons .str (.cons .bool .nil))) (by first | decide | simp)
 ·have h4:=A4 hF hb
  refine rl.done (RW.cond_t rfl (RW.sreg (rl.run 2 rfl (rl.done (RW.ret ?_)))))
  cases h4
  exact RRet.mk rfl (OutT.tup (.cons .str (.cons .bool .nil))) (by first | decide | simp)
theorem Ei {x0 : Int} {r : List UInt8} (hF : T1 x0 = some r) : B3 Tryz.prog 95 [.j x0] (.str r):=by
 refine B3.of_r A18 rfl ?_
 unfold T1 at hF
 refine RW.sreg (rl.run 1 rfl (rl.done (RW.sreg (rl.run 2 rfl (rl.done (RW.seq ?_))))))
 refine RW.gh (Gh.nil_t 3 1 rfl) ?_
 obtain ⟨y4,ey4,h2⟩:=A3 hF
 refine RW.cutq (σ:=Int × (List Int)) (fun y2=>[(0,.j y2.1),(3,.sl 0 0 y2.2.length)]) (fun y2=>[some ⟨fl (encB true) y2.2,1⟩]) (fun y=>y4 = y) (fun _ _ _ _ g h=>RW.gh g h) ?_ ?_
 ·refine RW.blk ?_
  refine RW.iter (σ:=Int × (List Int)) ey4 (fun s1=>[(0,.j s1.1),(3,.sl 0 0 s1.2.length)]) (fun s1=>[some ⟨fl (encB true) s1.2,1⟩]) (Gh.ren0 [0] (.same rfl (ekB.fref _ _) .nil) rfl (.i rfl (.cons rfl (.slq rfl rfl) .nil))) (fun s1 B o hS1 hB1 hE1=>?_)
  unfold R7 at hS1
  refine RW.seq (RW.sreg (rl.run 1 rfl ?_))
  refine rl.gen rfl rfl fun b hb=>?_
  cases b
  ·have h3:=A5 hS1 hb
   refine rl.done (RW.cond_f rfl (RW.exit (D0 ?_)))
   cases h3
   exact ⟨_,(hE1 _ rfl).symm,(Gh.ren0 [0] (.same rfl (ekB.fref _ _) .nil) rfl (.i rfl (.cons rfl (.slq rfl rfl) .nil)))⟩
  ·have h4:=A4 hS1 hb
   refine rl.done (RW.cond_t rfl (RW.skip (RW.blk (RW.sreg (rl.run 6 rfl ?_)))))
   obtain ⟨v3,e3,h5⟩:=A3 h4
   refine rl.op (Z4 rfl rfl (V5 (l:=s1.2) (m:=[IntKind.u8.wrap (orv .i64 (andv .i64 s1.1 127) 128)]) (o:=true) ekB rfl rfl (P8 (m:=[IntKind.u8.wrap (orv .i64 (andv .i64 s1.1 127) 128)]) (o:=true) fkB rfl rfl) rfl (fkB.fst _ _) e3)) ?_
   refine rl.run 1 rfl (rl.done (RW.reg (rl.run 3 rfl (rl.done ?_))))
   cases h5
   exact hB1 _ rfl _ _ (Gh.ren0 [2] (.same rfl (ekB.fref _ _) .nil) rfl (.i rfl (.cons rfl (.slq rfl rfl) .nil)))
 ·intro y2 hC
  subst hC
  refine RW.sreg (rl.run 4 rfl ?_)
  obtain ⟨v5,e5,h6⟩:=A3 h2
  refine rl.op (Z4 rfl rfl (V5 (l:=y4.2) (m:=[IntKind.u8.wrap y4.1]) (o:=true) ekB rfl rfl (P8 (m:=[IntKind.u8.wrap y4.1]) (o:=true) fkB rfl rfl) rfl (fkB.fst _ _) e5)) ?_
  refine rl.op (Ja (o:=true) (l:=v5) rfl rfl) ?_
  refine rl.run 1 rfl (rl.done (RW.ret ?_))
  cases h6
  exact RRet.mk rfl .str (by first | decide | simp)
theorem Fy {x0 : TFrame} {r : (List UInt8) × Bool} (hF : M6 x0 = some r) : B3 Tryz.prog 83 [.agg (B9 false x0)] (.tup [.str r.1,.bool r.2]):=by
 refine B3.of_r Va rfl ?_
 unfold M6 at hF
 refine RW.sreg (rl.run 3 rfl (rl.done (RW.seq (RW.sreg (rl.run 1 rfl ?_)))))
 obtain ⟨v1,e1,h1⟩:=A3 hF
 refine rl.call rfl rfl rfl (A7.val (r':=.bool v1) Fg (Ea e1) (.cons (DFL.agg (.cons .int (.cons .int (.cons .str .nil)))) .nil) .refl ?_)
 cases hb : v1
 ·have h2:=A5 h1 hb
  refine rl.run 1 rfl (rl.done (RW.cond_t rfl (RW.sreg (rl.run 2 rfl (rl.done (RW.ret ?_))))))
  cases h2
  exact RRet.mk rfl (OutT.tup (.cons .str (.cons .bool .nil))) (by first | decide | simp)
 ·have h3:=A4 h1 hb
  refine rl.run 1 rfl (rl.done (RW.cond_f rfl (RW.skip (RW.sdrw (A0.op rfl rfl (A0.op rfl rfl ?_))))))
  obtain ⟨v2,e2,h4⟩:=A3 h3
  refine A0.call rfl rfl rfl (A7.val (r':=.str v2) Fd (Ei e2) (.cons .int .nil) .refl ⟨rfl,?_⟩)
  refine A0.op rfl rfl (A0.op rfl rfl ?_)
  obtain ⟨v3,e3,h5⟩:=A3 h4
  refine A0.call rfl rfl rfl (A7.val (r':=.str v3) Fd (Ei e3) (.cons .int .nil) .refl ⟨rfl,?_⟩)
  obtain ⟨v4,e4,h6⟩:=A3 h5
  refine A0.op rfl (U3 rfl rfl e4) ?_
  refine A0.op rfl rfl (A0.op rfl rfl (A0.op rfl rfl ?_))
  obtain ⟨v5,e5,h7⟩:=A3 h6
  refine A0.call rfl rfl rfl (A7.val (r':=.str v5) Fd (Ei e5) (.cons .int .nil) .refl ⟨rfl,?_⟩)
  obtain ⟨v6,e6,h8⟩:=A3 h7
  refine A0.op rfl (U3 rfl rfl e6) ?_
  refine A0.op rfl rfl (A0.op rfl rfl ?_)
  obtain ⟨v7,e7,h9⟩:=A3 h8
  refine A0.op rfl (U3 rfl rfl e7) ?_
  obtain ⟨v8,e8,h10⟩:=A3 h9
  refine A0.call rfl rfl rfl (A7.val (r':=.tup [.str v8.1,.bool v8.2]) A0g (Yn e8) (.cons .str .nil) (FlL.tup (.cons .refl (.cons .refl .nil))) ⟨rfl,?_⟩)
  refine A0.op rfl rfl (A0.op rfl rfl (A0.op rfl rfl (A0.op rfl rfl (A0.done ?_))))
  refine RW.kp [2,3] [(2,.str v8.1),(3,.bool v8.2)] [some ⟨B9 false x0,0⟩] rfl rfl ?_
  refine RW.ret ?_
  cases h10
  exact RRet.mk rfl (OutT.tup (.cons .str (.cons .bool .nil))) (by first | decide | simp)
set_option maxHeartbeats 2000000 in
theorem Gc {x0 : List UInt8} {x1 : Int} {r : TFrame × Int × Bool} (hF : R6 x0 x1 = some r) : B3 Tryz.prog 129 [.str x0,.j x1] (.tup [.agg (B9 true r.1),.j r.2.1,.bool r.2.2]):=by
 refine B3.of_r Wu rfl ?_
 unfold R6 at hF
 refine RW.sreg (rl.run 3 rfl (rl.done (RW.sreg (rl.run 2 rfl ?_))))
 obtain ⟨v1,e1,h1⟩:=A3 hF
 refine rl.call rfl rfl rfl (A7.val (r':=.tup [.j v1.1,.j v1.2.1,.bool v1.2.2]) Q3 (M5 e1) (.cons .str (.cons .int .nil)) (FlL.tup (.cons .refl (.cons .refl (.cons .refl .nil)))) ?_)
 refine rl.run 7 rfl (rl.done (RW.sreg (rl.run 2 rfl ?_)))
 obtain ⟨v2,e2,h2⟩:=A3 h1
 refine rl.call rfl rfl rfl (A7.val (r':=.tup [.j v2.1,.j v2.2.1,.bool v2.2.2]) Q3 (M5 e2) (.cons .str (.cons .int .nil)) (FlL.tup (.cons .refl (.cons .refl (.cons .refl .nil)))) ?_)
 refine rl.run 7 rfl (rl.done ?_)
 refine RW.kp [0,1,4,7,8,9,10,11] [(0,.str x0),(1,.j x1),(4,.ptr 0 0),(7,.j v1.1),(8,.j v2.2.1),(9,.bool v1.2.2),(10,.j v2.1),(11,.bool v2.2.2)] [some ⟨[.j 0,.j 0,.str []],0⟩] rfl rfl ?_
 refine RW.sreg (rl.run 2 rfl ?_)
 obtain ⟨v3,e3,h3⟩:=A3 h2
 refine rl.call rfl rfl rfl (A7.val (r':=.tup [.str v3.1,.j v3.2.1,.bool v3.2.2]) Ak (Y6 e3) (.cons .str (.cons .int .nil)) (FlL.tup (.cons .refl (.cons .refl (.cons .refl .nil)))) ?_)
 refine rl.run 7 rfl (rl.done (RW.sreg (rl.run 6 rfl (rl.done ?_))))
 refine RW.kp [0,1,4,8,9,11,13,14] [(0,.str x0),(1,.j x1),(4,.ptr 0 0),(8,.j v3.2.1),(9,.bool v1.2.2),(11,.bool v2.2.2),(13,.bool v3.2.2),(14,.ptr 1 0)] [some ⟨[.j 0,.j 0,.str []],0⟩,some ⟨[.j v1.1,.j v2.1,.str v3.1],0⟩] rfl rfl ?_
 refine RW.seq (RW.seq ?_)
 obtain ⟨y4,ey4,h4⟩:=A3 h3
 refine RW.cutq (σ:=Bool) (fun y4=>[(0,.str x0),(1,.j x1),(4,.ptr 0 0),(8,.j v3.2.1),(14,.ptr 1 0),(63,.bool y4)]) (fun y4=>[some ⟨[.j 0,.j 0,.str []],0⟩,some ⟨[.j v1.1,.j v2.1,.str v3.1],0⟩]) (fun y=>y4 = y) (fun _ _ _ _ g h=>RW.gh g h) ?_ ?_
 ·refine RW.reg ?_
  refine rl.run 3 rfl ?_
  cases hb : (!v1.2.2)
  ·have h5:=A5 ey4 hb
   refine rl.run 4 rfl ?_
   cases hb : (!v2.2.2)
   ·have h6:=A5 h5 hb
    refine rl.run 4 rfl ?_
    cases hb : (!v3.2.2)
    ·have h7:=A5 h6 hb
     refine rl.run 1 rfl ?_
     obtain ⟨v5,e5,h8⟩:=A3 h7
     refine rl.call rfl rfl rfl (A7.val (r':=.bool v5) Fg (Ea e5) (.cons (DFL.agg (.cons .int (.cons .int (.cons .str .nil)))) .nil) .refl ?_)
     cases hb : v5
     ·have h9:=A5 h8 hb
      refine rl.run 9 rfl (rl.done ?_)
      cases h9
      exact ⟨_,rfl,(Gh.ren0 [0,1] (.cells rfl rfl .z5 (.cells rfl rfl .z5 .nil)) rfl (.s rfl (.i rfl (.p rfl rfl (.i rfl (.p rfl rfl (.b rfl .nil)))))))⟩
     ·have h10:=A4 h8 hb
      refine rl.run 7 rfl ?_
      refine rl.gen rfl rfl fun b hb=>?_
      cases b
      ·have h11:=A5 h10 hb
       refine rl.run 1 rfl (rl.done ?_)
       cases h11
       exact ⟨_,rfl,(Gh.ren0 [0,1] (.cells rfl rfl .z5 (.cells rfl rfl .z5 .nil)) rfl (.s rfl (.i rfl (.p rfl rfl (.i rfl (.p rfl rfl (.b rfl .nil)))))))⟩
      ·have h12:=A4 h10 hb
       refine rl.run 1 rfl (rl.done ?_)
       cases h12
       exact ⟨_,rfl,(Gh.ren0 [0,1] (.cells rfl rfl .z5 (.cells rfl rfl .z5 .nil)) rfl (.s rfl (.i rfl (.p rfl rfl (.i rfl (.p rfl rfl (.b rfl .nil)))))))⟩
    ·have h13:=A4 h6 hb
     refine rl.run 11 rfl (rl.done ?_)
     cases h13
     exact ⟨_,rfl,(Gh.ren0 [0,1] (.cells rfl rfl .z5 (.cells rfl rfl .z5 .nil)) rfl (.s rfl (.i rfl (.p rfl rfl (.i rfl (.p rfl rfl (.b rfl .nil)))))))⟩
   ·have h14:=A4 h5 hb
    refine rl.run 15 rfl (rl.done ?_)
    cases h14
    exact ⟨_,rfl,(Gh.ren0 [0,1] (.cells rfl rfl .z5 (.cells rfl rfl .z5 .nil)) rfl (.s rfl (.i rfl (.p rfl rfl (.i rfl (.p rfl rfl (.b rfl .nil)))))))⟩
  ·have h15:=A4 ey4 hb
   refine rl.run 19 rfl (rl.done ?_)
   cases h15
   exact ⟨_,rfl,(Gh.ren0 [0,1] (.cells rfl rfl .z5 (.cells rfl rfl .z5 .nil)) rfl (.s rfl (.i rfl (.p rfl rfl (.i rfl (.p rfl rfl (.b rfl .nil)))))))⟩
 ·intro y hC
  subst hC
  cases hb : y4
  ·have h16:=A5 h4 hb
   refine RW.cond_f rfl (RW.skip (RW.seq (RW.sreg (rl.run 1 rfl ?_))))
   obtain ⟨v6,e6,h17⟩:=A3 h16
   refine rl.call rfl rfl rfl (A7.val (r':=.tup [.str v6.1,.bool v6.2]) Gy (Fy e6) (.cons (DFL.agg (.cons .int (.cons .int (.cons .str .nil)))) .nil) (FlL.tup (.cons .refl (.cons .refl .nil))) ?_)
   refine rl.run 5 rfl (rl.done (RW.sreg (rl.run 4 rfl ?_)))
   obtain ⟨v7,e7,h18⟩:=A3 h17
   refine rl.op (Jy rfl rfl rfl Mb e7) ?_
   refine rl.run 1 rfl ?_
   refine rl.gen rfl rfl fun b hb=>?_
   cases b
   ·have h19:=A5 h18 hb
    refine rl.done ?_
    refine RW.kp [4,8,14,76] [(4,.ptr 0 0),(8,.j v3.2.1),(14,.ptr 1 0),(76,.bool false)] [some ⟨[.j 0,.j 0,.str []],0⟩,some ⟨[.j v1.1,.j v2.1,.str v3.1],0⟩] rfl rfl ?_
    refine RW.cond_f rfl (RW.skip (RW.sreg (rl.run 6 rfl (rl.done (RW.ret ?_)))))
    cases h19
    exact RRet.mk rfl (OutT.tup (.cons (OutL.agg (.i (.i (.cons .str rfl .nil)))) (.cons .int (.cons .bool .nil)))) (by first | decide | simp)
   ·have h20:=A4 h18 hb
    refine rl.done ?_
    refine RW.kp [4,8,14,76] [(4,.ptr 0 0),(8,.j v3.2.1),(14,.ptr 1 0),(76,.bool true)] [some ⟨[.j 0,.j 0,.str []],0⟩,some ⟨[.j v1.1,.j v2.1,.str v3.1],0⟩] rfl rfl ?_
    refine RW.cond_t rfl (RW.sreg (rl.run 4 rfl (rl.done (RW.ret ?_))))
    cases h20
    exact RRet.mk rfl (OutT.tup (.cons (OutL.agg (.i (.i (.cons .str rfl .nil)))) (.cons .int (.cons .bool .nil)))) (by first | decide | simp)
  ·have h21:=A4 h4 hb
   refine RW.cond_t rfl (RW.sreg (rl.run 4 rfl (rl.done (RW.ret ?_))))
   cases h21
   exact RRet.mk rfl (OutT.tup (.cons (OutL.agg (.i (.i (.cons .str rfl .nil)))) (.cons .int (.cons .bool .nil)))) (by first | decide | simp)
theorem Fk {x0 : TDisk} {x1 : Int} {r : (List UInt8) × Bool} (hF : Q0 x0 x1 = some r) : B3 Tryz.prog 132 [.agg (A6 false x0),.j x1] (.tup [.str r.1,.bool r.2]):=by
 refine B3.of_r Qx rfl ?_
 unfold Q0 at hF
 refine RW.sreg (rl.run 3 rfl (rl.done (RW.seq (RW.sreg (rl.run 5 rfl ?_)))))
 obtain ⟨v1,e1,h1⟩:=A3 hF
 refine rl.call rfl rfl rfl (A7.val (r':=.bool v1) D8 (C8 e1) (.cons .int (.cons .int (.cons .int .nil))) .refl ?_)
 cases hb : v1
 ·have h2:=A5 h1 hb
  refine rl.run 1 rfl (rl.done (RW.cond_t rfl (RW.sreg (rl.run 2 rfl (rl.done (RW.ret ?_))))))
  cases h2
  exact RRet.mk rfl (OutT.tup (.cons .str (.cons .bool .nil))) (by first | decide | simp)
 ·have h3:=A4 h1 hb
  refine rl.run 1 rfl (rl.done (RW.cond_f rfl (RW.skip (RW.sreg (rl.run 3 rfl ?_)))))
  obtain ⟨v2,e2,h4⟩:=A3 h3
  refine rl.op (C1 (enc:=encS) (o:=false) rfl rfl rfl e2) ?_
  refine rl.op (G5 (off':=0) ekS rfl e2 rfl rfl rfl) ?_
  refine rl.run 1 rfl (rl.done ?_)
  refine RW.kp [1,2,6] [(1,.j x1),(2,.ptr 0 0),(6,.str v2)] [some ⟨A6 false x0,0⟩] rfl rfl ?_
  refine RW.seq (RW.sreg (rl.run 4 rfl (rl.done ?_)))
  obtain ⟨y6,ey6,h6⟩:=A3 h4
  refine RW.cutq (σ:=(List UInt8)) (fun y4=>[(6,.str y4)]) (fun y4=>[]) (fun y=>y6 = y) (fun _ _ _ _ g h=>RW.gh g h) ?_ ?_
  ·refine RW.blk ?_
   refine RW.iter (σ:=(List UInt8) × Int) ey6 (fun s3=>[(1,.j x1),(6,.str s3.1),(22,Hz x0.Cache),(23,.j (x0.Cache.length : Int)),(24,.j s3.2)]) (fun s3=>[]) (Gh.ren0 [] .nil rfl (.i rfl (.s rfl (.cons rfl (.dat (A1.rlst)) (.i rfl (.i rfl .nil)))))) (fun s3 B o hS5 hB5 hE5=>?_)
   unfold Q6 at hS5
   refine RW.sreg ?_
   refine rl.gen rfl rfl fun b hb=>?_
   cases b
   ·have h7:=A5 hS5 hb
    refine rl.done (RW.seq (RW.cond_f rfl (RW.exit (D0 ?_))))
    cases h7
    exact ⟨_,(hE5 _ rfl).symm,(Gh.ren0 [] .nil rfl (.s rfl .nil))⟩
   ·have h8:=A4 hS5 hb
    refine rl.done (RW.seq (RW.cond_t rfl (RW.skip (RW.seq (RW.blk (RW.sreg ?_))))))
    obtain ⟨v5,e5,h9⟩:=A3 h8
    refine rl.op (C1 (enc:=A2) (o:=false) rfl rfl rfl e5) ?_
    refine rl.op (K5 (off':=0) (vs:=(A2 false v5)) A1 rfl e5 rfl rfl rfl) ?_
    refine rl.run 2 rfl (rl.done (RW.sreg (rl.run 3 rfl ?_)))
    refine rl.gen rfl rfl fun b hb=>?_
    cases b
    ·have h10:=A5 h9 hb
     refine rl.done (RW.cond_f rfl (RW.skip (RW.reg (rl.run 2 rfl (rl.done ?_)))))
     cases h10
     exact hB5 _ rfl _ _ (Gh.ren0 [] .nil rfl (.i rfl (.s rfl (.cons rfl (.dat (A1.rlst)) (.i rfl (.i rfl .nil))))))
    ·have h11:=A4 h9 hb
     refine rl.done (RW.cond_t rfl (RW.reg (rl.run 3 rfl (rl.done (RW.reg (rl.run 2 rfl (rl.done ?_)))))))
     cases h11
     exact hB5 _ rfl _ _ (Gh.ren0 [] .nil rfl (.i rfl (.s rfl (.cons rfl (.dat (A1.rlst)) (.i rfl (.i rfl .nil))))))
  ·intro y4 hC
   subst hC
   refine RW.sreg (rl.run 3 rfl (rl.done (RW.ret ?_)))
   cases h6
   exact RRet.mk rfl (OutT.tup (.cons .str (.cons .bool .nil))) (by first | decide | simp)
theorem Mi {x0 : TDisk} {x1 : Int} {x2 : Int} {r : (List UInt8) × Bool} (hF : U8 x0 x1 x2 = some r) : B3 Tryz.prog 126 [.agg (A6 false x0),.j x1,.j x2] (.tup [.str r.1,.bool r.2]):=by
 refine B3.of_r Tu rfl ?_
 unfold U8 at hF
 refine RW.sreg (rl.run 3 rfl (rl.done (RW.seq (RW.sreg (rl.run 1 rfl ?_)))))
 obtain ⟨v1,e1,h1⟩:=A3 hF
 refine rl.call rfl rfl rfl (A7.val (r':=.bool v1) D8 (C8 e1) (.cons .int (.cons .int (.cons .int .nil))) .refl ?_)
 cases hb : v1
 ·have h2:=A5 h1 hb
  refine rl.run 1 rfl (rl.done (RW.cond_t rfl (RW.sreg (rl.run 2 rfl (rl.done (RW.ret ?_))))))
  cases h2
  exact RRet.mk rfl (OutT.tup (.cons .str (.cons .bool .nil))) (by first | decide | simp)
 ·have h3:=A4 h1 hb
  refine rl.run 1 rfl (rl.done (RW.cond_f rfl (RW.skip (RW.sreg (rl.run 1 rfl (rl.done (RW.seq (RW.sreg (rl.run 2 rfl (rl.done ?_))))))))))
  obtain ⟨y6,ey6,h5⟩:=A3 h3
  refine RW.cutq (σ:=(List UInt8)) (fun y3=>[(8,.str y3)]) (fun y3=>[]) (fun y=>y6 = .inr y) (fun _ _ _ _ g h=>RW.gh g h) ?_ ?_
  ·refine RW.blk ?_
   refine RW.iter (σ:=(List UInt8) × Int) ey6 (fun s2=>[(1,.j x1),(3,.ptr 0 0),(8,.str s2.1),(15,.j x2),(16,.j s2.2)]) (fun s2=>[some ⟨A6 false x0,0⟩]) (Gh.ren0 [0] (.cells rfl rfl .z4 .nil) rfl (.i rfl (.p rfl rfl (.s rfl (.i rfl (.i rfl .nil)))))) (fun s2 B o hS4 hB4 hE4=>?_)
   unfold Q7 at hS4
   refine RW.sreg ?_
   refine rl.gen rfl rfl fun b hb=>?_
   cases b
   ·have h6:=A5 hS4 hb
    refine rl.done (RW.seq (RW.cond_f rfl (RW.exit (D0 ?_))))
    cases h6
    exact ⟨_,(hE4 _ rfl).symm,(Gh.ren0 [] .nil rfl (.s rfl .nil))⟩
   ·have h7:=A4 hS4 hb
    refine rl.done (RW.seq (RW.cond_t rfl (RW.skip (RW.seq (RW.blk (RW.sreg (rl.run 2 rfl (rl.done (RW.sreg (rl.run 4 rfl ?_))))))))))
    obtain ⟨v4,e4,h8⟩:=A3 h7
    refine rl.call rfl rfl rfl (A7.val (r':=.tup [.str v4.1,.bool v4.2]) Fw (Fk e4) (.cons (DFL.agg (.cons (.lst ekS) (.cons (.lst A1) .nil))) (.cons .int .nil)) (FlL.tup (.cons .refl (.cons .refl .nil))) ?_)
    refine rl.run 5 rfl (rl.done ?_)
    refine RW.kp [1,3,8,10,11,15,16] [(1,.j x1),(3,.ptr 0 0),(8,.str s2.1),(10,.str v4.1),(11,.bool v4.2),(15,.j x2),(16,.j s2.2)] [some ⟨A6 false x0,0⟩] rfl rfl ?_
    refine RW.seq (RW.sreg (rl.run 2 rfl (rl.done ?_)))
    cases hb : (!v4.2)
    ·have h9:=A5 h8 hb
     refine RW.cond_f rfl (RW.skip (RW.reg (rl.run 2 rfl ?_)))
     obtain ⟨v5,e5,h10⟩:=A3 h9
     refine rl.op (U3 rfl rfl e5) ?_
     refine rl.run 1 rfl (rl.done (RW.reg (rl.run 2 rfl (rl.done ?_))))
     cases h10
     exact hB4 _ rfl _ _ (Gh.ren0 [0] (.cells rfl rfl .z4 .nil) rfl (.i rfl (.p rfl rfl (.s rfl (.i rfl (.i rfl .nil))))))
    ·have h11:=A4 h8 hb
     refine RW.cond_t rfl (RW.sreg (rl.run 2 rfl (rl.done (RW.ret ?_))))
     cases h11
     have h12:=elimL h5 (hE4 _ rfl)
     cases h12
     exact RRet.mk rfl (OutT.tup (.cons .str (.cons .bool .nil))) (by first | decide | simp)
  ·intro y3 hC
   have h5:=elimR h5 hC
   refine RW.sreg (rl.run 3 rfl (rl.done (RW.ret ?_)))
   cases h5
   exact RRet.mk rfl (OutT.tup (.cons .str (.cons .bool .nil))) (by first | decide | simp)
theorem Gu {x0 : Int} {r : Int} (hF : T5 x0 = some r) : B3 Tryz.prog 144 [.j x0] (.j r):=by
 refine B3.of_r Yc rfl ?_
 unfold T5 at hF
 refine RW.sreg (rl.run 1 rfl (rl.done (RW.seq (RW.sreg (rl.run 1 rfl ?_)))))
 obtain ⟨v1,e1,h1⟩:=A3 hF
 refine rl.call rfl rfl rfl (A7.val (r':=.bool v1) D8 (C8 e1) (.cons .int (.cons .int (.cons .int .nil))) .refl ?_)
 cases hb : v1
 ·have h2:=A5 h1 hb
  refine rl.run 1 rfl (rl.done (RW.cond_t rfl (RW.sreg (rl.run 1 rfl (rl.done (RW.ret ?_))))))
  cases h2
  exact RRet.mk rfl .int (by first | decide | simp)
 ·have h3:=A4 h1 hb
  refine rl.run 1 rfl (rl.done (RW.cond_f rfl (RW.skip (RW.sreg (rl.run 4 rfl (rl.done (RW.ret ?_)))))))
  cases h3
  exact RRet.mk rfl .int (by first | decide | simp)
theorem Hr {x0 : TDisk} {x1 : Int} {r : List UInt8} (hF : X2 x0 x1 = some r) : B3 Tryz.prog 130 [.agg (A6 false x0),.j x1] (.str r):=by
 refine B3.of_r A2n rfl ?_
 unfold X2 at hF
 refine RW.sreg (rl.run 2 rfl (rl.done (RW.seq (RW.sreg (rl.run 1 rfl ?_)))))
 obtain ⟨v1,e1,h1⟩:=A3 hF
 refine rl.call rfl rfl rfl (A7.val (r':=.bool v1) D8 (C8 e1) (.cons .int (.cons .int (.cons .int .nil))) .refl ?_)
 cases hb : v1
 ·have h2:=A5 h1 hb
  refine rl.run 1 rfl (rl.done (RW.cond_t rfl (RW.sreg (rl.run 1 rfl (rl.done (RW.ret ?_))))))
  cases h2
  exact RRet.mk rfl .str (by first | decide | simp)
 ·have h3:=A4 h1 hb
  refine rl.run 1 rfl (rl.done (RW.cond_f rfl (RW.skip (RW.sdrw (A0.op rfl rfl (A0.op rfl rfl ?_))))))
  obtain ⟨v2,e2,h4⟩:=A3 h3
  refine A0.call rfl rfl rfl (A7.val (r':=.j v2) Je (Gu e2) (.cons .int .nil) .refl ⟨rfl,?_⟩)
  obtain ⟨v3,e3,h5⟩:=A3 h4
  refine A0.call rfl rfl rfl (A7.val (r':=.tup [.str v3.1,.bool v3.2]) Pb (Mi e3) (.cons (DFL.agg (.cons (.lst ekS) (.cons (.lst A1) .nil))) (.cons .int (.cons .int .nil))) (FlL.tup (.cons .refl (.cons .refl .nil))) ⟨rfl,?_⟩)
  refine A0.op rfl rfl (A0.op rfl rfl (A0.op rfl rfl (A0.op rfl rfl (A0.op rfl rfl (A0.done ?_)))))
  refine RW.kp [5] [(5,.str v3.1)] [some ⟨A6 false x0,0⟩] rfl rfl ?_
  refine RW.sreg (rl.run 2 rfl (rl.done (RW.ret ?_)))
  cases h5
  exact RRet.mk rfl .str (by first | decide | simp)
theorem Kb {x0 : TDisk} {x1 : Int} {r : Int} (hF : Z9 x0 x1 = some r) : B3 Tryz.prog 65 [.agg (A6 false x0),.j x1] (.j r):=by
 refine B3.of_r A2z rfl ?_
 unfold Z9 at hF
 refine RW.sreg (rl.run 2 rfl (rl.done (RW.sreg (rl.run 2 rfl ?_))))
 obtain ⟨v1,e1,h1⟩:=A3 hF
 refine rl.call rfl rfl rfl (A7.val (r':=.str v1) Jw (Hr e1) (.cons (DFL.agg (.cons (.lst ekS) (.cons (.lst A1) .nil))) (.cons .int .nil)) .refl ?_)
 obtain ⟨v2,e2,h2⟩:=A3 h1
 refine rl.call rfl rfl rfl (A7.val (r':=.tup [.agg (B9 false v2.1),.j v2.2.1,.bool v2.2.2]) Hd (Gc e2) (.cons .str (.cons .int .nil)) (FlL.tup (.cons .refl (.cons .refl (.cons .refl .nil)))) ?_)
 refine rl.run 8 rfl (rl.done ?_)
 refine RW.kp [5] [(5,.ptr 1 0)] [some ⟨A6 false x0,0⟩,some ⟨B9 false v2.1,0⟩] rfl rfl ?_
 refine RW.seq (RW.sreg (rl.run 2 rfl ?_))
 refine rl.gen rfl rfl fun b hb=>?_
 cases b
 ·have h3:=A5 h2 hb
  refine rl.done (RW.cond_f rfl (RW.skip (RW.sreg (rl.run 3 rfl (rl.done (RW.ret ?_))))))
  cases h3
  exact RRet.mk rfl .int (by first | decide | simp)
 ·have h4:=A4 h2 hb
  refine rl.done (RW.cond_t rfl (RW.sreg (rl.run 1 rfl (rl.done (RW.ret ?_)))))
  cases h4
  exact RRet.mk rfl .int (by first | decide | simp)
theorem Me {x0 : List UInt8} {x1 : Int} {r : (List TFrame) × Int} (hF : V1 x0 x1 = some r) : B3 Tryz.prog 134 [.str x0,.j x1] (.tup [.lst true 3 (fl (B9 true) r.1) r.1.length,.j r.2]):=by
 refine B3.of_r Qp rfl ?_
 unfold V1 at hF
 refine RW.sreg (rl.run 2 rfl (rl.done (RW.sreg (rl.run 2 rfl (rl.done (RW.sreg (rl.run 1 rfl (rl.done ?_))))))))
 refine RW.gh (Gh.nil_t 6 3 rfl) ?_
 obtain ⟨y6,ey6,h2⟩:=A3 hF
 refine RW.cutE (fun y2=>[]) (fun y2=>[]) (fun y=>y6 = .inr y) ?_ ?_
 ·refine RW.blk ?_
  refine RW.iter (σ:=Int × (List TFrame)) ey6 (fun s1=>[(0,.str x0),(1,.j x1),(6,.sl 0 0 s1.2.length),(7,.j s1.1)]) (fun s1=>[some ⟨fl (B9 true) s1.2,3⟩]) (Gh.ren0 [0] (.same rfl (K4.fref _ _) .nil) rfl (.s rfl (.i rfl (.cons rfl (.slq rfl rfl) (.i rfl .nil))))) (fun s1 B o hS1 hB1 hE1=>?_)
  unfold V7 at hS1
  refine RW.blk (RW.sreg (rl.run 2 rfl ?_))
  obtain ⟨v3,e3,h3⟩:=A3 hS1
  refine rl.call rfl rfl rfl (A7.val (r':=.tup [.agg (B9 false v3.1),.j v3.2.1,.bool v3.2.2]) Hd (Gc e3) (.cons .str (.cons .int .nil)) (FlL.tup (.cons .refl (.cons .refl (.cons .refl .nil)))) ?_)
  refine rl.run 8 rfl (rl.done (RW.seq (RW.seq ?_)))
  obtain ⟨y4,ey4,h4⟩:=A3 h3
  refine RW.cutq (σ:=Bool) (fun y4=>[(0,.str x0),(1,.j x1),(6,.sl 0 0 s1.2.length),(7,.j s1.1),(8,.ptr 1 0),(9,.j v3.2.1),(26,.bool y4)]) (fun y4=>[some ⟨fl (B9 true) s1.2,3⟩,some ⟨B9 false v3.1,0⟩]) (fun y=>y4 = y) (fun _ _ _ _ g h=>RW.gh g h) ?_ ?_
  ·refine RW.reg ?_
   refine rl.run 3 rfl ?_
   cases hb : (!v3.2.2)
   ·have h5:=A5 ey4 hb
    refine rl.run 3 rfl ?_
    refine rl.gen rfl rfl fun b hb=>?_
    cases b
    ·have h6:=A5 h5 hb
     refine rl.run 1 rfl (rl.done ?_)
     cases h6
     exact ⟨_,rfl,(Gh.ren0 [0,1] (.same rfl (K4.fref _ _) (.cells rfl rfl .z5 .nil)) rfl (.s rfl (.i rfl (.cons rfl (.slq rfl rfl) (.i rfl (.p rfl rfl (.i rfl (.b rfl .nil))))))))⟩
    ·have h7:=A4 h5 hb
     refine rl.run 1 rfl (rl.done ?_)
     cases h7
     exact ⟨_,rfl,(Gh.ren0 [0,1] (.same rfl (K4.fref _ _) (.cells rfl rfl .z5 .nil)) rfl (.s rfl (.i rfl (.cons rfl (.slq rfl rfl) (.i rfl (.p rfl rfl (.i rfl (.b rfl .nil))))))))⟩
   ·have h8:=A4 ey4 hb
    refine rl.run 5 rfl (rl.done ?_)
    cases h8
    exact ⟨_,rfl,(Gh.ren0 [0,1] (.same rfl (K4.fref _ _) (.cells rfl rfl .z5 .nil)) rfl (.s rfl (.i rfl (.cons rfl (.slq rfl rfl) (.i rfl (.p rfl rfl (.i rfl (.b rfl .nil))))))))⟩
  ·intro y hC
   subst hC
   cases hb : y4
   ·have h9:=A5 h4 hb
    refine RW.cond_f rfl (RW.skip (RW.sreg (rl.run 3 rfl ?_)))
    obtain ⟨v5,e5,h10⟩:=A3 h9
    refine rl.op (Z4 rfl rfl (V5 (l:=s1.2) (m:=[v3.1]) (o:=true) K4 rfl rfl (P8 (m:=[v3.1]) (o:=true) Ly rfl rfl) rfl (Ly.fst _ _) e5)) ?_
    refine rl.run 1 rfl (rl.done (RW.reg (rl.run 2 rfl (rl.done ?_))))
    cases h10
    exact hB1 _ rfl _ _ (Gh.ren0 [3] (.same rfl (K4.fref _ _) .nil) rfl (.s rfl (.i rfl (.cons rfl (.slq rfl rfl) (.i rfl .nil)))))
   ·have h11:=A4 h4 hb
    refine RW.cond_t rfl (RW.sreg (rl.run 4 rfl (rl.done (RW.ret ?_))))
    cases h11
    have h12:=elimL h2 (hE1 _ rfl)
    cases h12
    exact RRet.mk rfl (OutT.tup (.cons (OutR.ownq K4 rfl rfl) (.cons .int .nil))) (by first | decide | simp)
 ·exact fun y=>y.elim
theorem Px {x0 : TDisk} {x1 : Int} {r : (List TFrame) × Int} (hF : W7 x0 x1 = some r) : B3 Tryz.prog 71 [.agg (A6 false x0),.j x1] (.tup [Kv r.1,.j r.2]):=by
 refine B3.of_r Vk rfl ?_
 unfold W7 at hF
 refine RW.sreg (rl.run 3 rfl (rl.done (RW.sreg (rl.run 2 rfl ?_))))
 obtain ⟨v1,e1,h1⟩:=A3 hF
 refine rl.call rfl rfl rfl (A7.val (r':=.j v1) Lg (Kb e1) (.cons (DFL.agg (.cons (.lst ekS) (.cons (.lst A1) .nil))) (.cons .int .nil)) .refl ?_)
 refine rl.run 1 rfl (rl.done (RW.seq (RW.sreg (rl.run 1 rfl ?_))))
 refine rl.gen rfl rfl fun b hb=>?_
 cases b
 ·have h2:=A5 h1 hb
  refine rl.done (RW.cond_f rfl (RW.skip (RW.sreg (rl.run 2 rfl ?_))))
  obtain ⟨v2,e2,h3⟩:=A3 h2
  refine rl.call rfl rfl rfl (A7.val (r':=.str v2) Jw (Hr e2) (.cons (DFL.agg (.cons (.lst ekS) (.cons (.lst A1) .nil))) (.cons .int .nil)) .refl ?_)
  refine rl.run 1 rfl ?_
  obtain ⟨v3,e3,h4⟩:=A3 h3
  refine rl.call rfl rfl rfl (A7.own (r':=.tup [.sl 1 0 v3.1.length,.j v3.2]) (H':=[some ⟨A6 false x0,0⟩,some ⟨fl (B9 true) v3.1,3⟩]) Qa (Me e3) (.cons .str (.cons .int .nil)) (fac (.lst (K4.fown _)) (fac .int fan)) rfl ?_)
  refine rl.run 5 rfl (rl.done ?_)
  refine RW.kp [7,8] [(7,.sl 1 0 v3.1.length),(8,.j v3.2)] [some ⟨A6 false x0,0⟩,some ⟨fl (B9 true) v3.1,3⟩] rfl rfl ?_
  refine RW.sreg (rl.run 1 rfl ?_)
  obtain ⟨v4,e4,h5⟩:=A3 h4
  refine rl.op (A9r (i:=1) rfl rfl rfl rfl rfl Rg e4) ?_
  refine rl.run 3 rfl (rl.done (RW.ret ?_))
  cases h5
  exact RRet.mk rfl (OutT.tup (.cons (OutR.viewq Ly rfl e4) (.cons .int .nil))) (by first | decide | simp)
 ·have h6:=A4 h1 hb
  refine rl.done (RW.cond_t rfl (RW.sreg (rl.run 2 rfl (rl.done (RW.ret ?_)))))
  cases h6
  exact RRet.mk rfl (OutT.tup (.cons .nilsv (.cons .int .nil))) (by first | decide | simp)
theorem Ju {x0 : List UInt8} {r : Bool} (hF : Ab x0 = some r) : B3 Tryz.prog 166 [.str x0] (.bool r):=by
 refine B3.of_r A31 rfl ?_
 unfold Ab at hF
 refine RW.sreg (rl.run 1 rfl (rl.done (RW.seq (RW.sreg (rl.run 2 rfl ?_)))))
 obtain ⟨v1,e1,h1⟩:=A3 hF
 refine rl.call rfl rfl rfl (A7.val (r':=.bool v1) D8 (C8 e1) (.cons .int (.cons .int (.cons .int .nil))) .refl ?_)
 cases hb : v1
 ·have h2:=A5 h1 hb
  refine rl.run 1 rfl (rl.done (RW.cond_t rfl (RW.sreg (rl.run 1 rfl (rl.done (RW.ret ?_))))))
  cases h2
  exact RRet.mk rfl .bool (by first | decide | simp)
 ·have h3:=A4 h1 hb
  refine rl.run 1 rfl (rl.done (RW.cond_f rfl (RW.skip (RW.seq (RW.sreg (rl.run 3 rfl (rl.done ?_)))))))
  obtain ⟨y7,ey7,h5⟩:=A3 h3
  refine RW.cutq (σ:=Unit) (fun y3=>[]) (fun y3=>[]) (fun y=>y7 = .inr y) (fun _ _ _ _ g h=>RW.gh g h) ?_ ?_
  ·refine RW.blk ?_
   refine RW.iter (σ:=Int) ey7 (fun s2=>[(0,.str x0),(9,.j (x0.length : Int)),(10,.j s2)]) (fun s2=>[]) (Gh.ren0 [] .nil rfl (.s rfl (.i rfl (.i rfl .nil)))) (fun s2 B o hS4 hB4 hE4=>?_)
   unfold T7 at hS4
   refine RW.sreg ?_
   refine rl.gen rfl rfl fun b hb=>?_
   cases b
   ·have h6:=A5 hS4 hb
    refine rl.done (RW.seq (RW.cond_f rfl (RW.exit (D0 ?_))))
    cases h6
    exact ⟨_,(hE4 _ rfl).symm,(Gh.ren0 [] .nil rfl .nil)⟩
   ·have h7:=A4 hS4 hb
    refine rl.done (RW.seq (RW.cond_t rfl (RW.skip (RW.seq (RW.blk (RW.sreg (rl.run 2 rfl (rl.done (RW.seq ?_)))))))))
    obtain ⟨y4,ey4,h8⟩:=A3 h7
    refine RW.cutq (σ:=Bool) (fun y4=>[(0,.str x0),(9,.j (x0.length : Int)),(10,.j s2),(22,.bool y4)]) (fun y4=>[]) (fun y=>y4 = y) (fun _ _ _ _ g h=>RW.gh g h) ?_ ?_
    ·refine RW.reg ?_
     refine rl.run 2 rfl ?_
     obtain ⟨v5,e5,h9⟩:=A3 ey4
     refine rl.op (Xa rfl rfl e5) ?_
     refine rl.gen rfl rfl fun b hb=>?_
     cases b
     ·have h10:=A5 h9 hb
      refine rl.run 3 rfl ?_
      obtain ⟨v6,e6,h11⟩:=A3 h10
      refine rl.gop rfl (Xa rfl rfl e6) ?_
      refine rl.gen rfl rfl fun b hb=>?_
      cases b
      ·have h12:=A5 h11 hb
       refine rl.run 1 rfl (rl.done ?_)
       cases h12
       exact ⟨_,rfl,(Gh.ren0 [] .nil rfl (.s rfl (.i rfl (.i rfl (.b rfl .nil)))))⟩
      ·have h13:=A4 h11 hb
       refine rl.run 1 rfl (rl.done ?_)
       cases h13
       exact ⟨_,rfl,(Gh.ren0 [] .nil rfl (.s rfl (.i rfl (.i rfl (.b rfl .nil)))))⟩
     ·have h14:=A4 h9 hb
      refine rl.run 6 rfl (rl.done ?_)
      cases h14
      exact ⟨_,rfl,(Gh.ren0 [] .nil rfl (.s rfl (.i rfl (.i rfl (.b rfl .nil)))))⟩
    ·intro y hC
     subst hC
     cases hb : y4
     ·have h15:=A5 h8 hb
      refine RW.cond_f rfl (RW.skip (RW.reg (rl.run 2 rfl (rl.done ?_))))
      cases h15
      exact hB4 _ rfl _ _ (Gh.ren0 [] .nil rfl (.s rfl (.i rfl (.i rfl .nil))))
     ·have h16:=A4 h8 hb
      refine RW.cond_t rfl (RW.sreg (rl.run 1 rfl (rl.done (RW.ret ?_))))
      cases h16
      have h17:=elimL h5 (hE4 _ rfl)
      cases h17
      exact RRet.mk rfl .bool (by first | decide | simp)
  ·intro y3 hC
   have h5:=elimR h5 hC
   refine RW.sreg (rl.run 1 rfl (rl.done (RW.ret ?_)))
   cases h5
   exact RRet.mk rfl .bool (by first | decide | simp)
set_option maxHeartbeats 2000000 in
theorem Ku {x0 : TRec} {r : Bool} (hF : Bv x0 = some r) : B3 Tryz.prog 124 [.agg (F7 false x0)] (.bool r):=by
 refine B3.of_r A56 rfl ?_
 unfold Bv at hF
 refine RW.sreg (rl.run 2 rfl (rl.done (RW.seq (RW.sreg (rl.run 2 rfl ?_)))))
 obtain ⟨v1,e1,h1⟩:=A3 hF
 refine rl.call rfl rfl rfl (A7.val (r':=.bool v1) D8 (C8 e1) (.cons .int (.cons .int (.cons .int .nil))) .refl ?_)
 cases hb : v1
 ·have h2:=A5 h1 hb
  refine rl.run 1 rfl (rl.done (RW.cond_t rfl (RW.sreg (rl.run 1 rfl (rl.done (RW.ret ?_))))))
  cases h2
  exact RRet.mk rfl .bool (by first | decide | simp)
 ·have h3:=A4 h1 hb
  refine rl.run 1 rfl (rl.done (RW.cond_f rfl (RW.skip (RW.sreg (rl.run 3 rfl (rl.done (RW.sreg (rl.run 4 rfl (rl.done (RW.sreg (rl.run 1 rfl ?_)))))))))))
  refine rl.done (RW.seq (RW.seq ?_))
  obtain ⟨y2,ey2,h4⟩:=A3 h3
  refine RW.cutq (σ:=Bool) (fun y2=>[(1,.ptr 0 0),(3,.ptr 1 0),(4,.bool true),(24,.bool y2)]) (fun y2=>[some ⟨F7 false x0,0⟩,some ⟨[.j 0,.j 0,.j x0.Uid,.j x0.Next,.j x0.Flags,.str x0.User,.str x0.Name,.str x0.Text],0⟩]) (fun y=>y2 = y) (fun _ _ _ _ g h=>RW.gh g h) ?_ ?_
  ·refine RW.reg ?_
   refine rl.run 2 rfl ?_
   refine rl.gen rfl rfl fun b hb=>?_
   cases b
   ·have h5:=A5 ey2 hb
    refine rl.run 3 rfl ?_
    refine rl.gen rfl rfl fun b hb=>?_
    cases b
    ·have h6:=A5 h5 hb
     refine rl.run 4 rfl ?_
     refine rl.gen rfl rfl fun b hb=>?_
     cases b
     ·have h7:=A5 h6 hb
      refine rl.run 1 rfl (rl.done ?_)
      cases h7
      exact ⟨_,rfl,(Gh.ren0 [0,1] (.cells rfl rfl .z6 (.cells rfl rfl .z6 .nil)) rfl (.p rfl rfl (.p rfl rfl (.b rfl (.b rfl .nil)))))⟩
     ·have h8:=A4 h6 hb
      refine rl.run 1 rfl (rl.done ?_)
      cases h8
      exact ⟨_,rfl,(Gh.ren0 [0,1] (.cells rfl rfl .z6 (.cells rfl rfl .z6 .nil)) rfl (.p rfl rfl (.p rfl rfl (.b rfl (.b rfl .nil)))))⟩
    ·have h9:=A4 h5 hb
     refine rl.run 6 rfl (rl.done ?_)
     cases h9
     exact ⟨_,rfl,(Gh.ren0 [0,1] (.cells rfl rfl .z6 (.cells rfl rfl .z6 .nil)) rfl (.p rfl rfl (.p rfl rfl (.b rfl (.b rfl .nil)))))⟩
   ·have h10:=A4 ey2 hb
    refine rl.run 10 rfl (rl.done ?_)
    cases h10
    exact ⟨_,rfl,(Gh.ren0 [0,1] (.cells rfl rfl .z6 (.cells rfl rfl .z6 .nil)) rfl (.p rfl rfl (.p rfl rfl (.b rfl (.b rfl .nil)))))⟩
  ·intro y hC
   subst hC
   obtain ⟨y3,ey3,h11⟩:=A3 h4
   refine RW.cutq (σ:=Bool × Int) (fun y3=>[(1,.ptr 0 0),(3,.ptr 1 0),(4,.bool y3.1)]) (fun y3=>[some ⟨F7 false x0,0⟩,some ⟨[.j 0,.j 0,.j y3.2,.j x0.Next,.j x0.Flags,.str x0.User,.str x0.Name,.str x0.Text],0⟩]) (fun y=>y3 = y) (fun _ _ _ _ g h=>RW.gh g h) ?_ ?_
   ·cases hb : y2
    ·have h12:=A5 ey3 hb
     refine RW.cond_f rfl (RW.skip ?_)
     cases h12
     exact ⟨_,rfl,(Gh.ren0 [0,1] (.cells rfl rfl .z6 (.cells rfl rfl .z6 .nil)) rfl (.p rfl rfl (.p rfl rfl (.b rfl .nil))))⟩
    ·have h13:=A4 ey3 hb
     refine RW.cond_t rfl (RW.sreg (rl.run 2 rfl ?_))
     obtain ⟨v4,e4,h14⟩:=A3 h13
     refine rl.call rfl rfl rfl (A7.val (r':=.bool v4) D8 (C8 e4) (.cons .int (.cons .int (.cons .int .nil))) .refl ?_)
     cases hb : v4
     ·have h15:=A5 h14 hb
      refine rl.run 1 rfl (rl.done (RW.reg (rl.run 2 rfl (rl.done ?_))))
      cases h15
      exact ⟨_,rfl,(Gh.ren0 [0,1] (.cells rfl rfl .z6 (.cells rfl rfl .z6 .nil)) rfl (.p rfl rfl (.p rfl rfl (.b rfl .nil))))⟩
     ·have h16:=A4 h14 hb
      refine rl.run 1 rfl (rl.done (RW.reg (rl.run 2 rfl (rl.done ?_))))
      cases h16
      exact ⟨_,rfl,(Gh.ren0 [0,1] (.cells rfl rfl .z6 (.cells rfl rfl .z6 .nil)) rfl (.p rfl rfl (.p rfl rfl (.b rfl .nil))))⟩
   ·intro y hC
    subst hC
    refine RW.seq (RW.seq ?_)
    obtain ⟨y5,ey5,h17⟩:=A3 h11
    refine RW.cutq (σ:=Bool) (fun y5=>[(1,.ptr 0 0),(3,.ptr 1 0),(4,.bool y3.1),(36,.bool y5)]) (fun y5=>[some ⟨F7 false x0,0⟩,some ⟨[.j 0,.j 0,.j y3.2,.j x0.Next,.j x0.Flags,.str x0.User,.str x0.Name,.str x0.Text],0⟩]) (fun y=>y5 = y) (fun _ _ _ _ g h=>RW.gh g h) ?_ ?_
    ·refine RW.reg ?_
     refine rl.run 2 rfl ?_
     refine rl.gen rfl rfl fun b hb=>?_
     cases b
     ·have h18:=A5 ey5 hb
      refine rl.run 3 rfl ?_
      refine rl.gen rfl rfl fun b hb=>?_
      cases b
      ·have h19:=A5 h18 hb
       refine rl.run 1 rfl (rl.done ?_)
       cases h19
       exact ⟨_,rfl,(Gh.ren0 [0,1] (.cells rfl rfl .z6 (.cells rfl rfl .z6 .nil)) rfl (.p rfl rfl (.p rfl rfl (.b rfl (.b rfl .nil)))))⟩
      ·have h20:=A4 h18 hb
       refine rl.run 1 rfl (rl.done ?_)
       cases h20
       exact ⟨_,rfl,(Gh.ren0 [0,1] (.cells rfl rfl .z6 (.cells rfl rfl .z6 .nil)) rfl (.p rfl rfl (.p rfl rfl (.b rfl (.b rfl .nil)))))⟩
     ·have h21:=A4 ey5 hb
      refine rl.run 5 rfl (rl.done ?_)
      cases h21
      exact ⟨_,rfl,(Gh.ren0 [0,1] (.cells rfl rfl .z6 (.cells rfl rfl .z6 .nil)) rfl (.p rfl rfl (.p rfl rfl (.b rfl (.b rfl .nil)))))⟩
    ·intro y hC
     subst hC
     obtain ⟨y6,ey6,h22⟩:=A3 h17
     refine RW.cutq (σ:=Bool × Int) (fun y6=>[(1,.ptr 0 0),(3,.ptr 1 0),(4,.bool y6.1)]) (fun y6=>[some ⟨F7 false x0,0⟩,some ⟨[.j 0,.j 0,.j y3.2,.j x0.Next,.j y6.2,.str x0.User,.str x0.Name,.str x0.Text],0⟩]) (fun y=>y6 = y) (fun _ _ _ _ g h=>RW.gh g h) ?_ ?_
     ·cases hb : y5
      ·have h23:=A5 ey6 hb
       refine RW.cond_f rfl (RW.skip ?_)
       cases h23
       exact ⟨_,rfl,(Gh.ren0 [0,1] (.cells rfl rfl .z6 (.cells rfl rfl .z6 .nil)) rfl (.p rfl rfl (.p rfl rfl (.b rfl .nil))))⟩
      ·have h24:=A4 ey6 hb
       refine RW.cond_t rfl (RW.seq ?_)
       obtain ⟨y7,ey7,h25⟩:=A3 h24
       refine RW.cutq (σ:=Bool) (fun y7=>[(1,.ptr 0 0),(3,.ptr 1 0),(4,.bool y7)]) (fun y7=>[some ⟨F7 false x0,0⟩,some ⟨[.j 0,.j 0,.j y3.2,.j x0.Next,.j x0.Flags,.str x0.User,.str x0.Name,.str x0.Text],0⟩]) (fun y=>y7 = y) (fun _ _ _ _ g h=>RW.gh g h) ?_ ?_
       ·refine RW.reg ?_
        refine rl.run 2 rfl ?_
        cases hb : y3.1
        ·have h26:=A5 ey7 hb
         refine rl.run 5 rfl (rl.done ?_)
         cases h26
         exact ⟨_,rfl,(Gh.ren0 [0,1] (.cells rfl rfl .z6 (.cells rfl rfl .z6 .nil)) rfl (.p rfl rfl (.p rfl rfl (.b rfl .nil))))⟩
        ·have h27:=A4 ey7 hb
         refine rl.run 2 rfl ?_
         obtain ⟨v8,e8,h28⟩:=A3 h27
         refine rl.call rfl rfl rfl (A7.val (r':=.bool v8) D8 (C8 e8) (.cons .int (.cons .int (.cons .int .nil))) .refl ?_)
         cases hb : v8
         ·have h29:=A5 h28 hb
          refine rl.run 2 rfl (rl.done ?_)
          cases h29
          exact ⟨_,rfl,(Gh.ren0 [0,1] (.cells rfl rfl .z6 (.cells rfl rfl .z6 .nil)) rfl (.p rfl rfl (.p rfl rfl (.b rfl .nil))))⟩
         ·have h30:=A4 h28 hb
          refine rl.run 2 rfl (rl.done ?_)
          cases h30
          exact ⟨_,rfl,(Gh.ren0 [0,1] (.cells rfl rfl .z6 (.cells rfl rfl .z6 .nil)) rfl (.p rfl rfl (.p rfl rfl (.b rfl .nil))))⟩
       ·intro y hC
        subst hC
        refine RW.reg (rl.run 2 rfl (rl.done ?_))
        cases h25
        exact ⟨_,rfl,(Gh.ren0 [0,1] (.cells rfl rfl .z6 (.cells rfl rfl .z6 .nil)) rfl (.p rfl rfl (.p rfl rfl (.b rfl .nil))))⟩
     ·intro y hC
      subst hC
      refine RW.seq (RW.sreg (rl.run 2 rfl (rl.done ?_)))
      obtain ⟨y9,ey9,h31⟩:=A3 h22
      refine RW.cutq (σ:=Bool × Int × (List UInt8) × (List UInt8) × (List UInt8)) (fun y9=>[(3,.ptr 0 0),(4,.bool y9.1)]) (fun y9=>[some ⟨[.j 0,.j 0,.j y3.2,.j y9.2.1,.j y6.2,.str y9.2.2.1,.str y9.2.2.2.1,.str y9.2.2.2.2],0⟩]) (fun y=>y9 = .inr y) (fun _ _ _ _ g h=>RW.gh g h) ?_ ?_
      ·refine RW.blk ?_
       refine RW.sreg ?_
       refine rl.gen rfl rfl fun b hb=>?_
       cases b
       ·have h32:=A5 ey9 hb
        refine rl.run 1 rfl (rl.done (RW.cond_f rfl (RW.sreg ?_)))
        refine rl.gen rfl rfl fun b hb=>?_
        cases b
        ·have h33:=A5 h32 hb
         refine rl.run 1 rfl (rl.done (RW.cond_f rfl (RW.seq (RW.sreg ?_))))
         refine rl.gen rfl rfl fun b hb=>?_
         cases b
         ·have h34:=A5 h33 hb
          refine rl.run 1 rfl (rl.done (RW.cond_f rfl (RW.sreg ?_)))
          refine rl.gen rfl rfl fun b hb=>?_
          cases b
          ·have h35:=A5 h34 hb
           refine rl.run 1 rfl (rl.done (RW.cond_f rfl (RW.reg ?_)))
           refine rl.gen rfl rfl fun b hb=>?_
           cases b
           ·have h36:=A5 h35 hb
            refine rl.run 1 rfl (rl.done (RW.cond_f rfl (RW.sreg (rl.run 1 rfl (rl.done ?_)))))
            refine RW.kp [2] [(2,.bool false)] [some ⟨F7 false x0,0⟩,some ⟨[.j 0,.j 0,.j y3.2,.j x0.Next,.j y6.2,.str x0.User,.str x0.Name,.str x0.Text],0⟩] rfl rfl ?_
            refine RW.ret ?_
            cases h36
            have h37:=elimL h31 rfl
            cases h37
            exact RRet.mk rfl .bool (by first | decide | simp)
           ·have h38:=A4 h35 hb
            refine rl.run 1 rfl (rl.done (RW.cond_t rfl (RW.skip ?_)))
            cases h38
            exact ⟨_,rfl,(Gh.ren0 [1] (.cells rfl rfl .z6 .nil) rfl (.p rfl rfl (.b rfl .nil)))⟩
          ·have h39:=A4 h34 hb
           refine rl.run 1 rfl (rl.done (RW.cond_t rfl (RW.skip (RW.cond_t rfl (RW.skip ?_)))))
           cases h39
           exact ⟨_,rfl,(Gh.ren0 [1] (.cells rfl rfl .z6 .nil) rfl (.p rfl rfl (.b rfl .nil)))⟩
         ·have h40:=A4 h33 hb
          refine rl.run 1 rfl (rl.done (RW.cond_t rfl (RW.skip (RW.cond_t rfl (RW.skip ?_)))))
          cases h40
          exact ⟨_,rfl,(Gh.ren0 [1] (.cells rfl rfl .z6 .nil) rfl (.p rfl rfl (.b rfl .nil)))⟩
        ·have h41:=A4 h32 hb
         refine rl.run 1 rfl (rl.done (RW.cond_t rfl (RW.seq ?_)))
         obtain ⟨y10,ey10,h42⟩:=A3 h41
         refine RW.cutq (σ:=Bool) (fun y10=>[(3,.ptr 0 0),(4,.bool y10)]) (fun y10=>[some ⟨[.j 0,.j 0,.j y3.2,.j x0.Next,.j y6.2,.str x0.User,.str x0.Name,.str x0.Text],0⟩]) (fun y=>y10 = y) (fun _ _ _ _ g h=>RW.gh g h) ?_ ?_
         ·refine RW.reg ?_
          refine rl.run 2 rfl ?_
          cases hb : y6.1
          ·have h43:=A5 ey10 hb
           refine rl.run 6 rfl (rl.done ?_)
           cases h43
           exact ⟨_,rfl,(Gh.ren0 [1] (.cells rfl rfl .z6 .nil) rfl (.p rfl rfl (.b rfl .nil)))⟩
          ·have h44:=A4 ey10 hb
           refine rl.run 3 rfl ?_
           refine rl.gen rfl rfl fun b hb=>?_
           cases b
           ·have h45:=A5 h44 hb
            refine rl.run 2 rfl (rl.done ?_)
            cases h45
            exact ⟨_,rfl,(Gh.ren0 [1] (.cells rfl rfl .z6 .nil) rfl (.p rfl rfl (.b rfl .nil)))⟩
           ·have h46:=A4 h44 hb
            refine rl.run 2 rfl (rl.done ?_)
            cases h46
            exact ⟨_,rfl,(Gh.ren0 [1] (.cells rfl rfl .z6 .nil) rfl (.p rfl rfl (.b rfl .nil)))⟩
         ·intro y hC
          subst hC
          refine RW.reg (rl.run 2 rfl (rl.done ?_))
          cases h42
          exact ⟨_,rfl,(Gh.ren0 [0] (.cells rfl rfl .z6 .nil) rfl (.p rfl rfl (.b rfl .nil)))⟩
       ·have h47:=A4 ey9 hb
        refine rl.run 1 rfl (rl.done (RW.cond_t rfl (RW.seq ?_)))
        obtain ⟨y11,ey11,h48⟩:=A3 h47
        refine RW.cutq (σ:=Bool) (fun y11=>[(3,.ptr 0 0),(4,.bool y11)]) (fun y11=>[some ⟨[.j 0,.j 0,.j y3.2,.j x0.Next,.j y6.2,.str x0.User,.str x0.Name,.str x0.Text],0⟩]) (fun y=>y11 = y) (fun _ _ _ _ g h=>RW.gh g h) ?_ ?_
        ·refine RW.reg ?_
         refine rl.run 2 rfl ?_
         obtain ⟨v12,e12,h49⟩:=A3 ey11
         refine rl.call rfl rfl rfl (A7.val (r':=.bool v12) Ll (Ju e12) (.cons .str .nil) .refl ?_)
         cases hb : v12
         ·have h50:=A5 h49 hb
          refine rl.run 11 rfl (rl.done ?_)
          cases h50
          exact ⟨_,rfl,(Gh.ren0 [1] (.cells rfl rfl .z6 .nil) rfl (.p rfl rfl (.b rfl .nil)))⟩
         ·have h51:=A4 h49 hb
          refine rl.run 3 rfl ?_
          obtain ⟨v13,e13,h52⟩:=A3 h51
          refine rl.call rfl rfl rfl (A7.val (r':=.bool v13) Ll (Ju e13) (.cons .str .nil) .refl ?_)
          cases hb : v13
          ·have h53:=A5 h52 hb
           refine rl.run 7 rfl (rl.done ?_)
           cases h53
           exact ⟨_,rfl,(Gh.ren0 [1] (.cells rfl rfl .z6 .nil) rfl (.p rfl rfl (.b rfl .nil)))⟩
          ·have h54:=A4 h52 hb
           refine rl.run 4 rfl ?_
           obtain ⟨v14,e14,h55⟩:=A3 h54
           refine rl.call rfl rfl rfl (A7.val (r':=.bool v14) D8 (C8 e14) (.cons .int (.cons .int (.cons .int .nil))) .refl ?_)
           cases hb : v14
           ·have h56:=A5 h55 hb
            refine rl.run 2 rfl (rl.done ?_)
            cases h56
            exact ⟨_,rfl,(Gh.ren0 [1] (.cells rfl rfl .z6 .nil) rfl (.p rfl rfl (.b rfl .nil)))⟩
           ·have h57:=A4 h55 hb
            refine rl.run 2 rfl (rl.done ?_)
            cases h57
            exact ⟨_,rfl,(Gh.ren0 [1] (.cells rfl rfl .z6 .nil) rfl (.p rfl rfl (.b rfl .nil)))⟩
        ·intro y hC
         subst hC
         refine RW.reg (rl.run 6 rfl (rl.done ?_))
         cases h48
         exact ⟨_,rfl,(Gh.ren0 [0] (.cells rfl rfl .z6 .nil) rfl (.p rfl rfl (.b rfl .nil)))⟩
      ·intro y9_ hC
       have h31:=elimR h31 hC
       refine RW.sreg (rl.run 2 rfl ?_)
       cases hb : y9_.1
       ·have h58:=A5 h31 hb
        refine rl.run 5 rfl (rl.done (RW.ret ?_))
        cases h58
        exact RRet.mk rfl .bool (by first | decide | simp)
       ·have h59:=A4 h31 hb
        refine rl.run 5 rfl (rl.done (RW.ret ?_))
        cases h59
        exact RRet.mk rfl .bool (by first | decide | simp)
set_option maxHeartbeats 2000000 in
theorem Wk {x0 : List UInt8} {r : TRec × Bool} (hF : P1 x0 = some r) : B3 Tryz.prog 135 [.str x0] (.tup [.agg (F7 true r.1),.bool r.2]):=by
 refine B3.of_r A0o rfl ?_
 unfold P1 at hF
 refine RW.sreg (rl.run 2 rfl (rl.done (RW.seq (RW.sreg (rl.run 1 rfl ?_)))))
 refine rl.gen rfl rfl fun b hb=>?_
 cases b
 ·have h1:=A5 hF hb
  refine rl.done (RW.cond_f rfl (RW.skip (RW.sreg (rl.run 1 rfl ?_))))
  obtain ⟨v1,e1,h2⟩:=A3 h1
  refine rl.op (Xa rfl rfl e1) ?_
  refine rl.run 4 rfl (rl.done (RW.sreg (rl.run 1 rfl (rl.done (RW.seq (RW.sreg (rl.run 7 rfl (rl.done (RW.blk ?_)))))))))
  refine RW.loopIn ?_
  refine RWIn.round ?_
  refine RW.sreg (rl.run 1 rfl (rl.done ?_))
  refine RW.kp [0,2,4,5,27,28,29,30] [(0,.str x0),(2,.ptr 0 0),(4,.ptr 1 0),(5,.j 1),(27,.sl 2 0 4),(28,.j 4),(29,.j 0),(30,.bool true)] [some ⟨[.j 0,.j 0,.j 0,.j 0,.j 0,.str [],.str [],.str []],0⟩,some ⟨[.j (w64 (v1.toNat : Int)),.j 0,.j 0,.j 0,.j 0,.str [],.str [],.str []],0⟩,some ⟨[.ptr 1 1,.ptr 1 2,.ptr 1 3,.ptr 1 4],1⟩] rfl rfl ?_
  refine RW.seq (RW.cond_t rfl (RW.skip (RW.seq (RW.blk (RW.sreg (rl.run 3 rfl (rl.done (RW.sreg (rl.run 2 rfl ?_)))))))))
  obtain ⟨v2,e2,h3⟩:=A3 h2
  refine rl.call rfl rfl rfl (A7.val (r':=.tup [.j v2.1,.j v2.2.1,.bool v2.2.2]) Q3 (M5 e2) (.cons .str (.cons .int .nil)) (FlL.tup (.cons .refl (.cons .refl (.cons .refl .nil)))) ?_)
  refine rl.run 7 rfl (rl.done ?_)
  refine RW.kp [0,2,4,7,8,9,10,27,28,29] [(0,.str x0),(2,.ptr 0 0),(4,.ptr 1 0),(7,.ptr 1 1),(8,.j v2.1),(9,.j v2.2.1),(10,.bool v2.2.2),(27,.sl 2 0 4),(28,.j 4),(29,.j 0)] [some ⟨[.j 0,.j 0,.j 0,.j 0,.j 0,.str [],.str [],.str []],0⟩,some ⟨[.j (w64 (v1.toNat : Int)),.j 0,.j 0,.j 0,.j 0,.str [],.str [],.str []],0⟩,some ⟨[.ptr 1 1,.ptr 1 2,.ptr 1 3,.ptr 1 4],1⟩] rfl rfl ?_
  refine RW.seq (RW.sreg (rl.run 2 rfl (rl.done ?_)))
  cases hb : (!v2.2.2)
  ·have h4:=A5 h3 hb
   refine RW.cond_f rfl (RW.skip (RW.sreg (rl.run 4 rfl (rl.done ?_))))
   refine RW.kp [0,2,4,9,27,28,29] [(0,.str x0),(2,.ptr 0 0),(4,.ptr 1 0),(9,.j v2.2.1),(27,.sl 2 0 4),(28,.j 4),(29,.j 0)] [some ⟨[.j 0,.j 0,.j 0,.j 0,.j 0,.str [],.str [],.str []],0⟩,some ⟨[.j (w64 (v1.toNat : Int)),.j v2.1,.j 0,.j 0,.j 0,.str [],.str [],.str []],0⟩,some ⟨[.ptr 1 1,.ptr 1 2,.ptr 1 3,.ptr 1 4],1⟩] rfl rfl ?_
   refine RW.reg (rl.run 2 rfl (rl.done (RW.reg (rl.run 2 rfl (rl.done ?_)))))
   refine RWIn.round ?_
   refine RW.sreg (rl.run 1 rfl (rl.done (RW.seq (RW.cond_t rfl (RW.skip (RW.seq (RW.blk (RW.sreg (rl.run 3 rfl (rl.done ?_))))))))))
   refine RW.kp [0,2,4,5,7,27,28,29] [(0,.str x0),(2,.ptr 0 0),(4,.ptr 1 0),(5,.j v2.2.1),(7,.ptr 1 2),(27,.sl 2 0 4),(28,.j 4),(29,.j 1)] [some ⟨[.j 0,.j 0,.j 0,.j 0,.j 0,.str [],.str [],.str []],0⟩,some ⟨[.j (w64 (v1.toNat : Int)),.j v2.1,.j 0,.j 0,.j 0,.str [],.str [],.str []],0⟩,some ⟨[.ptr 1 1,.ptr 1 2,.ptr 1 3,.ptr 1 4],1⟩] rfl rfl ?_
   refine RW.sreg (rl.run 2 rfl ?_)
   obtain ⟨v3,e3,h5⟩:=A3 h4
   refine rl.call rfl rfl rfl (A7.val (r':=.tup [.j v3.1,.j v3.2.1,.bool v3.2.2]) Q3 (M5 e3) (.cons .str (.cons .int .nil)) (FlL.tup (.cons .refl (.cons .refl (.cons .refl .nil)))) ?_)
   refine rl.run 7 rfl (rl.done ?_)
   refine RW.kp [0,2,4,7,8,9,10,27,28,29] [(0,.str x0),(2,.ptr 0 0),(4,.ptr 1 0),(7,.ptr 1 2),(8,.j v3.1),(9,.j v3.2.1),(10,.bool v3.2.2),(27,.sl 2 0 4),(28,.j 4),(29,.j 1)] [some ⟨[.j 0,.j 0,.j 0,.j 0,.j 0,.str [],.str [],.str []],0⟩,some ⟨[.j (w64 (v1.toNat : Int)),.j v2.1,.j 0,.j 0,.j 0,.str [],.str [],.str []],0⟩,some ⟨[.ptr 1 1,.ptr 1 2,.ptr 1 3,.ptr 1 4],1⟩] rfl rfl ?_
   refine RW.seq (RW.sreg (rl.run 2 rfl (rl.done ?_)))
   cases hb : (!v3.2.2)
   ·have h6:=A5 h5 hb
    refine RW.cond_f rfl (RW.skip (RW.sreg (rl.run 4 rfl (rl.done ?_))))
    refine RW.kp [0,2,4,9,27,28,29] [(0,.str x0),(2,.ptr 0 0),(4,.ptr 1 0),(9,.j v3.2.1),(27,.sl 2 0 4),(28,.j 4),(29,.j 1)] [some ⟨[.j 0,.j 0,.j 0,.j 0,.j 0,.str [],.str [],.str []],0⟩,some ⟨[.j (w64 (v1.toNat : Int)),.j v2.1,.j v3.1,.j 0,.j 0,.str [],.str [],.str []],0⟩,some ⟨[.ptr 1 1,.ptr 1 2,.ptr 1 3,.ptr 1 4],1⟩] rfl rfl ?_
    refine RW.reg (rl.run 2 rfl (rl.done (RW.reg (rl.run 2 rfl (rl.done ?_)))))
    refine RWIn.round ?_
    refine RW.sreg (rl.run 1 rfl (rl.done (RW.seq (RW.cond_t rfl (RW.skip (RW.seq (RW.blk (RW.sreg (rl.run 3 rfl (rl.done ?_))))))))))
    refine RW.kp [0,2,4,5,7,27,28,29] [(0,.str x0),(2,.ptr 0 0),(4,.ptr 1 0),(5,.j v3.2.1),(7,.ptr 1 3),(27,.sl 2 0 4),(28,.j 4),(29,.j 2)] [some ⟨[.j 0,.j 0,.j 0,.j 0,.j 0,.str [],.str [],.str []],0⟩,some ⟨[.j (w64 (v1.toNat : Int)),.j v2.1,.j v3.1,.j 0,.j 0,.str [],.str [],.str []],0⟩,some ⟨[.ptr 1 1,.ptr 1 2,.ptr 1 3,.ptr 1 4],1⟩] rfl rfl ?_
    refine RW.sreg (rl.run 2 rfl ?_)
    obtain ⟨v4,e4,h7⟩:=A3 h6
    refine rl.call rfl rfl rfl (A7.val (r':=.tup [.j v4.1,.j v4.2.1,.bool v4.2.2]) Q3 (M5 e4) (.cons .str (.cons .int .nil)) (FlL.tup (.cons .refl (.cons .refl (.cons .refl .nil)))) ?_)
    refine rl.run 7 rfl (rl.done ?_)
    refine RW.kp [0,2,4,7,8,9,10,27,28,29] [(0,.str x0),(2,.ptr 0 0),(4,.ptr 1 0),(7,.ptr 1 3),(8,.j v4.1),(9,.j v4.2.1),(10,.bool v4.2.2),(27,.sl 2 0 4),(28,.j 4),(29,.j 2)] [some ⟨[.j 0,.j 0,.j 0,.j 0,.j 0,.str [],.str [],.str []],0⟩,some ⟨[.j (w64 (v1.toNat : Int)),.j v2.1,.j v3.1,.j 0,.j 0,.str [],.str [],.str []],0⟩,some ⟨[.ptr 1 1,.ptr 1 2,.ptr 1 3,.ptr 1 4],1⟩] rfl rfl ?_
    refine RW.seq (RW.sreg (rl.run 2 rfl (rl.done ?_)))
    cases hb : (!v4.2.2)
    ·have h8:=A5 h7 hb
     refine RW.cond_f rfl (RW.skip (RW.sreg (rl.run 4 rfl (rl.done ?_))))
     refine RW.kp [0,2,4,9,27,28,29] [(0,.str x0),(2,.ptr 0 0),(4,.ptr 1 0),(9,.j v4.2.1),(27,.sl 2 0 4),(28,.j 4),(29,.j 2)] [some ⟨[.j 0,.j 0,.j 0,.j 0,.j 0,.str [],.str [],.str []],0⟩,some ⟨[.j (w64 (v1.toNat : Int)),.j v2.1,.j v3.1,.j v4.1,.j 0,.str [],.str [],.str []],0⟩,some ⟨[.ptr 1 1,.ptr 1 2,.ptr 1 3,.ptr 1 4],1⟩] rfl rfl ?_
     refine RW.reg (rl.run 2 rfl (rl.done (RW.reg (rl.run 2 rfl (rl.done ?_)))))
     refine RWIn.round ?_
     refine RW.sreg (rl.run 1 rfl (rl.done (RW.seq (RW.cond_t rfl (RW.skip (RW.seq (RW.blk (RW.sreg (rl.run 3 rfl (rl.done ?_))))))))))
     refine RW.kp [0,2,4,5,7,27,28,29] [(0,.str x0),(2,.ptr 0 0),(4,.ptr 1 0),(5,.j v4.2.1),(7,.ptr 1 4),(27,.sl 2 0 4),(28,.j 4),(29,.j 3)] [some ⟨[.j 0,.j 0,.j 0,.j 0,.j 0,.str [],.str [],.str []],0⟩,some ⟨[.j (w64 (v1.toNat : Int)),.j v2.1,.j v3.1,.j v4.1,.j 0,.str [],.str [],.str []],0⟩,some ⟨[.ptr 1 1,.ptr 1 2,.ptr 1 3,.ptr 1 4],1⟩] rfl rfl ?_
     refine RW.sreg (rl.run 2 rfl ?_)
     obtain ⟨v5,e5,h9⟩:=A3 h8
     refine rl.call rfl rfl rfl (A7.val (r':=.tup [.j v5.1,.j v5.2.1,.bool v5.2.2]) Q3 (M5 e5) (.cons .str (.cons .int .nil)) (FlL.tup (.cons .refl (.cons .refl (.cons .refl .nil)))) ?_)
     refine rl.run 7 rfl (rl.done ?_)
     refine RW.kp [0,2,4,7,8,9,10,27,28,29] [(0,.str x0),(2,.ptr 0 0),(4,.ptr 1 0),(7,.ptr 1 4),(8,.j v5.1),(9,.j v5.2.1),(10,.bool v5.2.2),(27,.sl 2 0 4),(28,.j 4),(29,.j 3)] [some ⟨[.j 0,.j 0,.j 0,.j 0,.j 0,.str [],.str [],.str []],0⟩,some ⟨[.j (w64 (v1.toNat : Int)),.j v2.1,.j v3.1,.j v4.1,.j 0,.str [],.str [],.str []],0⟩,some ⟨[.ptr 1 1,.ptr 1 2,.ptr 1 3,.ptr 1 4],1⟩] rfl rfl ?_
     refine RW.seq (RW.sreg (rl.run 2 rfl (rl.done ?_)))
     cases hb : (!v5.2.2)
     ·have h10:=A5 h9 hb
      refine RW.cond_f rfl (RW.skip (RW.sreg (rl.run 4 rfl (rl.done ?_))))
      refine RW.kp [0,2,4,9,27,28,29] [(0,.str x0),(2,.ptr 0 0),(4,.ptr 1 0),(9,.j v5.2.1),(27,.sl 2 0 4),(28,.j 4),(29,.j 3)] [some ⟨[.j 0,.j 0,.j 0,.j 0,.j 0,.str [],.str [],.str []],0⟩,some ⟨[.j (w64 (v1.toNat : Int)),.j v2.1,.j v3.1,.j v4.1,.j v5.1,.str [],.str [],.str []],0⟩,some ⟨[.ptr 1 1,.ptr 1 2,.ptr 1 3,.ptr 1 4],1⟩] rfl rfl ?_
      refine RW.reg (rl.run 2 rfl (rl.done (RW.reg (rl.run 2 rfl (rl.done ?_)))))
      refine RWIn.round ?_
      refine RW.sreg (rl.run 1 rfl (rl.done (RW.seq (RW.cond_f rfl (RW.exit (D0 (RW.seq (RW.sreg (rl.run 6 rfl (rl.done ?_))))))))))
      refine RW.kp [0,2,4,5,51,52,53] [(0,.str x0),(2,.ptr 0 0),(4,.ptr 1 0),(5,.j v5.2.1),(51,.sl 3 0 3),(52,.j 3),(53,.j 0)] [some ⟨[.j 0,.j 0,.j 0,.j 0,.j 0,.str [],.str [],.str []],0⟩,some ⟨[.j (w64 (v1.toNat : Int)),.j v2.1,.j v3.1,.j v4.1,.j v5.1,.str [],.str [],.str []],0⟩,some ⟨[.ptr 1 1,.ptr 1 2,.ptr 1 3,.ptr 1 4],1⟩,some ⟨[.ptr 1 5,.ptr 1 6,.ptr 1 7],1⟩] rfl rfl ?_
      refine RW.blk ?_
      refine RW.loopIn ?_
      refine RWIn.round ?_
      refine RW.sreg (rl.run 1 rfl (rl.done (RW.seq (RW.cond_t rfl (RW.skip (RW.seq (RW.blk (RW.sreg (rl.run 3 rfl (rl.done (RW.sreg ?_)))))))))))
      refine rl.run 2 rfl ?_
      obtain ⟨v6,e6,h11⟩:=A3 h10
      refine rl.call rfl rfl rfl (A7.val (r':=.tup [.str v6.1,.j v6.2.1,.bool v6.2.2]) Ak (Y6 e6) (.cons .str (.cons .int .nil)) (FlL.tup (.cons .refl (.cons .refl (.cons .refl .nil)))) ?_)
      refine rl.run 7 rfl (rl.done ?_)
      refine RW.kp [0,2,4,12,13,14,15,51,52,53] [(0,.str x0),(2,.ptr 0 0),(4,.ptr 1 0),(12,.ptr 1 5),(13,.str v6.1),(14,.j v6.2.1),(15,.bool v6.2.2),(51,.sl 3 0 3),(52,.j 3),(53,.j 0)] [some ⟨[.j 0,.j 0,.j 0,.j 0,.j 0,.str [],.str [],.str []],0⟩,some ⟨[.j (w64 (v1.toNat : Int)),.j v2.1,.j v3.1,.j v4.1,.j v5.1,.str [],.str [],.str []],0⟩,some ⟨[.ptr 1 1,.ptr 1 2,.ptr 1 3,.ptr 1 4],1⟩,some ⟨[.ptr 1 5,.ptr 1 6,.ptr 1 7],1⟩] rfl rfl ?_
      refine RW.seq (RW.sreg (rl.run 2 rfl (rl.done ?_)))
      cases hb : (!v6.2.2)
      ·have h12:=A5 h11 hb
       refine RW.cond_f rfl (RW.skip (RW.sreg (rl.run 4 rfl (rl.done ?_))))
       refine RW.kp [0,2,4,14,51,52,53] [(0,.str x0),(2,.ptr 0 0),(4,.ptr 1 0),(14,.j v6.2.1),(51,.sl 3 0 3),(52,.j 3),(53,.j 0)] [some ⟨[.j 0,.j 0,.j 0,.j 0,.j 0,.str [],.str [],.str []],0⟩,some ⟨[.j (w64 (v1.toNat : Int)),.j v2.1,.j v3.1,.j v4.1,.j v5.1,.str v6.1,.str [],.str []],0⟩,some ⟨[.ptr 1 1,.ptr 1 2,.ptr 1 3,.ptr 1 4],1⟩,some ⟨[.ptr 1 5,.ptr 1 6,.ptr 1 7],1⟩] rfl rfl ?_
       refine RW.reg (rl.run 2 rfl (rl.done (RW.reg (rl.run 2 rfl (rl.done ?_)))))
       refine RWIn.round ?_
       refine RW.sreg (rl.run 1 rfl (rl.done (RW.seq (RW.cond_t rfl (RW.skip (RW.seq (RW.blk (RW.sreg (rl.run 3 rfl (rl.done ?_))))))))))
       refine RW.kp [0,2,4,5,12,51,52,53] [(0,.str x0),(2,.ptr 0 0),(4,.ptr 1 0),(5,.j v6.2.1),(12,.ptr 1 6),(51,.sl 3 0 3),(52,.j 3),(53,.j 1)] [some ⟨[.j 0,.j 0,.j 0,.j 0,.j 0,.str [],.str [],.str []],0⟩,some ⟨[.j (w64 (v1.toNat : Int)),.j v2.1,.j v3.1,.j v4.1,.j v5.1,.str v6.1,.str [],.str []],0⟩,some ⟨[.ptr 1 1,.ptr 1 2,.ptr 1 3,.ptr 1 4],1⟩,some ⟨[.ptr 1 5,.ptr 1 6,.ptr 1 7],1⟩] rfl rfl ?_
       refine RW.sreg (rl.run 2 rfl ?_)
       obtain ⟨v7,e7,h13⟩:=A3 h12
       refine rl.call rfl rfl rfl (A7.val (r':=.tup [.str v7.1,.j v7.2.1,.bool v7.2.2]) Ak (Y6 e7) (.cons .str (.cons .int .nil)) (FlL.tup (.cons .refl (.cons .refl (.cons .refl .nil)))) ?_)
       refine rl.run 7 rfl (rl.done ?_)
       refine RW.kp [0,2,4,12,13,14,15,51,52,53] [(0,.str x0),(2,.ptr 0 0),(4,.ptr 1 0),(12,.ptr 1 6),(13,.str v7.1),(14,.j v7.2.1),(15,.bool v7.2.2),(51,.sl 3 0 3),(52,.j 3),(53,.j 1)] [some ⟨[.j 0,.j 0,.j 0,.j 0,.j 0,.str [],.str [],.str []],0⟩,some ⟨[.j (w64 (v1.toNat : Int)),.j v2.1,.j v3.1,.j v4.1,.j v5.1,.str v6.1,.str [],.str []],0⟩,some ⟨[.ptr 1 1,.ptr 1 2,.ptr 1 3,.ptr 1 4],1⟩,some ⟨[.ptr 1 5,.ptr 1 6,.ptr 1 7],1⟩] rfl rfl ?_
       refine RW.seq (RW.sreg (rl.run 2 rfl (rl.done ?_)))
       cases hb : (!v7.2.2)
       ·have h14:=A5 h13 hb
        refine RW.cond_f rfl (RW.skip (RW.sreg (rl.run 4 rfl (rl.done ?_))))
        refine RW.kp [0,2,4,14,51,52,53] [(0,.str x0),(2,.ptr 0 0),(4,.ptr 1 0),(14,.j v7.2.1),(51,.sl 3 0 3),(52,.j 3),(53,.j 1)] [some ⟨[.j 0,.j 0,.j 0,.j 0,.j 0,.str [],.str [],.str []],0⟩,some ⟨[.j (w64 (v1.toNat : Int)),.j v2.1,.j v3.1,.j v4.1,.j v5.1,.str v6.1,.str v7.1,.str []],0⟩,some ⟨[.ptr 1 1,.ptr 1 2,.ptr 1 3,.ptr 1 4],1⟩,some ⟨[.ptr 1 5,.ptr 1 6,.ptr 1 7],1⟩] rfl rfl ?_
        refine RW.reg (rl.run 2 rfl (rl.done (RW.reg (rl.run 2 rfl (rl.done ?_)))))
        refine RWIn.round ?_
        refine RW.sreg (rl.run 1 rfl (rl.done (RW.seq (RW.cond_t rfl (RW.skip (RW.seq (RW.blk (RW.sreg (rl.run 3 rfl (rl.done ?_))))))))))
        refine RW.kp [0,2,4,5,12,51,52,53] [(0,.str x0),(2,.ptr 0 0),(4,.ptr 1 0),(5,.j v7.2.1),(12,.ptr 1 7),(51,.sl 3 0 3),(52,.j 3),(53,.j 2)] [some ⟨[.j 0,.j 0,.j 0,.j 0,.j 0,.str [],.str [],.str []],0⟩,some ⟨[.j (w64 (v1.toNat : Int)),.j v2.1,.j v3.1,.j v4.1,.j v5.1,.str v6.1,.str v7.1,.str []],0⟩,some ⟨[.ptr 1 1,.ptr 1 2,.ptr 1 3,.ptr 1 4],1⟩,some ⟨[.ptr 1 5,.ptr 1 6,.ptr 1 7],1⟩] rfl rfl ?_
        refine RW.sreg (rl.run 2 rfl ?_)
        obtain ⟨v8,e8,h15⟩:=A3 h14
        refine rl.call rfl rfl rfl (A7.val (r':=.tup [.str v8.1,.j v8.2.1,.bool v8.2.2]) Ak (Y6 e8) (.cons .str (.cons .int .nil)) (FlL.tup (.cons .refl (.cons .refl (.cons .refl .nil)))) ?_)
        refine rl.run 7 rfl (rl.done ?_)
        refine RW.kp [0,2,4,12,13,14,15,51,52,53] [(0,.str x0),(2,.ptr 0 0),(4,.ptr 1 0),(12,.ptr 1 7),(13,.str v8.1),(14,.j v8.2.1),(15,.bool v8.2.2),(51,.sl 3 0 3),(52,.j 3),(53,.j 2)] [some ⟨[.j 0,.j 0,.j 0,.j 0,.j 0,.str [],.str [],.str []],0⟩,some ⟨[.j (w64 (v1.toNat : Int)),.j v2.1,.j v3.1,.j v4.1,.j v5.1,.str v6.1,.str v7.1,.str []],0⟩,some ⟨[.ptr 1 1,.ptr 1 2,.ptr 1 3,.ptr 1 4],1⟩,some ⟨[.ptr 1 5,.ptr 1 6,.ptr 1 7],1⟩] rfl rfl ?_
        refine RW.seq (RW.sreg (rl.run 2 rfl (rl.done ?_)))
        cases hb : (!v8.2.2)
        ·have h16:=A5 h15 hb
         refine RW.cond_f rfl (RW.skip (RW.sreg (rl.run 4 rfl (rl.done ?_))))
         refine RW.kp [0,2,4,14,51,52,53] [(0,.str x0),(2,.ptr 0 0),(4,.ptr 1 0),(14,.j v8.2.1),(51,.sl 3 0 3),(52,.j 3),(53,.j 2)] [some ⟨[.j 0,.j 0,.j 0,.j 0,.j 0,.str [],.str [],.str []],0⟩,some ⟨[.j (w64 (v1.toNat : Int)),.j v2.1,.j v3.1,.j v4.1,.j v5.1,.str v6.1,.str v7.1,.str v8.1],0⟩,some ⟨[.ptr 1 1,.ptr 1 2,.ptr 1 3,.ptr 1 4],1⟩,some ⟨[.ptr 1 5,.ptr 1 6,.ptr 1 7],1⟩] rfl rfl ?_
         refine RW.reg (rl.run 2 rfl (rl.done (RW.reg (rl.run 2 rfl (rl.done ?_)))))
         refine RWIn.round ?_
         refine RW.sreg (rl.run 1 rfl (rl.done (RW.seq (RW.cond_f rfl (RW.exit (D0 (RW.seq (RW.seq ?_))))))))
         obtain ⟨y9,ey9,h17⟩:=A3 h16
         refine RW.cutq (σ:=Bool) (fun y9=>[(2,.ptr 0 0),(4,.ptr 1 0),(80,.bool y9)]) (fun y9=>[some ⟨[.j 0,.j 0,.j 0,.j 0,.j 0,.str [],.str [],.str []],0⟩,some ⟨[.j (w64 (v1.toNat : Int)),.j v2.1,.j v3.1,.j v4.1,.j v5.1,.str v6.1,.str v7.1,.str v8.1],0⟩]) (fun y=>y9 = y) (fun _ _ _ _ g h=>RW.gh g h) ?_ ?_
         ·refine RW.reg ?_
          refine rl.run 3 rfl ?_
          refine rl.gen rfl rfl fun b hb=>?_
          cases b
          ·have h18:=A5 ey9 hb
           refine rl.run 2 rfl ?_
           obtain ⟨v10,e10,h19⟩:=A3 h18
           refine rl.call rfl rfl rfl (A7.val (r':=.bool v10) Mq (Ku e10) (.cons (DFL.agg (.cons .int (.cons .int (.cons .int (.cons .int (.cons .int (.cons .str (.cons .str (.cons .str .nil))))))))) .nil) .refl ?_)
           cases hb : v10
           ·have h20:=A5 h19 hb
            refine rl.run 2 rfl (rl.done ?_)
            cases h20
            exact ⟨_,rfl,(Gh.ren0 [0,1] (.cells rfl rfl .z6 (.cells rfl rfl .z6 .nil)) rfl (.p rfl rfl (.p rfl rfl (.b rfl .nil))))⟩
           ·have h21:=A4 h19 hb
            refine rl.run 2 rfl (rl.done ?_)
            cases h21
            exact ⟨_,rfl,(Gh.ren0 [0,1] (.cells rfl rfl .z6 (.cells rfl rfl .z6 .nil)) rfl (.p rfl rfl (.p rfl rfl (.b rfl .nil))))⟩
          ·have h22:=A4 ey9 hb
           refine rl.run 5 rfl (rl.done ?_)
           cases h22
           exact ⟨_,rfl,(Gh.ren0 [0,1] (.cells rfl rfl .z6 (.cells rfl rfl .z6 .nil)) rfl (.p rfl rfl (.p rfl rfl (.b rfl .nil))))⟩
         ·intro y hC
          subst hC
          cases hb : y9
          ·have h23:=A5 h17 hb
           refine RW.cond_f rfl (RW.skip (RW.sreg (rl.run 3 rfl (rl.done (RW.ret ?_)))))
           cases h23
           exact RRet.mk rfl (OutT.tup (.cons (OutL.agg (.i (.i (.i (.i (.i (.cons .str rfl (.cons .str rfl (.cons .str rfl .nil))))))))) (.cons .bool .nil))) (by first | decide | simp)
          ·have h24:=A4 h17 hb
           refine RW.cond_t rfl (RW.sreg (rl.run 3 rfl (rl.done (RW.ret ?_))))
           cases h24
           exact RRet.mk rfl (OutT.tup (.cons (OutL.agg (.i (.i (.i (.i (.i (.cons .str rfl (.cons .str rfl (.cons .str rfl .nil))))))))) (.cons .bool .nil))) (by first | decide | simp)
        ·have h25:=A4 h15 hb
         refine RW.cond_t rfl (RW.sreg (rl.run 3 rfl (rl.done ?_)))
         refine RW.kp [2,3] [(2,.ptr 0 0),(3,.bool false)] [some ⟨[.j 0,.j 0,.j 0,.j 0,.j 0,.str [],.str [],.str []],0⟩,some ⟨[.j (w64 (v1.toNat : Int)),.j v2.1,.j v3.1,.j v4.1,.j v5.1,.str v6.1,.str v7.1,.str []],0⟩,some ⟨[.ptr 1 1,.ptr 1 2,.ptr 1 3,.ptr 1 4],1⟩,some ⟨[.ptr 1 5,.ptr 1 6,.ptr 1 7],1⟩] rfl rfl ?_
         refine RW.ret ?_
         cases h25
         exact RRet.mk rfl (OutT.tup (.cons (OutL.agg (.i (.i (.i (.i (.i (.cons .str rfl (.cons .str rfl (.cons .str rfl .nil))))))))) (.cons .bool .nil))) (by first | decide | simp)
       ·have h26:=A4 h13 hb
        refine RW.cond_t rfl (RW.sreg (rl.run 3 rfl (rl.done ?_)))
        refine RW.kp [2,3] [(2,.ptr 0 0),(3,.bool false)] [some ⟨[.j 0,.j 0,.j 0,.j 0,.j 0,.str [],.str [],.str []],0⟩,some ⟨[.j (w64 (v1.toNat : Int)),.j v2.1,.j v3.1,.j v4.1,.j v5.1,.str v6.1,.str [],.str []],0⟩,some ⟨[.ptr 1 1,.ptr 1 2,.ptr 1 3,.ptr 1 4],1⟩,some ⟨[.ptr 1 5,.ptr 1 6,.ptr 1 7],1⟩] rfl rfl ?_
        refine RW.ret ?_
        cases h26
        exact RRet.mk rfl (OutT.tup (.cons (OutL.agg (.i (.i (.i (.i (.i (.cons .str rfl (.cons .str rfl (.cons .str rfl .nil))))))))) (.cons .bool .nil))) (by first | decide | simp)
      ·have h27:=A4 h11 hb
       refine RW.cond_t rfl (RW.sreg (rl.run 3 rfl (rl.done ?_)))
       refine RW.kp [2,3] [(2,.ptr 0 0),(3,.bool false)] [some ⟨[.j 0,.j 0,.j 0,.j 0,.j 0,.str [],.str [],.str []],0⟩,some ⟨[.j (w64 (v1.toNat : Int)),.j v2.1,.j v3.1,.j v4.1,.j v5.1,.str [],.str [],.str []],0⟩,some ⟨[.ptr 1 1,.ptr 1 2,.ptr 1 3,.ptr 1 4],1⟩,some ⟨[.ptr 1 5,.ptr 1 6,.ptr 1 7],1⟩] rfl rfl ?_
       refine RW.ret ?_
       cases h27
       exact RRet.mk rfl (OutT.tup (.cons (OutL.agg (.i (.i (.i (.i (.i (.cons .str rfl (.cons .str rfl (.cons .str rfl .nil))))))))) (.cons .bool .nil))) (by first | decide | simp)
     ·have h28:=A4 h9 hb
      refine RW.cond_t rfl (RW.sreg (rl.run 3 rfl (rl.done ?_)))
      refine RW.kp [2,3] [(2,.ptr 0 0),(3,.bool false)] [some ⟨[.j 0,.j 0,.j 0,.j 0,.j 0,.str [],.str [],.str []],0⟩,some ⟨[.j (w64 (v1.toNat : Int)),.j v2.1,.j v3.1,.j v4.1,.j 0,.str [],.str [],.str []],0⟩,some ⟨[.ptr 1 1,.ptr 1 2,.ptr 1 3,.ptr 1 4],1⟩] rfl rfl ?_
      refine RW.ret ?_
      cases h28
      exact RRet.mk rfl (OutT.tup (.cons (OutL.agg (.i (.i (.i (.i (.i (.cons .str rfl (.cons .str rfl (.cons .str rfl .nil))))))))) (.cons .bool .nil))) (by first | decide | simp)
    ·have h29:=A4 h7 hb
     refine RW.cond_t rfl (RW.sreg (rl.run 3 rfl (rl.done ?_)))
     refine RW.kp [2,3] [(2,.ptr 0 0),(3,.bool false)] [some ⟨[.j 0,.j 0,.j 0,.j 0,.j 0,.str [],.str [],.str []],0⟩,some ⟨[.j (w64 (v1.toNat : Int)),.j v2.1,.j v3.1,.j 0,.j 0,.str [],.str [],.str []],0⟩,some ⟨[.ptr 1 1,.ptr 1 2,.ptr 1 3,.ptr 1 4],1⟩] rfl rfl ?_
     refine RW.ret ?_
     cases h29
     exact RRet.mk rfl (OutT.tup (.cons (OutL.agg (.i (.i (.i (.i (.i (.cons .str rfl (.cons .str rfl (.cons .str rfl .nil))))))))) (.cons .bool .nil))) (by first | decide | simp)
   ·have h30:=A4 h5 hb
    refine RW.cond_t rfl (RW.sreg (rl.run 3 rfl (rl.done ?_)))
    refine RW.kp [2,3] [(2,.ptr 0 0),(3,.bool false)] [some ⟨[.j 0,.j 0,.j 0,.j 0,.j 0,.str [],.str [],.str []],0⟩,some ⟨[.j (w64 (v1.toNat : Int)),.j v2.1,.j 0,.j 0,.j 0,.str [],.str [],.str []],0⟩,some ⟨[.ptr 1 1,.ptr 1 2,.ptr 1 3,.ptr 1 4],1⟩] rfl rfl ?_
    refine RW.ret ?_
    cases h30
    exact RRet.mk rfl (OutT.tup (.cons (OutL.agg (.i (.i (.i (.i (.i (.cons .str rfl (.cons .str rfl (.cons .str rfl .nil))))))))) (.cons .bool .nil))) (by first | decide | simp)
  ·have h31:=A4 h3 hb
   refine RW.cond_t rfl (RW.sreg (rl.run 3 rfl (rl.done ?_)))
   refine RW.kp [2,3] [(2,.ptr 0 0),(3,.bool false)] [some ⟨[.j 0,.j 0,.j 0,.j 0,.j 0,.str [],.str [],.str []],0⟩,some ⟨[.j (w64 (v1.toNat : Int)),.j 0,.j 0,.j 0,.j 0,.str [],.str [],.str []],0⟩,some ⟨[.ptr 1 1,.ptr 1 2,.ptr 1 3,.ptr 1 4],1⟩] rfl rfl ?_
   refine RW.ret ?_
   cases h31
   exact RRet.mk rfl (OutT.tup (.cons (OutL.agg (.i (.i (.i (.i (.i (.cons .str rfl (.cons .str rfl (.cons .str rfl .nil))))))))) (.cons .bool .nil))) (by first | decide | simp)
 ·have h32:=A4 hF hb
  refine rl.done (RW.cond_t rfl (RW.sreg (rl.run 3 rfl (rl.done (RW.ret ?_)))))
  cases h32
  exact RRet.mk rfl (OutT.tup (.cons (OutL.agg (.i (.i (.i (.i (.i (.cons .str rfl (.cons .str rfl (.cons .str rfl .nil))))))))) (.cons .bool .nil))) (by first | decide | simp)
theorem Pt {x0 : TFrame} {r : TItem × Bool} (hF : X4 x0 = some r) : B3 Tryz.prog 72 [.agg (B9 false x0)] (.tup [.agg (B2 true r.1),.bool r.2]):=by
 refine B3.of_r Vo rfl ?_
 unfold X4 at hF
 refine RW.sreg (rl.run 3 rfl (rl.done (RW.sreg (rl.run 2 rfl ?_))))
 obtain ⟨v1,e1,h1⟩:=A3 hF
 refine rl.call rfl rfl rfl (A7.val (r':=.tup [.agg (F7 false v1.1),.bool v1.2]) Zr (Wk e1) (.cons .str .nil) (FlL.tup (.cons .refl (.cons .refl .nil))) ?_)
 refine rl.run 6 rfl (rl.done (RW.seq (RW.seq ?_)))
 obtain ⟨y2,ey2,h2⟩:=A3 h1
 refine RW.cutq (σ:=Bool) (fun y2=>[(1,.ptr 0 0),(2,.ptr 1 0),(4,.ptr 2 0),(18,.bool y2)]) (fun y2=>[some ⟨B9 false x0,0⟩,some ⟨[.j 0,.j 0,.j 0,.j 0,.j 0,.j 0,.str [],.str [],.str []],0⟩,some ⟨F7 false v1.1,0⟩]) (fun y=>y2 = y) (fun _ _ _ _ g h=>RW.gh g h) ?_ ?_
 ·refine RW.reg ?_
  refine rl.run 3 rfl ?_
  cases hb : (!v1.2)
  ·have h3:=A5 ey2 hb
   refine rl.run 1 rfl ?_
   obtain ⟨v3,e3,h4⟩:=A3 h3
   refine rl.call rfl rfl rfl (A7.val (r':=.bool v3) Fg (Ea e3) (.cons (DFL.agg (.cons .int (.cons .int (.cons .str .nil)))) .nil) .refl ?_)
   cases hb : v3
   ·have h5:=A5 h4 hb
    refine rl.run 2 rfl (rl.done ?_)
    cases h5
    exact ⟨_,rfl,(Gh.ren0 [0,1,2] (.cells rfl rfl .z5 (.cells rfl rfl .z7 (.cells rfl rfl .z6 .nil))) rfl (.p rfl rfl (.p rfl rfl (.p rfl rfl (.b rfl .nil)))))⟩
   ·have h6:=A4 h4 hb
    refine rl.run 2 rfl (rl.done ?_)
    cases h6
    exact ⟨_,rfl,(Gh.ren0 [0,1,2] (.cells rfl rfl .z5 (.cells rfl rfl .z7 (.cells rfl rfl .z6 .nil))) rfl (.p rfl rfl (.p rfl rfl (.p rfl rfl (.b rfl .nil)))))⟩
  ·have h7:=A4 ey2 hb
   refine rl.run 4 rfl (rl.done ?_)
   cases h7
   exact ⟨_,rfl,(Gh.ren0 [0,1,2] (.cells rfl rfl .z5 (.cells rfl rfl .z7 (.cells rfl rfl .z6 .nil))) rfl (.p rfl rfl (.p rfl rfl (.p rfl rfl (.b rfl .nil)))))⟩
 ·intro y hC
  subst hC
  cases hb : y2
  ·have h8:=A5 h2 hb
   refine RW.cond_f rfl (RW.skip (RW.sreg (rl.run 6 rfl (rl.done (RW.ret ?_)))))
   cases h8
   exact RRet.mk rfl (OutT.tup (.cons (OutL.agg (.i (.i (.i (.i (.i (.i (.cons .str rfl (.cons .str rfl (.cons .str rfl .nil)))))))))) (.cons .bool .nil))) (by first | decide | simp)
  ·have h9:=A4 h2 hb
   refine RW.cond_t rfl (RW.sreg (rl.run 3 rfl (rl.done (RW.ret ?_))))
   cases h9
   exact RRet.mk rfl (OutT.tup (.cons (OutL.agg (.i (.i (.i (.i (.i (.i (.cons .str rfl (.cons .str rfl (.cons .str rfl .nil)))))))))) (.cons .bool .nil))) (by first | decide | simp)
set_option maxHeartbeats 2000000 in
theorem Kd {x0 : TDisk} {x1 : TSeg} {r : Bool} (hF : Aa x0 x1 = some r) : B3 Tryz.prog 58 [.agg (A6 false x0),.agg (A8 false x1)] (.bool r):=by
 refine B3.of_r A36 rfl ?_
 unfold Aa at hF
 refine RW.sreg (rl.run 3 rfl (rl.done (RW.sreg (rl.run 3 rfl ?_))))
 obtain ⟨v1,e1,h1⟩:=A3 hF
 refine rl.call rfl rfl rfl (A7.val (r':=.tup [Kv v1.1,.j v1.2]) Qv (Px e1) (.cons (DFL.agg (.cons (.lst ekS) (.cons (.lst A1) .nil))) (.cons .int .nil)) (FlL.tup (.cons .refl (.cons .refl .nil))) ?_)
 refine rl.run 5 rfl (rl.done (RW.seq (RW.seq ?_)))
 obtain ⟨y2,ey2,h2⟩:=A3 h1
 refine RW.cutq (σ:=Bool) (fun y2=>[(3,.ptr 0 0),(5,Kv v1.1),(43,.bool y2)]) (fun y2=>[some ⟨A8 false x1,0⟩]) (fun y=>y2 = y) (fun _ _ _ _ g h=>RW.gh g h) ?_ ?_
 ·refine RW.drw ?_
  refine A0.op rfl rfl (A0.op rfl rfl (A0.op rfl rfl ?_))
  obtain ⟨v3,e3,h3⟩:=A3 ey2
  refine A0.call rfl rfl rfl (A7.val (r':=.j v3) Lg (Kb e3) (.cons (DFL.agg (.cons (.lst ekS) (.cons (.lst A1) .nil))) (.cons .int .nil)) .refl ⟨rfl,?_⟩)
  refine A0.op rfl rfl (A0.op rfl rfl ?_)
  refine A0.gen rfl rfl fun b hb=>?_
  cases b
  ·have h4:=A5 h3 hb
   refine A0.op rfl rfl (A0.op rfl rfl (A0.op rfl rfl ?_))
   refine A0.gen rfl rfl fun b hb=>?_
   cases b
   ·have h5:=A5 h4 hb
    refine A0.op rfl rfl (A0.op rfl rfl (A0.op rfl rfl (A0.op rfl rfl (A0.op rfl rfl ?_))))
    refine A0.gen rfl rfl fun b hb=>?_
    cases b
    ·have h6:=A5 h5 hb
     refine A0.op rfl rfl (A0.op rfl rfl (A0.op rfl rfl (A0.op rfl rfl (A0.op rfl rfl (A0.op rfl rfl (A0.op rfl rfl ?_))))))
     refine A0.gen rfl rfl fun b hb=>?_
     cases b
     ·have h7:=A5 h6 hb
      refine A0.op rfl rfl (A0.done ?_)
      cases h7
      exact ⟨_,rfl,(Gh.ren0 [1] (.cells rfl rfl .z3 .nil) rfl (.p rfl rfl (.cons rfl (.dat (K4.rlst)) (.b rfl .nil))))⟩
     ·have h8:=A4 h6 hb
      refine A0.op rfl rfl (A0.done ?_)
      cases h8
      exact ⟨_,rfl,(Gh.ren0 [1] (.cells rfl rfl .z3 .nil) rfl (.p rfl rfl (.cons rfl (.dat (K4.rlst)) (.b rfl .nil))))⟩
    ·have h9:=A4 h5 hb
     refine A0.op rfl rfl (A0.op rfl rfl (A0.off rfl (A0.off rfl (A0.off rfl (A0.off rfl (A0.off rfl (A0.off rfl (A0.op rfl rfl (A0.done ?_)))))))))
     cases h9
     exact ⟨_,rfl,(Gh.ren0 [1] (.cells rfl rfl .z3 .nil) rfl (.p rfl rfl (.cons rfl (.dat (K4.rlst)) (.b rfl .nil))))⟩
   ·have h10:=A4 h4 hb
    refine A0.op rfl rfl (A0.op rfl rfl (A0.off rfl (A0.off rfl (A0.off rfl (A0.off rfl (A0.op rfl rfl (A0.op rfl rfl (A0.off rfl (A0.off rfl (A0.off rfl (A0.off rfl ?_)))))))))))
    refine A0.off rfl (A0.off rfl (A0.op rfl rfl (A0.done ?_)))
    cases h10
    exact ⟨_,rfl,(Gh.ren0 [1] (.cells rfl rfl .z3 .nil) rfl (.p rfl rfl (.cons rfl (.dat (K4.rlst)) (.b rfl .nil))))⟩
  ·have h11:=A4 h3 hb
   refine A0.op rfl rfl (A0.off rfl (A0.off rfl (A0.off rfl (A0.op rfl rfl (A0.op rfl rfl (A0.off rfl (A0.off rfl (A0.off rfl (A0.off rfl (A0.op rfl rfl (A0.op rfl rfl ?_)))))))))))
   refine A0.off rfl (A0.off rfl (A0.off rfl (A0.off rfl (A0.off rfl (A0.off rfl (A0.op rfl rfl (A0.done ?_)))))))
   cases h11
   exact ⟨_,rfl,(Gh.ren0 [1] (.cells rfl rfl .z3 .nil) rfl (.p rfl rfl (.cons rfl (.dat (K4.rlst)) (.b rfl .nil))))⟩
 ·intro y hC
  subst hC
  cases hb : y2
  ·have h12:=A5 h2 hb
   refine RW.cond_f rfl (RW.skip (RW.seq (RW.sreg (rl.run 3 rfl (rl.done ?_)))))
   obtain ⟨y10,ey10,h14⟩:=A3 h12
   refine RW.cutq (σ:=Unit) (fun y5=>[]) (fun y5=>[]) (fun y=>y10 = .inr y) (fun _ _ _ _ g h=>RW.gh g h) ?_ ?_
   ·refine RW.blk ?_
    refine RW.iter (σ:=Int) ey10 (fun s4=>[(3,.ptr 0 0),(44,Kv v1.1),(45,.j (v1.1.length : Int)),(46,.j s4)]) (fun s4=>[some ⟨A8 false x1,0⟩]) (Gh.ren0 [0] (.cells rfl rfl .z3 .nil) rfl (.p rfl rfl (.cons rfl (.dat (K4.rlst)) (.i rfl (.i rfl .nil))))) (fun s4 B o hS13 hB13 hE13=>?_)
    unfold Ct at hS13
    refine RW.sreg ?_
    refine rl.gen rfl rfl fun b hb=>?_
    cases b
    ·have h15:=A5 hS13 hb
     refine rl.done (RW.seq (RW.cond_f rfl (RW.exit (D0 ?_))))
     cases h15
     exact ⟨_,(hE13 _ rfl).symm,(Gh.ren0 [] .nil rfl .nil)⟩
    ·have h16:=A4 hS13 hb
     refine rl.done (RW.seq (RW.cond_t rfl (RW.skip (RW.seq (RW.blk (RW.sreg (rl.run 1 rfl ?_)))))))
     obtain ⟨v6,e6,h17⟩:=A3 h16
     refine rl.op (C1 (enc:=B9) (o:=false) rfl rfl rfl e6) ?_
     refine rl.op (K5 (off':=0) (vs:=(B9 false v6)) K4 rfl e6 rfl rfl rfl) ?_
     refine rl.run 3 rfl (rl.done (RW.sreg (rl.run 1 rfl ?_)))
     obtain ⟨v7,e7,h18⟩:=A3 h17
     refine rl.call rfl rfl rfl (A7.val (r':=.tup [.agg (B2 false v7.1),.bool v7.2]) Rb (Pt e7) (.cons (DFL.agg (.cons .int (.cons .int (.cons .str .nil)))) .nil) (FlL.tup (.cons .refl (.cons .refl .nil))) ?_)
     refine rl.run 6 rfl (rl.done (RW.seq ?_))
     obtain ⟨y8,ey8,h19⟩:=A3 h18
     refine RW.cutq (σ:=Bool) (fun y8=>[(3,.ptr 0 0),(44,Kv v1.1),(45,.j (v1.1.length : Int)),(46,.j s4),(66,.bool y8)]) (fun y8=>[some ⟨A8 false x1,0⟩]) (fun y=>y8 = y) (fun _ _ _ _ g h=>RW.gh g h) ?_ ?_
     ·refine RW.drw ?_
      refine A0.op rfl rfl (A0.op rfl rfl (A0.op rfl rfl ?_))
      cases hb : (!v7.2)
      ·have h20:=A5 ey8 hb
       refine A0.op rfl rfl (A0.op rfl rfl (A0.op rfl rfl (A0.op rfl rfl ?_)))
       obtain ⟨v9,e9,h21⟩:=A3 h20
       refine A0.op rfl (C1 (enc:=B2) (o:=false) rfl rfl rfl e9) ?_
       refine A0.op rfl (K5 (off':=0) (vs:=(B2 false v9)) B4 rfl e9 rfl rfl rfl) ?_
       refine A0.gen rfl rfl fun b hb=>?_
       cases b
       ·have h22:=A5 h21 hb
        refine A0.op rfl rfl (A0.done ?_)
        cases h22
        exact ⟨_,rfl,(Gh.ren0 [0] (.cells rfl rfl .z3 .nil) rfl (.p rfl rfl (.cons rfl (.dat (K4.rlst)) (.i rfl (.i rfl (.b rfl .nil))))))⟩
       ·have h23:=A4 h21 hb
        refine A0.op rfl rfl (A0.done ?_)
        cases h23
        exact ⟨_,rfl,(Gh.ren0 [0] (.cells rfl rfl .z3 .nil) rfl (.p rfl rfl (.cons rfl (.dat (K4.rlst)) (.i rfl (.i rfl (.b rfl .nil))))))⟩
      ·have h24:=A4 ey8 hb
       refine A0.off rfl (A0.off rfl (A0.off rfl (A0.off rfl (A0.off rfl (A0.off rfl (A0.off rfl (A0.op rfl rfl (A0.done ?_))))))))
       cases h24
       exact ⟨_,rfl,(Gh.ren0 [0] (.cells rfl rfl .z3 .nil) rfl (.p rfl rfl (.cons rfl (.dat (K4.rlst)) (.i rfl (.i rfl (.b rfl .nil))))))⟩
     ·intro y hC
      subst hC
      cases hb : y8
      ·have h25:=A5 h19 hb
       refine RW.cond_f rfl (RW.skip (RW.reg (rl.run 2 rfl (rl.done ?_))))
       cases h25
       exact hB13 _ rfl _ _ (Gh.ren0 [0] (.cells rfl rfl .z3 .nil) rfl (.p rfl rfl (.cons rfl (.dat (K4.rlst)) (.i rfl (.i rfl .nil)))))
      ·have h26:=A4 h19 hb
       refine RW.cond_t rfl (RW.sreg (rl.run 1 rfl (rl.done (RW.ret ?_))))
       cases h26
       have h27:=elimL h14 (hE13 _ rfl)
       cases h27
       exact RRet.mk rfl .bool (by first | decide | simp)
   ·intro y5 hC
    have h14:=elimR h14 hC
    refine RW.sreg (rl.run 1 rfl (rl.done (RW.ret ?_)))
    cases h14
    exact RRet.mk rfl .bool (by first | decide | simp)
  ·have h28:=A4 h2 hb
   refine RW.cond_t rfl (RW.sreg (rl.run 1 rfl (rl.done (RW.ret ?_))))
   cases h28
   exact RRet.mk rfl .bool (by first | decide | simp)
theorem Po {x0 : TItem} {x1 : TLog} {r : Bool} (hF : R3 x0 x1 = some r) : C4 Tryz.prog 1 61 [.agg (B2 false x0),.ptr 0 0] [some ⟨B5 false x1,0⟩] (.bool r) [some ⟨B5 false x1,0⟩]:=by
 refine C4.of_s A0c rfl ?_
 unfold R3 at hF
 refine RW.sreg (rl.run 2 rfl (rl.done (RW.sreg (rl.run 4 rfl ?_))))
 refine rl.gen rfl rfl fun b hb=>?_
 cases b
 ·have h1:=A5 hF hb
  refine rl.run 9 rfl (rl.done ?_)
  refine RW.kp [3] [(3,.bool (decide (x0.Rec.Valid ≥ x1.NextValid)))] [some ⟨B5 false x1,0⟩,some ⟨B2 false x0,0⟩] rfl rfl ?_
  refine RW.ret ?_
  cases h1
  exact RRetS.mk rfl .bool (Gh.renN [0] (.cells rfl rfl .z2 .nil) rfl rfl rfl .nil)
 ·have h2:=A4 hF hb
  refine rl.run 9 rfl (rl.done ?_)
  refine RW.kp [3] [(3,.bool true)] [some ⟨B5 false x1,0⟩,some ⟨B2 false x0,0⟩] rfl rfl ?_
  refine RW.ret ?_
  cases h2
  exact RRetS.mk rfl .bool (Gh.renN [0] (.cells rfl rfl .z2 .nil) rfl rfl rfl .nil)
theorem Dg {x0 : List TItem} {x1 : TLog} {r : Int} (hF : G8 x0 x1 = some r) : C4 Tryz.prog 1 123 [J9 x0,.fn 61 [.ptr 0 0]] [some ⟨B5 false x1,0⟩] (.j r) [some ⟨B5 false x1,0⟩]:=by
 refine C4.of_s Cz rfl ?_
 unfold G8 at hF
 refine RW.sreg (rl.run 1 rfl (rl.done (RW.seq (RW.sreg (rl.run 3 rfl (rl.done ?_))))))
 obtain ⟨y5,ey5,h2⟩:=A3 hF
 refine RW.cutq (σ:=Unit) (fun y2=>[]) (fun y2=>[some ⟨B5 false x1,0⟩]) (fun y=>y5 = .inr y) (fun _ _ _ _ g h=>RW.gh g h) ?_ ?_
 ·refine RW.blk ?_
  refine RW.iter (σ:=Int) ey5 (fun s1=>[(0,J9 x0),(1,.fn 61 [.ptr 0 0]),(7,.j (x0.length : Int)),(8,.j s1)]) (fun s1=>[some ⟨B5 false x1,0⟩]) (Gh.renN [0] (.cells rfl rfl .z2 .nil) rfl rfl rfl (.cons rfl (.dat (B4.rlst)) (.cons rfl (RnL.fn (.cons (.ptr rfl) .nil)) (.i rfl (.i rfl .nil))))) (fun s1 B o hS1 hB1 hE1=>?_)
  unfold J3 at hS1
  refine RW.sreg ?_
  refine rl.gen rfl rfl fun b hb=>?_
  cases b
  ·have h3:=A5 hS1 hb
   refine rl.done (RW.seq (RW.cond_f rfl (RW.exit (D0 ?_))))
   cases h3
   exact ⟨_,(hE1 _ rfl).symm,(Gh.renN [0] (.cells rfl rfl .z2 .nil) rfl rfl rfl .nil)⟩
  ·have h4:=A4 hS1 hb
   refine rl.done (RW.seq (RW.cond_t rfl (RW.skip (RW.seq (RW.blk (RW.sreg (rl.run 2 rfl (rl.done (RW.sreg (rl.run 3 rfl ?_))))))))))
   obtain ⟨v3,e3,h5⟩:=A3 h4
   refine rl.op (C1 (enc:=B2) (o:=false) rfl rfl rfl e3) ?_
   refine rl.op (K5 (off':=0) (vs:=(B2 false v3)) B4 rfl e3 rfl rfl rfl) ?_
   obtain ⟨v4,e4,h6⟩:=A3 h5
   refine rl.call rfl rfl rfl (A7.embR [0] Zm (Po e4) (.cells rfl rfl .z2 .nil) rfl rfl (.cons (.dat (B4.rrec)) (.cons (.ptr rfl) .nil)) .bool ?_)
   cases hb : v4
   ·have h7:=A5 h6 hb
    refine rl.done (RW.cond_f rfl (RW.skip (RW.reg (rl.run 2 rfl (rl.done ?_)))))
    cases h7
    exact hB1 _ rfl _ _ (Gh.renN [0] (.cells rfl rfl .z2 .nil) rfl rfl rfl (.cons rfl (.dat (B4.rlst)) (.cons rfl (RnL.fn (.cons (.ptr rfl) .nil)) (.i rfl (.i rfl .nil)))))
   ·have h8:=A4 h6 hb
    refine rl.done (RW.cond_t rfl (RW.sreg (rl.run 2 rfl (rl.done ?_))))
    refine RW.kp [4] [(4,.j s1)] [some ⟨B5 false x1,0⟩] rfl rfl ?_
    refine RW.ret ?_
    cases h8
    have h9:=elimL h2 (hE1 _ rfl)
    cases h9
    exact RRetS.mk rfl .int (Gh.renN [0] (.cells rfl rfl .z2 .nil) rfl rfl rfl .nil)
 ·intro y2 hC
  have h2:=elimR h2 hC
  refine RW.sreg (rl.run 1 rfl (rl.done (RW.ret ?_)))
  cases h2
  exact RRetS.mk rfl .int (Gh.renN [0] (.cells rfl rfl .z2 .nil) rfl rfl rfl .nil)
theorem Ch {x0 : List TItem} {x1 : TLog} {r : Bool} (hF : D7 x0 x1 = some r) : C4 Tryz.prog 1 60 [J9 x0,.fn 61 [.ptr 0 0]] [some ⟨B5 false x1,0⟩] (.bool r) [some ⟨B5 false x1,0⟩]:=by
 refine C4.of_s Bg rfl ?_
 unfold D7 at hF
 refine RW.sreg (rl.run 1 rfl (rl.done (RW.sreg (rl.run 2 rfl ?_))))
 obtain ⟨v1,e1,h1⟩:=A3 hF
 refine rl.call rfl rfl rfl (A7.embR [0] Ck (Dg e1) (.cells rfl rfl .z2 .nil) rfl rfl (.cons (.dat (B4.rlst)) (.cons (RnL.fn (.cons (.ptr rfl) .nil)) .nil)) .int ?_)
 refine rl.run 2 rfl (rl.done (RW.ret ?_))
 cases h1
 exact RRetS.mk rfl .bool (Gh.renN [0] (.cells rfl rfl .z2 .nil) rfl rfl rfl .nil)
theorem Ln {x0 : TItem} {x1 : TItem} {r : Bool} (hF : T4 x0 x1 = some r) : C4 Tryz.prog 1 125 [.agg (B2 false x0),.ptr 0 0] [some ⟨B2 false x1,0⟩] (.bool r) [some ⟨B2 false x1,0⟩]:=by
 refine C4.of_s Vt rfl ?_
 unfold T4 at hF
 refine RW.sreg (rl.run 2 rfl (rl.done (RW.sreg (rl.run 4 rfl ?_))))
 refine rl.gen rfl rfl fun b hb=>?_
 cases b
 ·have h1:=A5 hF hb
  refine rl.run 6 rfl (rl.done ?_)
  refine RW.kp [3] [(3,.bool false)] [some ⟨B2 false x1,0⟩,some ⟨B2 false x0,0⟩] rfl rfl ?_
  refine RW.ret ?_
  cases h1
  exact RRetS.mk rfl .bool (Gh.renN [0] (.cells rfl rfl .z7 .nil) rfl rfl rfl .nil)
 ·have h2:=A4 hF hb
  refine rl.run 6 rfl (rl.done ?_)
  refine RW.kp [3] [(3,.bool (!(x0.Seq == x1.Seq && (x0.Rec.Kind == x1.Rec.Kind && (x0.Rec.Valid == x1.Rec.Valid && (x0.Rec.Uid == x1.Rec.Uid && (x0.Rec.Next == x1.Rec.Next && (x0.Rec.Flags == x1.Rec.Flags && (x0.Rec.User == x1.Rec.User && (x0.Rec.Name == x1.Rec.Name && (x0.Rec.Text == x1.Rec.Text && true)))))))))))] [some ⟨B2 false x1,0⟩,some ⟨B2 false x0,0⟩] rfl rfl ?_
  refine RW.ret ?_
  cases h2
  exact RRetS.mk rfl .bool (Gh.renN [0] (.cells rfl rfl .z7 .nil) rfl rfl rfl .nil)
theorem Co {x0 : List TItem} {x1 : TItem} {r : Int} (hF : F5 x0 x1 = some r) : C4 Tryz.prog 1 123 [J9 x0,.fn 125 [.ptr 0 0]] [some ⟨B2 false x1,0⟩] (.j r) [some ⟨B2 false x1,0⟩]:=by
 refine C4.of_s Cz rfl ?_
 unfold F5 at hF
 refine RW.sreg (rl.run 1 rfl (rl.done (RW.seq (RW.sreg (rl.run 3 rfl (rl.done ?_))))))
 obtain ⟨y5,ey5,h2⟩:=A3 hF
 refine RW.cutq (σ:=Unit) (fun y2=>[]) (fun y2=>[some ⟨B2 false x1,0⟩]) (fun y=>y5 = .inr y) (fun _ _ _ _ g h=>RW.gh g h) ?_ ?_
 ·refine RW.blk ?_
  refine RW.iter (σ:=Int) ey5 (fun s1=>[(0,J9 x0),(1,.fn 125 [.ptr 0 0]),(7,.j (x0.length : Int)),(8,.j s1)]) (fun s1=>[some ⟨B2 false x1,0⟩]) (Gh.renN [0] (.cells rfl rfl .z7 .nil) rfl rfl rfl (.cons rfl (.dat (B4.rlst)) (.cons rfl (RnL.fn (.cons (.ptr rfl) .nil)) (.i rfl (.i rfl .nil))))) (fun s1 B o hS1 hB1 hE1=>?_)
  unfold J0 at hS1
  refine RW.sreg ?_
  refine rl.gen rfl rfl fun b hb=>?_
  cases b
  ·have h3:=A5 hS1 hb
   refine rl.done (RW.seq (RW.cond_f rfl (RW.exit (D0 ?_))))
   cases h3
   exact ⟨_,(hE1 _ rfl).symm,(Gh.renN [0] (.cells rfl rfl .z7 .nil) rfl rfl rfl .nil)⟩
  ·have h4:=A4 hS1 hb
   refine rl.done (RW.seq (RW.cond_t rfl (RW.skip (RW.seq (RW.blk (RW.sreg (rl.run 2 rfl (rl.done (RW.sreg (rl.run 3 rfl ?_))))))))))
   obtain ⟨v3,e3,h5⟩:=A3 h4
   refine rl.op (C1 (enc:=B2) (o:=false) rfl rfl rfl e3) ?_
   refine rl.op (K5 (off':=0) (vs:=(B2 false v3)) B4 rfl e3 rfl rfl rfl) ?_
   obtain ⟨v4,e4,h6⟩:=A3 h5
   refine rl.call rfl rfl rfl (A7.embR [0] Rq (Ln e4) (.cells rfl rfl .z7 .nil) rfl rfl (.cons (.dat (B4.rrec)) (.cons (.ptr rfl) .nil)) .bool ?_)
   cases hb : v4
   ·have h7:=A5 h6 hb
    refine rl.done (RW.cond_f rfl (RW.skip (RW.reg (rl.run 2 rfl (rl.done ?_)))))
    cases h7
    exact hB1 _ rfl _ _ (Gh.renN [0] (.cells rfl rfl .z7 .nil) rfl rfl rfl (.cons rfl (.dat (B4.rlst)) (.cons rfl (RnL.fn (.cons (.ptr rfl) .nil)) (.i rfl (.i rfl .nil)))))
   ·have h8:=A4 h6 hb
    refine rl.done (RW.cond_t rfl (RW.sreg (rl.run 2 rfl (rl.done ?_))))
    refine RW.kp [4] [(4,.j s1)] [some ⟨B2 false x1,0⟩] rfl rfl ?_
    refine RW.ret ?_
    cases h8
    have h9:=elimL h2 (hE1 _ rfl)
    cases h9
    exact RRetS.mk rfl .int (Gh.renN [0] (.cells rfl rfl .z7 .nil) rfl rfl rfl .nil)
 ·intro y2 hC
  have h2:=elimR h2 hC
  refine RW.sreg (rl.run 1 rfl (rl.done (RW.ret ?_)))
  cases h2
  exact RRetS.mk rfl .int (Gh.renN [0] (.cells rfl rfl .z7 .nil) rfl rfl rfl .nil)
theorem Aq {x0 : List TItem} {x1 : TItem} {r : Bool} (hF : E8 x0 x1 = some r) : C4 Tryz.prog 1 60 [J9 x0,.fn 125 [.ptr 0 0]] [some ⟨B2 false x1,0⟩] (.bool r) [some ⟨B2 false x1,0⟩]:=by
 refine C4.of_s Bg rfl ?_
 unfold E8 at hF
 refine RW.sreg (rl.run 1 rfl (rl.done (RW.sreg (rl.run 2 rfl ?_))))
 obtain ⟨v1,e1,h1⟩:=A3 hF
 refine rl.call rfl rfl rfl (A7.embR [0] Ck (Co e1) (.cells rfl rfl .z7 .nil) rfl rfl (.cons (.dat (B4.rlst)) (.cons (RnL.fn (.cons (.ptr rfl) .nil)) .nil)) .int ?_)
 refine rl.run 2 rfl (rl.done (RW.ret ?_))
 cases h1
 exact RRetS.mk rfl .bool (Gh.renN [0] (.cells rfl rfl .z7 .nil) rfl rfl rfl .nil)
set_option maxHeartbeats 2000000 in
theorem Wn {x0 : List TItem} {r : Bool} (hF : Be x0 = some r) : B3 Tryz.prog 62 [J9 x0] (.bool r):=by
 refine B3.of_r A0h rfl ?_
 unfold Be at hF
 refine RW.sreg (rl.run 1 rfl (rl.done (RW.seq (RW.sreg (rl.run 2 rfl ?_)))))
 refine rl.gen rfl rfl fun b hb=>?_
 cases b
 ·have h1:=A5 hF hb
  refine rl.done (RW.cond_f rfl (RW.skip (RW.seq (RW.sreg (rl.run 3 rfl (rl.done ?_))))))
  obtain ⟨y9,ey9,h3⟩:=A3 h1
  refine RW.cutq (σ:=Unit) (fun y2=>[]) (fun y2=>[]) (fun y=>y9 = .inr y) (fun _ _ _ _ g h=>RW.gh g h) ?_ ?_
  ·refine RW.blk ?_
   refine RW.iter (σ:=Int) ey9 (fun s1=>[(0,J9 x0),(8,J9 x0),(9,.j (x0.length : Int)),(10,.j s1)]) (fun s1=>[]) (Gh.ren0 [] .nil rfl (.cons rfl (.dat (B4.rlst)) (.cons rfl (.dat (B4.rlst)) (.i rfl (.i rfl .nil))))) (fun s1 B o hS2 hB2 hE2=>?_)
   unfold X5 at hS2
   refine RW.sreg ?_
   refine rl.gen rfl rfl fun b hb=>?_
   cases b
   ·have h4:=A5 hS2 hb
    refine rl.done (RW.seq (RW.cond_f rfl (RW.exit (D0 ?_))))
    cases h4
    exact ⟨_,(hE2 _ rfl).symm,(Gh.ren0 [] .nil rfl .nil)⟩
   ·have h5:=A4 hS2 hb
    refine rl.done (RW.seq (RW.cond_t rfl (RW.skip (RW.seq (RW.blk (RW.sreg (rl.run 1 rfl ?_)))))))
    obtain ⟨v3,e3,h6⟩:=A3 h5
    refine rl.op (C1 (enc:=B2) (o:=false) rfl rfl rfl e3) ?_
    refine rl.op (K5 (off':=0) (vs:=(B2 false v3)) B4 rfl e3 rfl rfl rfl) ?_
    refine rl.run 3 rfl (rl.done (RW.seq (RW.seq ?_)))
    obtain ⟨y4,ey4,h7⟩:=A3 h6
    refine RW.cutq (σ:=Bool) (fun y4=>[(0,J9 x0),(3,.j s1),(4,.ptr 0 0),(8,J9 x0),(9,.j (x0.length : Int)),(10,.j s1),(24,.bool y4)]) (fun y4=>[some ⟨B2 false v3,0⟩]) (fun y=>y4 = y) (fun _ _ _ _ g h=>RW.gh g h) ?_ ?_
    ·refine RW.reg ?_
     refine rl.run 2 rfl ?_
     obtain ⟨v5,e5,h8⟩:=A3 ey4
     refine rl.call rfl rfl rfl (A7.val (r':=.bool v5) D8 (C8 e5) (.cons .int (.cons .int (.cons .int .nil))) .refl ?_)
     cases hb : v5
     ·have h9:=A5 h8 hb
      refine rl.run 7 rfl (rl.done ?_)
      cases h9
      exact ⟨_,rfl,(Gh.ren0 [0] (.cells rfl rfl .z7 .nil) rfl (.cons rfl (.dat (B4.rlst)) (.i rfl (.p rfl rfl (.cons rfl (.dat (B4.rlst)) (.i rfl (.i rfl (.b rfl .nil))))))))⟩
     ·have h10:=A4 h8 hb
      refine rl.run 4 rfl ?_
      obtain ⟨v6,e6,h11⟩:=A3 h10
      refine rl.call rfl rfl rfl (A7.val (r':=.bool v6) Mq (Ku e6) (.cons (DFL.agg (.cons .int (.cons .int (.cons .int (.cons .int (.cons .int (.cons .str (.cons .str (.cons .str .nil))))))))) .nil) .refl ?_)
      cases hb : v6
      ·have h12:=A5 h11 hb
       refine rl.run 2 rfl (rl.done ?_)
       cases h12
       exact ⟨_,rfl,(Gh.ren0 [0] (.cells rfl rfl .z7 .nil) rfl (.cons rfl (.dat (B4.rlst)) (.i rfl (.p rfl rfl (.cons rfl (.dat (B4.rlst)) (.i rfl (.i rfl (.b rfl .nil))))))))⟩
      ·have h13:=A4 h11 hb
       refine rl.run 2 rfl (rl.done ?_)
       cases h13
       exact ⟨_,rfl,(Gh.ren0 [0] (.cells rfl rfl .z7 .nil) rfl (.cons rfl (.dat (B4.rlst)) (.i rfl (.p rfl rfl (.cons rfl (.dat (B4.rlst)) (.i rfl (.i rfl (.b rfl .nil))))))))⟩
    ·intro y hC
     subst hC
     cases hb : y4
     ·have h14:=A5 h7 hb
      refine RW.cond_f rfl (RW.skip (RW.sreg (rl.run 2 rfl ?_)))
      obtain ⟨v7,e7,h15⟩:=A3 h14
      refine rl.op (Abs B4 rfl rfl rfl Ls e7) ?_
      refine rl.run 1 rfl ?_
      obtain ⟨v8,e8,h16⟩:=A3 h15
      refine rl.call rfl rfl rfl (A7.embR [0] Ai (Aq e8) (.cells rfl rfl .z7 .nil) rfl rfl (.cons (.dat (B4.rlst)) (.cons (RnL.fn (.cons (.ptr rfl) .nil)) .nil)) .bool ?_)
      cases hb : v8
      ·have h17:=A5 h16 hb
       refine rl.done (RW.cond_f rfl (RW.skip (RW.reg (rl.run 2 rfl (rl.done ?_)))))
       cases h17
       exact hB2 _ rfl _ _ (Gh.ren0 [] .nil rfl (.cons rfl (.dat (B4.rlst)) (.cons rfl (.dat (B4.rlst)) (.i rfl (.i rfl .nil)))))
      ·have h18:=A4 h16 hb
       refine rl.done (RW.cond_t rfl (RW.sreg (rl.run 1 rfl (rl.done ?_))))
       refine RW.kp [2] [(2,.bool false)] [some ⟨B2 false v3,0⟩] rfl rfl ?_
       refine RW.ret ?_
       cases h18
       have h19:=elimL h3 (hE2 _ rfl)
       cases h19
       exact RRet.mk rfl .bool (by first | decide | simp)
     ·have h20:=A4 h7 hb
      refine RW.cond_t rfl (RW.sreg (rl.run 1 rfl (rl.done (RW.ret ?_))))
      cases h20
      have h21:=elimL h3 (hE2 _ rfl)
      cases h21
      exact RRet.mk rfl .bool (by first | decide | simp)
  ·intro y2 hC
   have h3:=elimR h3 hC
   refine RW.sreg (rl.run 1 rfl (rl.done (RW.ret ?_)))
   cases h3
   exact RRet.mk rfl .bool (by first | decide | simp)
 ·have h22:=A4 hF hb
  refine rl.done (RW.cond_t rfl (RW.sreg (rl.run 1 rfl (rl.done (RW.ret ?_)))))
  cases h22
  exact RRet.mk rfl .bool (by first | decide | simp)
set_option maxHeartbeats 2000000 in
theorem Kx {x0 : TLog} {r : Bool} (hF : Bu x0 = some r) : B3 Tryz.prog 14 [.agg (B5 false x0)] (.bool r):=by
 refine B3.of_r A4v rfl ?_
 unfold Bu at hF
 refine RW.sreg (rl.run 2 rfl (rl.done (RW.seq (RW.seq ?_))))
 obtain ⟨y1,ey1,h1⟩:=A3 hF
 refine RW.cutq (σ:=Bool) (fun y1=>[(1,.ptr 0 0),(37,.bool y1)]) (fun y1=>[some ⟨B5 false x0,0⟩]) (fun y=>y1 = y) (fun _ _ _ _ g h=>RW.gh g h) ?_ ?_
 ·refine RW.drw ?_
  refine A0.op rfl rfl (A0.op rfl rfl ?_)
  obtain ⟨v2,e2,h2⟩:=A3 ey1
  refine A0.call rfl rfl rfl (A7.val (r':=.bool v2) Dq (Cr e2) (.cons (DFL.agg (.cons (.lst ekS) (.cons (.lst A1) .nil))) .nil) .refl ⟨rfl,?_⟩)
  cases hb : v2
  ·have h3:=A5 h2 hb
   refine A0.op rfl rfl (A0.op rfl rfl (A0.off rfl (A0.off rfl (A0.off rfl (A0.off rfl (A0.off rfl (A0.op rfl rfl (A0.op rfl rfl (A0.off rfl (A0.off rfl (A0.off rfl ?_)))))))))))
   refine A0.op rfl rfl (A0.op rfl rfl (A0.off rfl (A0.off rfl (A0.off rfl (A0.off rfl (A0.off rfl (A0.off rfl (A0.op rfl rfl (A0.op rfl rfl (A0.off rfl (A0.off rfl ?_)))))))))))
   refine A0.off rfl (A0.off rfl (A0.off rfl (A0.off rfl (A0.off rfl (A0.op rfl rfl (A0.done ?_))))))
   cases h3
   exact ⟨_,rfl,(Gh.ren0 [0] (.cells rfl rfl .z2 .nil) rfl (.p rfl rfl (.b rfl .nil)))⟩
  ·have h4:=A4 h2 hb
   refine A0.op rfl rfl (A0.op rfl rfl (A0.op rfl rfl (A0.op rfl rfl (A0.op rfl rfl (A0.op rfl rfl ?_)))))
   refine A0.gen rfl rfl fun b hb=>?_
   cases b
   ·have h5:=A5 h4 hb
    refine A0.op rfl rfl (A0.op rfl rfl (A0.op rfl rfl (A0.op rfl rfl ?_)))
    refine A0.gen rfl rfl fun b hb=>?_
    cases b
    ·have h6:=A5 h5 hb
     refine A0.op rfl rfl (A0.op rfl rfl (A0.op rfl rfl (A0.op rfl rfl (A0.op rfl rfl (A0.op rfl rfl ?_)))))
     obtain ⟨v3,e3,h7⟩:=A3 h6
     refine A0.call rfl rfl rfl (A7.val (r':=.j v3) A0r (Yv e3) (.cons (DFL.agg (.cons (.lst ekS) (.cons (.lst A1) .nil))) .nil) .refl ⟨rfl,?_⟩)
     refine A0.gen rfl rfl fun b hb=>?_
     cases b
     ·have h8:=A5 h7 hb
      refine A0.op rfl rfl (A0.op rfl rfl (A0.op rfl rfl (A0.op rfl rfl (A0.op rfl rfl (A0.op rfl rfl (A0.op rfl rfl ?_))))))
      obtain ⟨v4,e4,h9⟩:=A3 h8
      refine A0.call rfl rfl rfl (A7.val (r':=.bool v4) D8 (C8 e4) (.cons .int (.cons .int (.cons .int .nil))) .refl ⟨rfl,?_⟩)
      cases hb : v4
      ·have h10:=A5 h9 hb
       refine A0.op rfl rfl (A0.op rfl rfl (A0.done ?_))
       cases h10
       exact ⟨_,rfl,(Gh.ren0 [0] (.cells rfl rfl .z2 .nil) rfl (.p rfl rfl (.b rfl .nil)))⟩
      ·have h11:=A4 h9 hb
       refine A0.op rfl rfl (A0.op rfl rfl (A0.done ?_))
       cases h11
       exact ⟨_,rfl,(Gh.ren0 [0] (.cells rfl rfl .z2 .nil) rfl (.p rfl rfl (.b rfl .nil)))⟩
     ·have h12:=A4 h7 hb
      refine A0.op rfl rfl (A0.op rfl rfl (A0.off rfl (A0.off rfl (A0.off rfl (A0.off rfl (A0.off rfl (A0.off rfl (A0.off rfl (A0.op rfl rfl (A0.done ?_))))))))))
      cases h12
      exact ⟨_,rfl,(Gh.ren0 [0] (.cells rfl rfl .z2 .nil) rfl (.p rfl rfl (.b rfl .nil)))⟩
    ·have h13:=A4 h5 hb
     refine A0.op rfl rfl (A0.op rfl rfl (A0.off rfl (A0.off rfl (A0.off rfl (A0.off rfl (A0.off rfl (A0.off rfl (A0.op rfl rfl (A0.op rfl rfl (A0.off rfl (A0.off rfl ?_)))))))))))
     refine A0.off rfl (A0.off rfl (A0.off rfl (A0.off rfl (A0.off rfl (A0.op rfl rfl (A0.done ?_))))))
     cases h13
     exact ⟨_,rfl,(Gh.ren0 [0] (.cells rfl rfl .z2 .nil) rfl (.p rfl rfl (.b rfl .nil)))⟩
   ·have h14:=A4 h4 hb
    refine A0.op rfl rfl (A0.op rfl rfl (A0.off rfl (A0.off rfl (A0.off rfl (A0.op rfl rfl (A0.op rfl rfl (A0.off rfl (A0.off rfl (A0.off rfl (A0.off rfl (A0.off rfl ?_)))))))))))
    refine A0.off rfl (A0.op rfl rfl (A0.op rfl rfl (A0.off rfl (A0.off rfl (A0.off rfl (A0.off rfl (A0.off rfl (A0.off rfl (A0.off rfl (A0.op rfl rfl (A0.done ?_)))))))))))
    cases h14
    exact ⟨_,rfl,(Gh.ren0 [0] (.cells rfl rfl .z2 .nil) rfl (.p rfl rfl (.b rfl .nil)))⟩
 ·intro y hC
  subst hC
  cases hb : y1
  ·have h15:=A5 h1 hb
   refine RW.cond_f rfl (RW.skip (RW.seq (RW.seq ?_)))
   obtain ⟨y5,ey5,h16⟩:=A3 h15
   refine RW.cutq (σ:=Bool) (fun y5=>[(1,.ptr 0 0),(59,.bool y5)]) (fun y5=>[some ⟨B5 false x0,0⟩]) (fun y=>y5 = y) (fun _ _ _ _ g h=>RW.gh g h) ?_ ?_
   ·refine RW.reg ?_
    refine rl.run 2 rfl ?_
    obtain ⟨v6,e6,h17⟩:=A3 ey5
    refine rl.call rfl rfl rfl (A7.val (r':=.bool v6) D8 (C8 e6) (.cons .int (.cons .int (.cons .int .nil))) .refl ?_)
    cases hb : v6
    ·have h18:=A5 h17 hb
     refine rl.run 19 rfl (rl.done ?_)
     cases h18
     exact ⟨_,rfl,(Gh.ren0 [0] (.cells rfl rfl .z2 .nil) rfl (.p rfl rfl (.b rfl .nil)))⟩
    ·have h19:=A4 h17 hb
     refine rl.run 4 rfl ?_
     obtain ⟨v7,e7,h20⟩:=A3 h19
     refine rl.call rfl rfl rfl (A7.val (r':=.bool v7) D8 (C8 e7) (.cons .int (.cons .int (.cons .int .nil))) .refl ?_)
     cases hb : v7
     ·have h21:=A5 h20 hb
      refine rl.run 14 rfl (rl.done ?_)
      cases h21
      exact ⟨_,rfl,(Gh.ren0 [0] (.cells rfl rfl .z2 .nil) rfl (.p rfl rfl (.b rfl .nil)))⟩
     ·have h22:=A4 h20 hb
      refine rl.run 5 rfl ?_
      obtain ⟨v8,e8,h23⟩:=A3 h22
      refine rl.call rfl rfl rfl (A7.val (r':=.bool v8) D8 (C8 e8) (.cons .int (.cons .int (.cons .int .nil))) .refl ?_)
      cases hb : v8
      ·have h24:=A5 h23 hb
       refine rl.run 8 rfl (rl.done ?_)
       cases h24
       exact ⟨_,rfl,(Gh.ren0 [0] (.cells rfl rfl .z2 .nil) rfl (.p rfl rfl (.b rfl .nil)))⟩
      ·have h25:=A4 h23 hb
       refine rl.run 5 rfl ?_
       obtain ⟨v9,e9,h26⟩:=A3 h25
       refine rl.call rfl rfl rfl (A7.val (r':=.bool v9) D8 (C8 e9) (.cons .int (.cons .int (.cons .int .nil))) .refl ?_)
       cases hb : v9
       ·have h27:=A5 h26 hb
        refine rl.run 2 rfl (rl.done ?_)
        cases h27
        exact ⟨_,rfl,(Gh.ren0 [0] (.cells rfl rfl .z2 .nil) rfl (.p rfl rfl (.b rfl .nil)))⟩
       ·have h28:=A4 h26 hb
        refine rl.run 2 rfl (rl.done ?_)
        cases h28
        exact ⟨_,rfl,(Gh.ren0 [0] (.cells rfl rfl .z2 .nil) rfl (.p rfl rfl (.b rfl .nil)))⟩
   ·intro y hC
    subst hC
    cases hb : y5
    ·have h29:=A5 h16 hb
     refine RW.cond_f rfl (RW.skip (RW.seq (RW.sreg (rl.run 4 rfl (rl.done ?_)))))
     obtain ⟨y21,ey21,h31⟩:=A3 h29
     refine RW.cutq (σ:=Unit) (fun y11=>[(1,.ptr 0 0)]) (fun y11=>[some ⟨B5 false x0,0⟩]) (fun y=>y21 = .inr y) (fun _ _ _ _ g h=>RW.gh g h) ?_ ?_
     ·refine RW.blk ?_
      refine RW.iter (σ:=Int) ey21 (fun s10=>[(1,.ptr 0 0),(61,Fa x0.Used),(62,.j (x0.Used.length : Int)),(63,.j s10)]) (fun s10=>[some ⟨B5 false x0,0⟩]) (Gh.ren0 [0] (.cells rfl rfl .z2 .nil) rfl (.p rfl rfl (.cons rfl (.dat (A9.rlst)) (.i rfl (.i rfl .nil))))) (fun s10 B o hS30 hB30 hE30=>?_)
      unfold Dy at hS30
      refine RW.sreg ?_
      refine rl.gen rfl rfl fun b hb=>?_
      cases b
      ·have h32:=A5 hS30 hb
       refine rl.done (RW.seq (RW.cond_f rfl (RW.exit (D0 ?_))))
       cases h32
       exact ⟨_,(hE30 _ rfl).symm,(Gh.ren0 [0] (.cells rfl rfl .z2 .nil) rfl (.p rfl rfl .nil))⟩
      ·have h33:=A4 hS30 hb
       refine rl.done (RW.seq (RW.cond_t rfl (RW.skip (RW.seq (RW.blk (RW.sreg (rl.run 1 rfl ?_)))))))
       obtain ⟨v12,e12,h34⟩:=A3 h33
       refine rl.op (C1 (enc:=A8) (o:=false) rfl rfl rfl e12) ?_
       refine rl.op (K5 (off':=0) (vs:=(A8 false v12)) A9 rfl e12 rfl rfl rfl) ?_
       refine rl.run 3 rfl (rl.done (RW.seq (RW.seq ?_)))
       obtain ⟨y13,ey13,h35⟩:=A3 h34
       refine RW.cutq (σ:=Bool) (fun y13=>[(1,.ptr 0 0),(3,.j s10),(4,.ptr 1 0),(61,Fa x0.Used),(62,.j (x0.Used.length : Int)),(63,.j s10),(104,.bool y13)]) (fun y13=>[some ⟨B5 false x0,0⟩,some ⟨A8 false v12,0⟩]) (fun y=>y13 = y) (fun _ _ _ _ g h=>RW.gh g h) ?_ ?_
       ·refine RW.drw ?_
        refine A0.op rfl rfl (A0.op rfl rfl (A0.op rfl rfl (A0.op rfl rfl (A0.op rfl rfl ?_))))
        obtain ⟨v14,e14,h36⟩:=A3 ey13
        refine A0.call rfl rfl rfl (A7.val (r':=.bool v14) D8 (C8 e14) (.cons .int (.cons .int (.cons .int .nil))) .refl ⟨rfl,?_⟩)
        cases hb : v14
        ·have h37:=A5 h36 hb
         refine A0.op rfl rfl (A0.op rfl rfl (A0.off rfl (A0.off rfl (A0.off rfl (A0.off rfl (A0.off rfl (A0.op rfl rfl (A0.op rfl rfl (A0.off rfl (A0.off rfl (A0.off rfl ?_)))))))))))
         refine A0.off rfl (A0.off rfl (A0.off rfl (A0.off rfl (A0.off rfl (A0.off rfl (A0.off rfl (A0.off rfl (A0.off rfl (A0.off rfl (A0.off rfl (A0.op rfl rfl ?_)))))))))))
         refine A0.op rfl rfl (A0.off rfl (A0.off rfl (A0.off rfl (A0.off rfl (A0.off rfl (A0.op rfl rfl (A0.done ?_)))))))
         cases h37
         exact ⟨_,rfl,(Gh.ren0 [0,1] (.cells rfl rfl .z2 (.cells rfl rfl .z3 .nil)) rfl (.p rfl rfl (.i rfl (.p rfl rfl (.cons rfl (.dat (A9.rlst)) (.i rfl (.i rfl (.b rfl .nil))))))))⟩
        ·have h38:=A4 h36 hb
         refine A0.op rfl rfl (A0.op rfl rfl (A0.op rfl rfl (A0.op rfl rfl (A0.op rfl rfl (A0.op rfl rfl ?_)))))
         refine A0.gen rfl rfl fun b hb=>?_
         cases b
         ·have h39:=A5 h38 hb
          refine A0.op rfl rfl (A0.op rfl rfl (A0.op rfl rfl ?_))
          refine A0.gen rfl rfl fun b hb=>?_
          cases b
          ·have h40:=A5 h39 hb
           refine A0.op rfl rfl (A0.off rfl (A0.off rfl (A0.off rfl (A0.off rfl (A0.off rfl (A0.off rfl (A0.off rfl (A0.off rfl (A0.off rfl (A0.off rfl (A0.op rfl rfl ?_)))))))))))
           refine A0.op rfl rfl (A0.op rfl rfl (A0.op rfl rfl (A0.op rfl rfl (A0.op rfl rfl ?_))))
           obtain ⟨v15,e15,h41⟩:=A3 h40
           refine A0.call rfl rfl rfl (A7.val (r':=.bool v15) Lf (Kd e15) (.cons (DFL.agg (.cons (.lst ekS) (.cons (.lst A1) .nil))) (.cons (DFL.agg (.cons .int (.cons .int (.cons .int (.cons (.lst B4) .nil))))) .nil)) .refl ⟨rfl,?_⟩)
           cases hb : v15
           ·have h42:=A5 h41 hb
            refine A0.op rfl rfl (A0.op rfl rfl (A0.done ?_))
            cases h42
            exact ⟨_,rfl,(Gh.ren0 [0,1] (.cells rfl rfl .z2 (.cells rfl rfl .z3 .nil)) rfl (.p rfl rfl (.i rfl (.p rfl rfl (.cons rfl (.dat (A9.rlst)) (.i rfl (.i rfl (.b rfl .nil))))))))⟩
           ·have h43:=A4 h41 hb
            refine A0.op rfl rfl (A0.op rfl rfl (A0.done ?_))
            cases h43
            exact ⟨_,rfl,(Gh.ren0 [0,1] (.cells rfl rfl .z2 (.cells rfl rfl .z3 .nil)) rfl (.p rfl rfl (.i rfl (.p rfl rfl (.cons rfl (.dat (A9.rlst)) (.i rfl (.i rfl (.b rfl .nil))))))))⟩
          ·have h44:=A4 h39 hb
           refine A0.op rfl rfl (A0.op rfl rfl (A0.op rfl rfl (A0.op rfl rfl (A0.op rfl rfl ?_))))
           obtain ⟨v16,e16,h45⟩:=A3 h44
           refine A0.op rfl (C1 (enc:=A8) (o:=false) rfl rfl rfl e16) ?_
           refine A0.op rfl rfl ?_
           refine A0.op rfl (G5 (off':=1) A9 rfl e16 rfl rfl rfl) ?_
           refine A0.op rfl rfl (A0.op rfl rfl ?_)
           refine A0.gen rfl rfl fun b hb=>?_
           cases b
           ·have h46:=A5 h45 hb
            refine A0.op rfl rfl (A0.op rfl rfl (A0.op rfl rfl (A0.op rfl rfl (A0.op rfl rfl (A0.op rfl rfl ?_)))))
            obtain ⟨v17,e17,h47⟩:=A3 h46
            refine A0.call rfl rfl rfl (A7.val (r':=.bool v17) Lf (Kd e17) (.cons (DFL.agg (.cons (.lst ekS) (.cons (.lst A1) .nil))) (.cons (DFL.agg (.cons .int (.cons .int (.cons .int (.cons (.lst B4) .nil))))) .nil)) .refl ⟨rfl,?_⟩)
            cases hb : v17
            ·have h48:=A5 h47 hb
             refine A0.op rfl rfl (A0.op rfl rfl (A0.done ?_))
             cases h48
             exact ⟨_,rfl,(Gh.ren0 [0,1] (.cells rfl rfl .z2 (.cells rfl rfl .z3 .nil)) rfl (.p rfl rfl (.i rfl (.p rfl rfl (.cons rfl (.dat (A9.rlst)) (.i rfl (.i rfl (.b rfl .nil))))))))⟩
            ·have h49:=A4 h47 hb
             refine A0.op rfl rfl (A0.op rfl rfl (A0.done ?_))
             cases h49
             exact ⟨_,rfl,(Gh.ren0 [0,1] (.cells rfl rfl .z2 (.cells rfl rfl .z3 .nil)) rfl (.p rfl rfl (.i rfl (.p rfl rfl (.cons rfl (.dat (A9.rlst)) (.i rfl (.i rfl (.b rfl .nil))))))))⟩
           ·have h50:=A4 h45 hb
            refine A0.op rfl rfl (A0.op rfl rfl (A0.op rfl rfl (A0.off rfl (A0.off rfl (A0.off rfl (A0.off rfl (A0.off rfl (A0.op rfl rfl (A0.done ?_)))))))))
            cases h50
            exact ⟨_,rfl,(Gh.ren0 [0,1] (.cells rfl rfl .z2 (.cells rfl rfl .z3 .nil)) rfl (.p rfl rfl (.i rfl (.p rfl rfl (.cons rfl (.dat (A9.rlst)) (.i rfl (.i rfl (.b rfl .nil))))))))⟩
         ·have h51:=A4 h38 hb
          refine A0.op rfl rfl (A0.op rfl rfl (A0.off rfl (A0.off rfl (A0.off rfl (A0.off rfl (A0.off rfl (A0.off rfl (A0.off rfl (A0.off rfl (A0.off rfl (A0.off rfl ?_)))))))))))
          refine A0.off rfl (A0.off rfl (A0.off rfl (A0.off rfl (A0.op rfl rfl (A0.op rfl rfl (A0.off rfl (A0.off rfl (A0.off rfl (A0.off rfl (A0.off rfl (A0.op rfl rfl ?_)))))))))))
          refine A0.done ?_
          cases h51
          exact ⟨_,rfl,(Gh.ren0 [0,1] (.cells rfl rfl .z2 (.cells rfl rfl .z3 .nil)) rfl (.p rfl rfl (.i rfl (.p rfl rfl (.cons rfl (.dat (A9.rlst)) (.i rfl (.i rfl (.b rfl .nil))))))))⟩
       ·intro y hC
        subst hC
        cases hb : y13
        ·have h52:=A5 h35 hb
         refine RW.cond_f rfl (RW.skip (RW.seq (RW.sreg (rl.run 3 rfl ?_))))
         obtain ⟨v18,e18,h53⟩:=A3 h52
         refine rl.op (Abs A9 rfl rfl rfl Ls e18) ?_
         refine rl.run 1 rfl ?_
         obtain ⟨v19,e19,h54⟩:=A3 h53
         refine rl.call rfl rfl rfl (A7.embR [1] Av (Cn e19) (.cells rfl rfl .z3 .nil) rfl rfl (.cons (.dat (A9.rlst)) (.cons (RnL.fn (.cons (.ptr rfl) .nil)) .nil)) .bool ?_)
         cases hb : v19
         ·have h55:=A5 h54 hb
          refine rl.done (RW.cond_f rfl (RW.skip (RW.sreg (rl.run 3 rfl ?_))))
          obtain ⟨v20,e20,h56⟩:=A3 h55
          refine rl.call rfl rfl rfl (A7.embR [0] Ai (Ch e20) (.cells rfl rfl .z2 .nil) rfl rfl (.cons (.dat (B4.rlst)) (.cons (RnL.fn (.cons (.ptr rfl) .nil)) .nil)) .bool ?_)
          cases hb : v20
          ·have h57:=A5 h56 hb
           refine rl.done ?_
           refine RW.kp [1,61,62,63,114] [(1,.ptr 0 0),(61,Fa x0.Used),(62,.j (x0.Used.length : Int)),(63,.j s10),(114,.bool false)] [some ⟨B5 false x0,0⟩,some ⟨A8 false v12,0⟩] rfl rfl ?_
           refine RW.cond_f rfl (RW.skip (RW.reg (rl.run 2 rfl (rl.done ?_))))
           cases h57
           exact hB30 _ rfl _ _ (Gh.ren0 [0] (.cells rfl rfl .z2 .nil) rfl (.p rfl rfl (.cons rfl (.dat (A9.rlst)) (.i rfl (.i rfl .nil)))))
          ·have h58:=A4 h56 hb
           refine rl.done ?_
           refine RW.kp [1,61,62,63,114] [(1,.ptr 0 0),(61,Fa x0.Used),(62,.j (x0.Used.length : Int)),(63,.j s10),(114,.bool true)] [some ⟨B5 false x0,0⟩,some ⟨A8 false v12,0⟩] rfl rfl ?_
           refine RW.cond_t rfl (RW.sreg (rl.run 1 rfl (rl.done (RW.ret ?_))))
           cases h58
           have h59:=elimL h31 (hE30 _ rfl)
           cases h59
           exact RRet.mk rfl .bool (by first | decide | simp)
         ·have h60:=A4 h54 hb
          refine rl.done (RW.cond_t rfl (RW.sreg (rl.run 1 rfl (rl.done ?_))))
          refine RW.kp [2] [(2,.bool false)] [some ⟨B5 false x0,0⟩,some ⟨A8 false v12,0⟩] rfl rfl ?_
          refine RW.ret ?_
          cases h60
          have h61:=elimL h31 (hE30 _ rfl)
          cases h61
          exact RRet.mk rfl .bool (by first | decide | simp)
        ·have h62:=A4 h35 hb
         refine RW.cond_t rfl (RW.sreg (rl.run 1 rfl (rl.done (RW.ret ?_))))
         cases h62
         have h63:=elimL h31 (hE30 _ rfl)
         cases h63
         exact RRet.mk rfl .bool (by first | decide | simp)
     ·intro y11 hC
      have h31:=elimR h31 hC
      refine RW.sreg (rl.run 1 rfl ?_)
      obtain ⟨v22,e22,h64⟩:=A3 h31
      refine rl.call rfl rfl rfl (A7.val (r':=J9 v22) Jz (Hy e22) (.cons (DFL.agg (.cons (.lst ekS) (.cons (.lst A1) (.cons .int (.cons (.lst A9) (.cons .int (.cons .int (.cons .int (.cons .int .nil))))))))) .nil) (B4.fflag _).lst ?_)
      obtain ⟨v23,e23,h65⟩:=A3 h64
      refine rl.call rfl rfl rfl (A7.val (r':=.bool v23) Xu (Wn e23) (.cons (.lst B4) .nil) .refl ?_)
      refine rl.run 1 rfl (rl.done (RW.ret ?_))
      cases h65
      exact RRet.mk rfl .bool (by first | decide | simp)
    ·have h66:=A4 h16 hb
     refine RW.cond_t rfl (RW.sreg (rl.run 1 rfl (rl.done (RW.ret ?_))))
     cases h66
     exact RRet.mk rfl .bool (by first | decide | simp)
  ·have h67:=A4 h1 hb
   refine RW.cond_t rfl (RW.sreg (rl.run 1 rfl (rl.done (RW.ret ?_))))
   cases h67
   exact RRet.mk rfl .bool (by first | decide | simp)
theorem Kg {x0 : List TItem} {r : List TItem} (hF : Cf x0 = some r) : B3 Tryz.prog 118 [J9 x0] (.lst true 9 (fl (B2 true) r) r.length):=Vy Cl Mn rfl hF
theorem Jd {x0 : List (List UInt8)} {r : List (List UInt8)} (hF : Ae x0 = some r) : B3 Tryz.prog 127 [L_S x0] (.lst true 1 (fl (encS true) r) r.length):=Vy fkS Kh rfl hF
theorem Jr {x0 : List TWrite} {r : List TWrite} (hF : Ax x0 = some r) : B3 Tryz.prog 128 [Hz x0] (.lst true 2 (fl (A2 true) r) r.length):=Vy Ef Lj rfl hF
end Go.Proofs.YtldndhdohlfpgaaGreat.V
