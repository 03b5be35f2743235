/- The pure part. -/
import Derived.Test.YtldndhdohlfpgaaGreatXT
namespace Go.Proofs.YtldndhdohlfpgaaGreat.V
open Go Go.Proofs Go.RowKit
set_option maxRecDepth 100000
theorem ob {α β:Type} (a:α) (f:α→Option β):(some a).bind f=f a:=rfl
theorem J8 {σ ρ:Type} {step:σ→Option (σ ⊕ ρ)} (st:Nat→σ) (n:Nat) {r:ρ} (hs:∀ i,i<n→step (st i)=some (.inl (st (i+1)))) (he:step (st n)=some (.inr r)):iter step (st 0)=some r:=by
 have key:∀ d i,i+d=n→iter step (st i)=some r:=by
  intro d
  induction d with
  | zero => intro i hi; have : i = n := by omega
            subst this; exact D1 he
  | succ d ih=>intro i hi; rw [K1 (hs i (by omega))]; exact ih (i+1) (by omega)
 exact key n 0 (by omega)
theorem C1 {n:Int} (h:-9223372036854775808≤n) (h':n<9223372036854775808):w64 n=n:=by
 unfold w64 IntKind.wrap
 simp [IntKind.bits,IntKind.signed]
 omega
theorem El {n:Nat} (h:n<9223372036854775808):w64 (n:Int)=n:=C1 (by omega) (by omega)
theorem C5 {n:Nat} (h:n<9223372036854775807):w64 ((n:Int)+1)=((n+1:Nat):Int):=by rw [C1 (by omega) (by omega)]; omega
theorem Gk (n:Int):IntKind.u8.wrap n=n%256:=by
 unfold IntKind.wrap
 simp [IntKind.bits,IntKind.signed]
theorem Qc (n:Int):IntKind.u32.wrap n=n%4294967296:=by
 unfold IntKind.wrap
 simp [IntKind.bits,IntKind.signed]
theorem at?_nat {α:Type} {l:List α} {i:Nat} (h:i<l.length):at? l (i:Int)=some l[i]:=by
 unfold at?
 rw [if_pos ⟨by omega,by omega⟩]
 simp [h]
theorem bt?_nat {s:List UInt8} {i:Nat} (h:i<s.length):bt? s (i:Int)=some s[i]:=by
 unfold bt?
 rw [if_pos (by omega)]
 simp [h]
theorem cat?_ok {s t:List UInt8} (h:s.length+t.length≤4611686018427387904):cat? s t=some (s++t):=by unfold cat?; rw [if_pos h]
theorem app?_ok {α:Type} {byt:Nat} {l m:List α} (h:l.length+m.length≤1099511627776) (h2:(l.length+m.length)*byt≤140737488355328):app? byt l m=some (l++m):=by unfold app?; rw [if_pos ⟨h,h2⟩]
theorem andv127 {n:Nat} (h':n<9223372036854775808):andv .i64 n 127=((n%128:Nat):Int):=by
 show IntKind.i64.wrap ((BitVec.ofInt 64 (n:Int) &&& BitVec.ofInt 64 127).toNat:Int)=_
 have e1:BitVec.ofInt 64 (n:Int)=BitVec.ofNat 64 n:=by simp
 have e2:BitVec.ofInt 64 (127:Int)=BitVec.ofNat 64 127:=by simp
 rw [e1,e2]
 have e3:(BitVec.ofNat 64 n &&& BitVec.ofNat 64 127).toNat=n%128:=by
  rw [BitVec.toNat_and]
  simp only [BitVec.toNat_ofNat]
  rw [Nat.mod_eq_of_lt (a:=n) (by omega)]
  exact Nat.and_two_pow_sub_one_eq_mod n 7
 rw [e3]
 exact El (by omega)
theorem orv128 {n:Nat} (h:n<128):orv .i64 n 128=((n+128:Nat):Int):=by
 show IntKind.i64.wrap ((BitVec.ofInt 64 (n:Int) ||| BitVec.ofInt 64 128).toNat:Int)=_
 have e1:BitVec.ofInt 64 (n:Int)=BitVec.ofNat 64 n:=by simp
 have e2:BitVec.ofInt 64 (128:Int)=BitVec.ofNat 64 128:=by simp
 rw [e1,e2]
 have e3:(BitVec.ofNat 64 n ||| BitVec.ofNat 64 128).toNat=n+128:=by
  rw [BitVec.toNat_or]
  simp only [BitVec.toNat_ofNat]
  rw [Nat.mod_eq_of_lt (a:=n) (by omega)]
  have:=Nat.two_pow_add_eq_or_of_lt (i:=7) (b:=n) (by omega) 1
  rw [Nat.or_comm] at this
  simp at this ⊢
  omega
 rw [e3]
 exact El (by omega)
theorem andv1 {n:Nat} (h':n<4294967296):andv .u32 n 1=((n%2:Nat):Int):=by
 show IntKind.u32.wrap ((BitVec.ofInt 32 (n:Int) &&& BitVec.ofInt 32 1).toNat:Int)=_
 have e1:BitVec.ofInt 32 (n:Int)=BitVec.ofNat 32 n:=by simp
 have e2:BitVec.ofInt 32 (1:Int)=BitVec.ofNat 32 1:=by simp
 rw [e1,e2]
 have e3:(BitVec.ofNat 32 n &&& BitVec.ofNat 32 1).toNat=n%2:=by
  rw [BitVec.toNat_and]
  simp only [BitVec.toNat_ofNat]
  rw [Nat.mod_eq_of_lt (a:=n) (by omega)]
  exact Nat.and_two_pow_sub_one_eq_mod n 1
 rw [e3,Qc]
 omega
theorem shrv7 (n:Int):shrv .i64 n 7=n / 128:=by
 unfold shrv
 rw [Int.fdiv_eq_ediv_of_nonneg _ (by decide)]
 rfl
theorem shrv1 (n:Int):shrv .u32 n 1=n / 2:=by
 unfold shrv
 rw [Int.fdiv_eq_ediv_of_nonneg _ (by decide)]
 rfl
def vtl (n:Nat):List Int:=if h:127<n then ((n%128+128:Nat):Int)::vtl (n / 128) else [(n:Int)]
 termination_by n
 decreasing_by omega
theorem Lz {n:Nat} (h:127<n):vtl n=((n%128+128:Nat):Int)::vtl (n / 128):=by rw [vtl,dif_pos h]
theorem X4 {n:Nat} (h:n≤127):vtl n=[(n:Int)]:=by rw [vtl,dif_neg (by omega)]
theorem A57:∀ (k n:Nat),n<128 ^ k→(vtl n).length≤k+1
 | 0,n,h=>by rw [X4 (by simp at h; omega)]; simp
 | k+1,n,h=>by
  by_cases hb:127<n
  ·rw [Lz hb]
   have:=A57 k (n / 128) (by rw [Nat.pow_succ] at h; exact Nat.div_lt_of_lt_mul (by rw [Nat.mul_comm]; exact h))
   simp; omega
  ·rw [X4 (by omega)]; simp
theorem A6t {n:Nat} (h:n<9223372036854775808):(vtl n).length≤11:=A57 10 n (Nat.lt_trans h (by decide))
theorem A36 {step:Int×List Int→Option ((Int×List Int) ⊕ (Int×List Int))}
  (hbig:∀ (n:Nat) out,127<n→n<9223372036854775808→out.length≤1000→step ((n:Int),out)=some (.inl (((n / 128:Nat):Int),out++[((n%128+128:Nat):Int)])))
  (hsmall:∀ (n:Int) out,n≤127→step (n,out)=some (.inr (n,out))) :
  ∀ (n:Nat) (out:List Int),n<9223372036854775808→out.length+11≤1000→∃ (m:Nat) (o:List Int),iter step ((n:Int),out)=some ((m:Int),o)∧m≤127∧o++[(m:Int)]=out++vtl n∧o.length≤1000:=by
 have key:∀ (k n:Nat) (out:List Int),n<128 ^ k→n<9223372036854775808→out.length+k≤1000→∃ (m:Nat) (o:List Int),iter step ((n:Int),out)=some ((m:Int),o)∧m≤127∧o++[(m:Int)]=out++vtl n∧o.length≤1000:=by
  intro k
  induction k with
  | zero =>
   intro n out hk hn ho
   have h1:n≤127:=by simp at hk; omega
   exact ⟨n,out,D1 (hsmall n out (by omega)),h1,by rw [X4 h1],by omega⟩
  | succ k ih =>
   intro n out hk hn ho
   by_cases hb:127<n
   ·obtain ⟨m,o,h1,h2,h3,h4⟩:=ih (n / 128) (out++[((n%128+128:Nat):Int)]) (by rw [Nat.pow_succ] at hk; exact Nat.div_lt_of_lt_mul (by rw [Nat.mul_comm]; exact hk)) (by omega) (by simp; omega)
    refine ⟨m,o,?_,h2,?_,h4⟩
    ·rw [K1 (hbig n out hb hn (by omega))]; exact h1
    ·rw [h3,Lz hb]; simp
   ·exact ⟨n,out,D1 (hsmall n out (by omega)),by omega,by rw [X4 (by omega)],by omega⟩
 intro n out hn ho
 exact key 11 n out (Nat.lt_trans hn (by decide)) hn ho
def vt (n:Int):List UInt8:=if 0≤n then (vtl n.toNat).map ofI else [ofI (n%256)]
theorem R3 {n:Int} (h:-9223372036854775808≤n) (h':n<9223372036854775808):D6 n=some (vt n):=by
 have hsmall:∀ (n:Int) out,n≤127→U7 (n,out)=some (.inr (n,out)):=by
  intro n out hn
  unfold U7
  simp [show ¬ n>127 by omega]
 unfold D6 vt
 by_cases h0:0≤n
 ·obtain ⟨m,rfl⟩:∃ m:Nat,n=m:=⟨n.toNat,by omega⟩
  obtain ⟨m',o,h1,h2,h3,h4⟩:=A36 (step:=U7) (by
   intro n out hb hn ho
   unfold U7
   have e1:w64 (Int.tmod (n:Int) 128+128)=((n%128+128:Nat):Int):=by
    rw [Int.tmod_eq_emod_of_nonneg (by omega),C1 (by omega) (by omega)]; omega
   have e2:w64 (Int.tdiv (n:Int) 128)=((n / 128:Nat):Int):=by
    rw [Int.tdiv_eq_ediv_of_nonneg (by omega),C1 (by omega) (by omega)]; omega
   have e3:IntKind.u8.wrap ((n%128+128:Nat):Int)=((n%128+128:Nat):Int):=by rw [Gk]; omega
   simp only [show decide ((n:Int)>127)=true from by simp; omega,if_true,e1,e2,e3]
   rw [app?_ok (by simp; omega) (by simp; omega)]
   rfl) hsmall m [] (by omega) (by simp)
  rw [if_pos h0,h1]
  simp only [ob]
  rw [app?_ok (by simp; omega) (by simp; omega)]
  simp only [ob,Gk]
  rw [show ((m':Int)%256)=m' by omega,h3]
  simp
 ·rw [if_neg h0,D1 (hsmall n [] (by omega))]
  simp only [ob]
  rw [app?_ok (by simp) (by simp)]
  simp [Gk]
theorem Kw {n:Int} (h:-9223372036854775808≤n) (h':n<9223372036854775808):L4 n=some (vt n):=by
 have hsmall:∀ (n:Int) out,n≤127→R6 (n,out)=some (.inr (n,out)):=by
  intro n out hn
  unfold R6
  simp [show ¬ n>127 by omega]
 unfold L4 vt
 by_cases h0:0≤n
 ·obtain ⟨m,rfl⟩:∃ m:Nat,n=m:=⟨n.toNat,by omega⟩
  obtain ⟨m',o,h1,h2,h3,h4⟩:=A36 (step:=R6) (by
   intro n out hb hn ho
   unfold R6
   have e1:orv .i64 (andv .i64 (n:Int) 127) 128=((n%128+128:Nat):Int):=by
    rw [andv127 hn,orv128 (by omega)]
   have e2:shrv .i64 (n:Int) 7=((n / 128:Nat):Int):=by rw [shrv7]; omega
   have e3:IntKind.u8.wrap ((n%128+128:Nat):Int)=((n%128+128:Nat):Int):=by rw [Gk]; omega
   simp only [show decide ((n:Int)>127)=true from by simp; omega,if_true,e1,e2,e3]
   rw [app?_ok (by simp; omega) (by simp; omega)]
   rfl) hsmall m [] (by omega) (by simp)
  rw [if_pos h0,h1]
  simp only [ob]
  rw [app?_ok (by simp; omega) (by simp; omega)]
  simp only [ob,Gk]
  rw [show ((m':Int)%256)=m' by omega,h3]
  simp
 ·rw [if_neg h0,D1 (hsmall n [] (by omega))]
  simp only [ob]
  rw [app?_ok (by simp) (by simp)]
  simp [Gk]
theorem J2 {n:Int} (h':n<9223372036854775808):(vt n).length≤11:=by
 unfold vt
 split
 ·simp; exact A6t (by omega)
 ·simp
def sumBit (n:Nat):Nat:=if n%2=1 then (xorv .u32 ((n / 2:Nat):Int) 3558460437).toNat else n / 2
theorem Gv (x y:Int):0≤xorv .u32 x y∧xorv .u32 x y<4294967296:=by
 unfold xorv
 rw [Qc]
 omega
theorem A5x {n:Nat} (h:n<4294967296):sumBit n<4294967296:=by
 unfold sumBit
 have:=Gv ((n / 2:Nat):Int) 3558460437
 split <;> omega
def iterK {α:Type} (f:α→α):Nat→α→α
 | 0,a=>a
 | k+1,a=>f (iterK f k a)
theorem A38 (k:Nat) {n:Nat} (h:n<4294967296):iterK sumBit k n<4294967296:=by
 induction k with
 | zero=>exact h
 | succ k ih=>exact A5x ih
theorem A6c {n:Nat} (h:n<4294967296):iter X1 ((n:Int),0)=some ((iterK sumBit 8 n:Nat):Int):=by
 refine J8 (fun k=>(((iterK sumBit k n:Nat):Int),(k:Int))) 8 ?_ ?_
 ·intro k hk
  have hl:=A38 k h
  unfold X1
  have e0:w64 ((k:Int)+1)=((k+1:Nat):Int):=C5 (by omega)
  generalize hm:iterK sumBit k n=m at hl
  have e1:IntKind.u32.wrap (Int.tdiv (m:Int) 2)=((m / 2:Nat):Int):=by
   rw [Qc,Int.tdiv_eq_ediv_of_nonneg (by omega)]; omega
  have e2:Int.tmod (m:Int) 2=((m%2:Nat):Int):=by rw [Int.tmod_eq_emod_of_nonneg (by omega)]; omega
  simp only [show decide ((k:Int)<8)=true from by simp; omega,if_true,e0,e1,e2]
  have e3:iterK sumBit (k+1) n=sumBit m:=by simp [iterK,hm]
  rw [e3]
  unfold sumBit
  by_cases hb:m%2=1
  ·have:=Gv ((m / 2:Nat):Int) 3558460437
   simp only [hb,if_true]
   rw [if_pos (by simp)]
   congr 3
  ·rw [if_neg (by simp; omega),if_neg hb]
 ·unfold X1
  simp
theorem A6l {n:Nat} (h:n<4294967296):iter Y3 ((n:Int),0)=some ((iterK sumBit 8 n:Nat):Int):=by
 refine J8 (fun k=>(((iterK sumBit k n:Nat):Int),(k:Int))) 8 ?_ ?_
 ·intro k hk
  have hl:=A38 k h
  unfold Y3
  have e0:w64 ((k:Int)+1)=((k+1:Nat):Int):=C5 (by omega)
  generalize hm:iterK sumBit k n=m at hl
  have e1:shrv .u32 (m:Int) 1=((m / 2:Nat):Int):=by rw [shrv1]; omega
  have e2:andv .u32 (m:Int) 1=((m%2:Nat):Int):=andv1 hl
  simp only [show decide ((k:Int)<8)=true from by simp; omega,if_true,e0,e1,e2]
  have e3:iterK sumBit (k+1) n=sumBit m:=by simp [iterK,hm]
  rw [e3]
  unfold sumBit
  by_cases hb:m%2=1
  ·have:=Gv ((m / 2:Nat):Int) 3558460437
   simp only [hb,if_true]
   rw [if_pos (by simp)]
   congr 3
  ·rw [if_neg (by simp; omega),if_neg hb]
 ·unfold Y3
  simp
def sumB (n:Nat) (c:UInt8):Nat:=iterK sumBit 8 (xorv .u32 (n:Int) (c.toNat:Int)).toNat
def sumL (n:Nat) (s:List UInt8):Nat:=s.foldl sumB n
theorem A3i {step:List UInt8→Int×Int→Option ((Int×Int) ⊕ Int)} {s:List UInt8} (hs:s.length<9223372036854775807) {n:Nat}
  (h1:∀ (m i:Nat) (h:i<s.length),step s ((m:Int),(i:Int))=some (.inl ((sumB m s[i]:Nat),((i+1:Nat):Int))))
  (h2:∀ m:Nat,step s ((m:Int),(s.length:Int))=some (.inr (m:Int))):iter (step s) ((n:Int),0)=some ((sumL n s:Nat):Int):=by
 refine J8 (fun i=>(((sumL n (s.take i):Nat):Int),(i:Int))) s.length ?_ ?_
 ·intro i hi
  have e:sumL n (s.take (i+1))=sumB (sumL n (s.take i)) s[i]:=by
   unfold sumL
   rw [List.take_succ_eq_append_getElem hi,List.foldl_append]
   rfl
  rw [h1 _ i hi,e]
 ·rw [List.take_length]; exact h2 _
theorem A8f (c:UInt8):IntKind.u32.wrap (c.toNat:Int)=c.toNat:=by
 rw [Qc]
 have:=c.toNat_lt
 omega
theorem A7e {s:List UInt8} (hs:s.length<9223372036854775807) (n:Nat):Bt (n:Int) s=some ((sumL n s:Nat):Int):=by
 unfold Bt
 rw [A3i (step:=X2) hs]
 ·rfl
 ·intro m i hi
  unfold X2
  simp only [show decide ((i:Int)<(s.length:Int))=true from by simp; omega,if_true,bt?_nat hi,ob,A8f,C5 (show i<9223372036854775807 by omega)]
  have hx:=Gv (m:Int) ((s[i]).toNat:Int)
  have:xorv .u32 (m:Int) ((s[i]).toNat:Int)=((xorv .u32 (m:Int) ((s[i]).toNat:Int)).toNat:Int):=by omega
  rw [this,A6c (by omega)]
  rfl
 ·intro m
  unfold X2
  simp
theorem A7h {s:List UInt8} (hs:s.length<9223372036854775807) (n:Nat):Ca (n:Int) s=some ((sumL n s:Nat):Int):=by
 unfold Ca
 rw [A3i (step:=Af) hs]
 ·rfl
 ·intro m i hi
  unfold Af
  simp only [show decide ((i:Int)<(s.length:Int))=true from by simp; omega,if_true,bt?_nat hi,ob,A8f,C5 (show i<9223372036854775807 by omega)]
  have hx:=Gv (m:Int) ((s[i]).toNat:Int)
  have:xorv .u32 (m:Int) ((s[i]).toNat:Int)=((xorv .u32 (m:Int) ((s[i]).toNat:Int)).toNat:Int):=by omega
  rw [this,A6l (by omega)]
  rfl
 ·intro m
  unfold Af
  simp
def four (n:Int):List UInt8:=[IntKind.u8.wrap (shrv .u32 n 24),IntKind.u8.wrap (shrv .u32 n 16),IntKind.u8.wrap (shrv .u32 n 8),IntKind.u8.wrap n].map ofI
def sealL (s:List UInt8):List UInt8:=four (sumL 4294967295 s:Nat)
theorem Eb (s:List UInt8):(sealL s).length=4:=rfl
theorem A4i {s:List UInt8} (hs:s.length<9223372036854775807):Ej s=some ((sumL 4294967295 s:Nat):Int):=by
 unfold Ej
 have:=A7e hs 4294967295
 rw [show (4294967295:Int)=((4294967295:Nat):Int) from rfl,this]; rfl
theorem A4w {s:List UInt8} (hs:s.length<9223372036854775807):Eu s=some ((sumL 4294967295 s:Nat):Int):=by
 unfold Eu
 have:=A7h hs 4294967295
 rw [show (4294967295:Int)=((4294967295:Nat):Int) from rfl,this]; rfl
theorem A5t (n:Int):Et n=some (four n):=rfl
theorem A5u {s:List UInt8} (hs:s.length<9223372036854775807):Fs s=some (sealL s):=by
 unfold Fs
 rw [A4w hs]; rfl
def sealed (s:List UInt8):List UInt8×Bool:=if 20000<s.length then ([],false) else (s++sealL s,true)
theorem Vk {s:List UInt8} (hs:s.length<9223372036854775807):Bg s=some (sealed s):=by
 unfold Bg sealed
 by_cases h:20000<s.length
 ·rw [if_pos (by simp; omega),if_pos h]
 ·rw [if_neg (by simp; omega),if_neg h,A4i hs]
  simp only [ob,A5t]
  rw [cat?_ok (by show s.length+4≤_; omega)]
  rfl
theorem A3z {s:List UInt8} (hs:s.length<9223372036854775807):Dk s=some (sealed s):=by
 unfold Dk sealed
 by_cases h:20000<s.length
 ·rw [if_pos (by simp; omega),if_pos h]
 ·rw [if_neg (by simp; omega),if_neg h,A5u hs]
  simp only [ob]
  rw [cat?_ok (by show s.length+4≤_; omega)]
  rfl
def inR (n lo hi:Int):Bool:=decide (lo≤n)&&decide (n≤hi)
theorem K6 (n lo hi:Int):B7 n lo hi=some (inR n lo hi):=by
 unfold B7 inR
 by_cases h:lo≤n <;> simp [h]
theorem W0 (n lo hi:Int):E0 n lo hi=some (inR n lo hi):=by
 unfold E0 inR
 by_cases h:lo≤n <;> simp [h]
def lowB (c:UInt8):Bool:=decide (97≤c.toNat)&&decide (c.toNat≤122)
def wordOk (s:List UInt8):Bool:=s.all lowB&&inR s.length 1 8
theorem Ku {σ ρ:Type} {step:σ→Option (σ ⊕ ρ)} (st:Nat→σ) (n:Nat) (p:Nat→Bool) {bad good:ρ} (h1:∀ i,i<n→p i=true→step (st i)=some (.inl (st (i+1)))) (h2:∀ i,i<n→p i=false→step (st i)=some (.inr bad)) (he:step (st n)=some (.inr good)) :
  iter step (st 0)=some (if (List.range n).all p then good else bad):=by
 have key:∀ d i,i+d=n→iter step (st i)=some (if ((List.range n).drop i).all p then good else bad):=by
  intro d
  induction d with
  | zero =>
   intro i hi
   have:i=n:=by omega
   subst this
   rw [D1 he,List.drop_eq_nil_of_le (by simp)]; simp
  | succ d ih =>
   intro i hi
   have hd:(List.range n).drop i=i::(List.range n).drop (i+1):=by
    rw [List.drop_eq_getElem_cons (by simp; omega)]; simp
   rw [hd]
   cases hp:p i with
   | true=>rw [K1 (h1 i (by omega) hp),ih (i+1) (by omega)]; simp [hp]
   | false=>rw [D1 (h2 i (by omega) hp)]; simp [hp]
 simpa using key n 0 (by omega)
theorem A1l {α:Type} (l:List α) (p:α→Bool):(List.range l.length).all (fun i=>match l[i]? with | some x=>p x | none=>true)=l.all p:=by
 rw [Bool.eq_iff_iff,List.all_eq_true,List.all_eq_true]
 constructor
 ·intro h x hx
  obtain ⟨i,hi⟩:=List.getElem?_of_mem hx
  have:=h i (List.mem_range.2 (qI hi).1)
  simpa [hi] using this
 ·intro h i hi
  have hi':=List.mem_range.1 hi
  rw [qG hi']
  exact h _ (List.getElem_mem hi')
theorem A1i {s:List UInt8} (hs:s.length<9223372036854775807):Bc s=some (wordOk s):=by
 have hl:iter (U6 s) 0=some (if s.all lowB then .inr () else .inl false):=by
  rw [← A1l]
  refine Ku (fun i=>(i:Int)) s.length _ ?_ ?_ ?_
  ·intro i hi hp
   rw [qG hi] at hp
   simp only [lowB,Bool.and_eq_true,decide_eq_true_eq] at hp
   unfold U6
   simp only [show decide ((i:Int)<(s.length:Int))=true from by simp; omega,if_true,bt?_nat hi,ob]
   rw [if_neg (by simp; omega),if_neg (by simp; omega)]
   simp [C5 (show i<9223372036854775807 by omega)]
  ·intro i hi hp
   rw [qG hi] at hp
   simp only [lowB,Bool.and_eq_false_iff,decide_eq_false_iff_not] at hp
   unfold U6
   simp only [show decide ((i:Int)<(s.length:Int))=true from by simp; omega,if_true,bt?_nat hi,ob]
   by_cases h:(s[i]).toNat<97
   ·rw [if_pos (by simp; omega)]; rfl
   ·rw [if_neg (by simp; omega),if_pos (by simp; omega)]; rfl
  ·unfold U6
   simp
 unfold Bc
 rw [hl]
 unfold wordOk
 cases s.all lowB <;> simp [K6]
theorem A1m {s:List UInt8} (hs:s.length<9223372036854775807):Az s=some (wordOk s):=by
 have hl:iter (U4 s) 0=some (if s.all lowB then .inr () else .inl false):=by
  rw [← A1l]
  refine Ku (fun i=>(i:Int)) s.length _ ?_ ?_ ?_
  ·intro i hi hp
   rw [qG hi] at hp
   simp only [lowB,Bool.and_eq_true,decide_eq_true_eq] at hp
   unfold U4
   simp only [show decide ((i:Int)<(s.length:Int))=true from by simp; omega,if_true,bt?_nat hi,ob]
   rw [if_neg (by simp; omega),if_neg (by simp; omega)]
   simp [C5 (show i<9223372036854775807 by omega)]
  ·intro i hi hp
   rw [qG hi] at hp
   simp only [lowB,Bool.and_eq_false_iff,decide_eq_false_iff_not] at hp
   unfold U4
   simp only [show decide ((i:Int)<(s.length:Int))=true from by simp; omega,if_true,bt?_nat hi,ob]
   by_cases h:(s[i]).toNat<97
   ·rw [if_pos (by simp; omega)]; rfl
   ·rw [if_neg (by simp; omega),if_pos (by simp; omega)]; rfl
  ·unfold U4
   simp
 unfold Az
 rw [W0,ob,hl]
 unfold wordOk
 cases s.all lowB <;> cases inR (s.length:Int) 1 8 <;> simp
theorem Kt {α:Type} {l:List α} {i:Nat} {x:α}:set' l (i:Int) x=l.set i x:=by simp [set']
theorem at?_eq {α:Type} {l:List α} {i:Nat} {x:α} (h:l[i]?=some x):at? l (i:Int)=some x:=by
 obtain ⟨h1,rfl⟩:=qI h
 exact at?_nat h1
theorem dlt {i:Nat} {n:Nat} (h:i<n):decide ((i:Int)<(n:Int))=true:=by simpa using h
theorem A8v {α:Type} {l:List α} {z:α} {step:Int×List α→Option ((Int×List α) ⊕ List α)} (hl:l.length<9223372036854775807)
  (h1:∀ (i:Nat) (h:i<l.length) (m:List α),m.length=l.length→step ((i:Int),m)=some (.inl (((i+1:Nat):Int),m.set i l[i])))
  (h2:∀ m:List α,step ((l.length:Int),m)=some (.inr m)):iter step (0,List.replicate l.length z)=some l:=by
 have:=J8 (step:=step) (fun i=>((i:Int),l.take i++List.replicate (l.length - i) z)) l.length (r:=l) ?_ ?_
 ·simpa using this
 ·intro i hi
  rw [h1 i hi _ (by simp; omega)]
  have e:(l.take i++List.replicate (l.length - i) z).set i l[i]=l.take (i+1)++List.replicate (l.length - (i+1)) z:=by
   have e1:l.length - i=(l.length - (i+1))+1:=by omega
   have e2:(l.take i).length=i:=by simp; omega
   rw [e1,List.replicate_succ,List.set_append_right _ _ (by omega),e2,Nat.sub_self,List.set_cons_zero,List.take_succ_eq_append_getElem hi,List.append_assoc]
   rfl
  rw [e]
 ·simp [h2]
theorem mk?_ok {α:Type} {byt:Nat} {z:α} {n:Nat} (h:n≤1099511627776) (h2:n*byt≤140737488355328):mk? byt z (n:Int)=some (List.replicate n z):=by
 unfold mk?
 have h3:((n*byt:Nat):Int)≤140737488355328:=by omega
 rw [if_pos ⟨by omega,by rw [Int.mul_comm]; rw [Int.natCast_mul] at h3; exact h3,by omega⟩]; simp
theorem Ks {α ρ:Type} {l:List α} {k:Nat} (hk:k≤l.length) {q:α→Bool} {step:Int→Option (Int ⊕ ρ)} {bad good:ρ} (h1:∀ (i:Nat) (h:i<l.length),i<k→step (i:Int)=if q l[i] then some (.inr bad) else some (.inl ((i+1:Nat):Int))) (h2:step (k:Int)=some (.inr good)):iter step 0=some (if (l.take k).any q then bad else good):=by
 have key:∀ d i,i+d=k→iter step (i:Int)=some (if ((l.take k).drop i).any q then bad else good):=by
  intro d
  induction d with
  | zero => intro i hi; have : i = k := by omega
            subst this; rw [D1 h2,List.drop_eq_nil_of_le (by simp; omega)]; simp
  | succ d ih =>
   intro i hi
   have hd:(l.take k).drop i=l[i]::(l.take k).drop (i+1):=by
    rw [List.drop_eq_getElem_cons (by simp; omega)]; simp
   rw [hd,List.any_cons]
   have hs:=h1 i (by omega) (by omega)
   cases hq:q l[i] with
   | true=>rw [hq] at hs; rw [D1 hs]; simp
   | false=>rw [hq] at hs; rw [K1 hs,ih (i+1) (by omega)]; simp
 simpa using key k 0 (by omega)
theorem Jm {α:Type} {l:List α} {q:α→Bool} {step:Int→Option (Int ⊕ (Int ⊕ Unit))} (h1:∀ (i:Nat) (h:i<l.length),step (i:Int)=if q l[i] then some (.inr (.inl (i:Int))) else some (.inl ((i+1:Nat):Int))) (h2:step (l.length:Int)=some (.inr (.inr ()))):iter step 0=some (match l.findIdx? q with | some i=>.inl (i:Int) | none=>.inr ()):=by
 have key:∀ d i,i+d=l.length→iter step (i:Int)=some (match (l.drop i).findIdx? q with | some j=>.inl ((i+j:Nat):Int) | none=>.inr ()):=by
  intro d
  induction d with
  | zero => intro i hi; have : i = l.length := by omega
            subst this; rw [D1 h2,List.drop_eq_nil_of_le (by simp)]; simp
  | succ d ih =>
   intro i hi
   have hs:=h1 i (by omega)
   rw [List.drop_eq_getElem_cons (by omega),List.findIdx?_cons]
   cases hq:q l[i] with
   | true=>rw [hq] at hs; rw [D1 hs]; simp
   | false =>
    rw [hq] at hs; rw [K1 hs,ih (i+1) (by omega)]
    cases (l.drop (i+1)).findIdx? q with
    | none=>simp
    | some j=>simp; omega
 have:=key l.length 0 (by omega)
 simp only [List.drop_zero,Nat.zero_add] at this
 exact this
def idxI:Option Nat→Int
 | some i=>i
 | none=>-1
theorem Lx {α:Type} {l:List α} {q:α→Bool}:decide (idxI (l.findIdx? q)≥0)=l.any q:=by
 rw [← List.findIdx?_isSome]
 cases l.findIdx? q <;> simp [idxI]
theorem sub?_take {α:Type} {l:List α} {i:Nat} (h:i≤l.length):sub? l 0 (i:Int)=some (l.take i):=by
 unfold sub?
 simp
 omega
structure A1q (x:TRec):Prop where
 sUser:x.User.length≤1048576
 sName:x.Name.length≤1048576
 sText:x.Text.length≤1048576
structure A3x (x:TItem):Prop where
 sRec:A1q x.Rec
theorem Eg {x0:List TSeg} {x1:Int} {q:TSeg→Bool} (hl:x0.length≤9223372036854775806) (hq:∀ y∈x0,Q9 y x1=some (q y)):F8 x0 x1=some (idxI (x0.findIdx? q)):=by
 unfold F8
 rw [Jm (l:=x0) (q:=q) ?_ ?_]
 ·cases x0.findIdx? q <;> rfl
 ·intro i hi
  unfold H9
  simp only [dlt hi,if_true,at?_nat hi,ob,hq _ (List.getElem_mem hi),C5 (show i<9223372036854775807 by omega)]
 ·unfold H9
  simp
theorem Dg {x0:List TSeg} {x1:Int} {q:TSeg→Bool} (hl:x0.length≤9223372036854775806) (hq:∀ y∈x0,Q9 y x1=some (q y)):F0 x0 x1=some (x0.any q):=by
 unfold F0
 rw [Eg hl hq,ob,Lx]
theorem Dx {x0:List (List UInt8)} {q:(List UInt8)→Bool} (hl:x0.length≤9223372036854775806) (hq:∀ y∈x0,U8 y=some (q y)):F5 x0=some (idxI (x0.findIdx? q)):=by
 unfold F5
 rw [Jm (l:=x0) (q:=q) ?_ ?_]
 ·cases x0.findIdx? q <;> rfl
 ·intro i hi
  unfold G8
  simp only [dlt hi,if_true,at?_nat hi,ob,hq _ (List.getElem_mem hi),C5 (show i<9223372036854775807 by omega)]
 ·unfold G8
  simp
theorem Cw {x0:List (List UInt8)} {q:(List UInt8)→Bool} (hl:x0.length≤9223372036854775806) (hq:∀ y∈x0,U8 y=some (q y)):E7 x0=some (x0.any q):=by
 unfold E7
 rw [Dx hl hq,ob,Lx]
theorem Ee {x0:List TWrite} {x1:TDisk} {q:TWrite→Bool} (hl:x0.length≤9223372036854775806) (hq:∀ y∈x0,Q1 y x1=some (q y)):F9 x0 x1=some (idxI (x0.findIdx? q)):=by
 unfold F9
 rw [Jm (l:=x0) (q:=q) ?_ ?_]
 ·cases x0.findIdx? q <;> rfl
 ·intro i hi
  unfold H7
  simp only [dlt hi,if_true,at?_nat hi,ob,hq _ (List.getElem_mem hi),C5 (show i<9223372036854775807 by omega)]
 ·unfold H7
  simp
theorem Dd {x0:List TWrite} {x1:TDisk} {q:TWrite→Bool} (hl:x0.length≤9223372036854775806) (hq:∀ y∈x0,Q1 y x1=some (q y)):F3 x0 x1=some (x0.any q):=by
 unfold F3
 rw [Ee hl hq,ob,Lx]
theorem Fe {x0:List TSeg} {x1:TSeg} {q:TSeg→Bool} (hl:x0.length≤9223372036854775806) (hq:∀ y∈x0,Y5 y x1=some (q y)):H5 x0 x1=some (idxI (x0.findIdx? q)):=by
 unfold H5
 rw [Jm (l:=x0) (q:=q) ?_ ?_]
 ·cases x0.findIdx? q <;> rfl
 ·intro i hi
  unfold K0
  simp only [dlt hi,if_true,at?_nat hi,ob,hq _ (List.getElem_mem hi),C5 (show i<9223372036854775807 by omega)]
 ·unfold K0
  simp
theorem Eh {x0:List TSeg} {x1:TSeg} {q:TSeg→Bool} (hl:x0.length≤9223372036854775806) (hq:∀ y∈x0,Y5 y x1=some (q y)):E3 x0 x1=some (x0.any q):=by
 unfold E3
 rw [Fe hl hq,ob,Lx]
theorem Ez {x0:List TItem} {x1:TLog} {q:TItem→Bool} (hl:x0.length≤9223372036854775806) (hq:∀ y∈x0,T1 y x1=some (q y)):G7 x0 x1=some (idxI (x0.findIdx? q)):=by
 unfold G7
 rw [Jm (l:=x0) (q:=q) ?_ ?_]
 ·cases x0.findIdx? q <;> rfl
 ·intro i hi
  unfold J4
  simp only [dlt hi,if_true,at?_nat hi,ob,hq _ (List.getElem_mem hi),C5 (show i<9223372036854775807 by omega)]
 ·unfold J4
  simp
theorem Dw {x0:List TItem} {x1:TLog} {q:TItem→Bool} (hl:x0.length≤9223372036854775806) (hq:∀ y∈x0,T1 y x1=some (q y)):D9 x0 x1=some (x0.any q):=by
 unfold D9
 rw [Ez hl hq,ob,Lx]
theorem Ef {x0:List TItem} {x1:TItem} {q:TItem→Bool} (hl:x0.length≤9223372036854775806) (hq:∀ y∈x0,T7 y x1=some (q y)):G0 x0 x1=some (idxI (x0.findIdx? q)):=by
 unfold G0
 rw [Jm (l:=x0) (q:=q) ?_ ?_]
 ·cases x0.findIdx? q <;> rfl
 ·intro i hi
  unfold J0
  simp only [dlt hi,if_true,at?_nat hi,ob,hq _ (List.getElem_mem hi),C5 (show i<9223372036854775807 by omega)]
 ·unfold J0
  simp
theorem Db {x0:List TItem} {x1:TItem} {q:TItem→Bool} (hl:x0.length≤9223372036854775806) (hq:∀ y∈x0,T7 y x1=some (q y)):E9 x0 x1=some (x0.any q):=by
 unfold E9
 rw [Ef hl hq,ob,Lx]
def hit (a:Int) (l:List TWrite):Option TWrite:=l.foldl (fun o w=>if w.At==a then some w else o) none
theorem Pv (a:Int) (l:List TWrite) (w:TWrite):hit a (l++[w])=if w.At==a then some w else hit a l:=by
 unfold hit
 rw [List.foldl_append]; rfl
theorem A5b {a:Int} {l:List TWrite} {w:TWrite} (h:hit a l=some w):w∈l:=by
 have key:∀ (l:List TWrite) (o:Option TWrite),l.foldl (fun o w=>if w.At==a then some w else o) o=some w→w∈l∨o=some w:=by
  intro l
  induction l with
  | nil=>intro o h; exact .inr h
  | cons x l ih =>
   intro o h
   rcases ih _ h with h1 | h1
   ·exact .inl (List.mem_cons_of_mem _ h1)
   ·dsimp only at h1
    split at h1
    ·cases h1; exact .inl List.mem_cons_self
    ·exact .inr h1
 rcases key l none h with h1 | h1
 ·exact h1
 ·cases h1
def secV (o:Option TWrite) (z:List UInt8):List UInt8:=match o with | some w=>w.Text | none=>z
def rsec (d:TDisk) (a:Nat):List UInt8:=secV (hit (a:Int) d.Cache) ((d.Sectors[a]?).getD [])
structure DkS (d:TDisk):Prop where
 sec:d.Sectors.length≤1048576∧∀ y∈d.Sectors,y.length≤1048576
 cache:d.Cache.length≤1048576∧∀ y∈d.Cache,y.Text.length≤1048576
theorem Yd {d:TDisk} (h:DkS d) (a:Nat):(rsec d a).length≤1048576:=by
 unfold rsec secV
 split
 ·rename_i w hw; exact h.cache.2 w (A5b hw)
 ·by_cases ha:a<d.Sectors.length
  ·rw [qG ha]; exact h.sec.2 _ (List.getElem_mem ha)
  ·rw [List.getElem?_eq_none (by omega)]; simp
def readS (d:TDisk) (x:Int):List UInt8×Bool:=if inR x 0 ((d.Sectors.length:Int) - 1) then (rsec d x.toNat,true) else ([],false)
theorem Dt {d:TDisk} (h:DkS d) (x:Int):J9 d x=some (readS d x):=by
 have hs:=h.sec.1
 have hc:=h.cache.1
 unfold J9 readS
 rw [C1 (n:=(d.Sectors.length:Int) - 1) (by omega) (by omega),K6,ob]
 cases hr:inR x 0 ((d.Sectors.length:Int) - 1) with
 | false=>rfl
 | true =>
  unfold inR at hr
  simp only [Bool.and_eq_true,decide_eq_true_eq] at hr
  obtain ⟨a,rfl⟩:∃ a:Nat,x=a:=⟨x.toNat,by omega⟩
  have ha:a<d.Sectors.length:=by omega
  have key:∀ n:Nat,n≤d.Cache.length→iter (L8 d (a:Int)) ((n:Int) - 1)=some (match hit (a:Int) (d.Cache.take n) with | some w=>.inl (w.Text,true) | none=>.inr ()):=by
   intro n
   induction n with
   | zero =>
    intro _
    refine D1 ?_
    unfold L8
    simp [hit]
   | succ n ih =>
    intro hn
    have hn':n<d.Cache.length:=by omega
    have e0:(((n+1:Nat):Int) - 1)=(n:Int):=by omega
    rw [e0,List.take_succ_eq_append_getElem hn',Pv]
    by_cases c:d.Cache[n].At=(a:Int)
    ·refine D1 ?_
     unfold L8
     rw [if_pos (by simp),at?_nat hn',ob,if_pos (by simpa using c),if_pos (by simpa using c)]
     rfl
    ·rw [K1 (s':=((n:Int) - 1)),ih (by omega),if_neg (by simpa using c)]
     unfold L8
     rw [if_pos (by simp),at?_nat hn',ob,if_neg (by simpa using c),C1 (by omega) (by omega)]
  rw [if_pos rfl,C1 (n:=(d.Cache.length:Int) - 1) (by omega) (by omega),key _ (Nat.le_refl _),List.take_length,Int.toNat_natCast]
  unfold rsec secV
  cases hit (a:Int) d.Cache with
  | some w=>rfl
  | none=>simp [at?_nat ha,ha]
theorem Fy {d:TDisk} (h:DkS d) (x:Int):P4 d x=some (readS d x):=by
 have hs:=h.sec.1
 have hc:=h.cache.1
 unfold P4 readS
 rw [C1 (n:=(d.Sectors.length:Int) - 1) (by omega) (by omega),W0,ob]
 cases hr:inR x 0 ((d.Sectors.length:Int) - 1) with
 | false=>rfl
 | true =>
  unfold inR at hr
  simp only [Bool.and_eq_true,decide_eq_true_eq] at hr
  obtain ⟨a,rfl⟩:∃ a:Nat,x=a:=⟨x.toNat,by omega⟩
  have ha:a<d.Sectors.length:=by omega
  have key:=J8 (step:=R2 d (a:Int)) (fun i=>(secV (hit (a:Int) (d.Cache.take i)) d.Sectors[a],(i:Int))) d.Cache.length (r:=secV (hit (a:Int) d.Cache) d.Sectors[a]) ?_ ?_
  ·rw [if_pos rfl,at?_nat ha,ob]
   rw [show ((secV (hit (a:Int) (d.Cache.take 0)) d.Sectors[a],((0:Nat):Int)):List UInt8×Int)=(d.Sectors[a],0) from rfl] at key
   rw [key,ob,if_pos rfl,Int.toNat_natCast]
   unfold rsec
   rw [qG ha]; rfl
  ·intro i hi
   rw [List.take_succ_eq_append_getElem hi,Pv]
   unfold R2
   rw [if_pos (dlt hi),at?_nat hi,ob]
   by_cases c:d.Cache[i].At=(a:Int)
   ·rw [if_pos (by simpa using c),if_pos (by simpa using c),C5 (by omega)]; rfl
   ·rw [if_neg (by simpa using c),if_neg (by simpa using c),C5 (by omega)]
  ·unfold R2
   rw [List.take_length]; simp
def secT (d:TDisk) (f:Nat):Nat→List UInt8
 | 0=>[]
 | i+1=>secT d f i++rsec d (f+i)
theorem Qu {d:TDisk} (h:DkS d) (f:Nat):∀ n,(secT d f n).length≤1048576*n
 | 0=>by simp [secT]
 | n+1=>by
  have h1:=Qu h f n
  have h2:=Yd h (f+n)
  rw [secT,List.length_append]; omega
def sectorT (d:TDisk) (f n:Nat):List UInt8×Bool:=if f+n≤d.Sectors.length then (secT d f n,true) else ([],false)
theorem Ln {d:TDisk} {a:Nat} (h:a<d.Sectors.length):readS d (a:Int)=(rsec d a,true):=by
 unfold readS
 rw [if_pos (by unfold inR; simp; omega)]; rfl
theorem Tj {d:TDisk} {a:Nat} (h:d.Sectors.length≤a):readS d (a:Int)=([],false):=by
 unfold readS
 rw [if_neg (by unfold inR; simp; omega)]
theorem Vh {d:TDisk} (h:DkS d) {f n:Nat} (h0:0<n) {step:List UInt8×Int→Option ((List UInt8×Int) ⊕ ((List UInt8×Bool) ⊕ List UInt8))}
  (h1:∀ (i:Nat) (o:List UInt8),i<n→f+i<d.Sectors.length→o.length≤1048576*i→step (o,(i:Int))=some (.inl (o++rsec d (f+i),((i+1:Nat):Int))))
  (h2:∀ (i:Nat) (o:List UInt8),i<n→d.Sectors.length≤f+i→step (o,(i:Int))=some (.inr (.inl ([],false))))
  (h3:∀ o,step (o,(n:Int))=some (.inr (.inr o))):(iter step ([],0)).bind (Sum.elim (fun r=>some r) (fun y=>some (y,true)))=some (sectorT d f n):=by
 unfold sectorT
 by_cases c:f+n≤d.Sectors.length
 ·have:=J8 (step:=step) (fun i=>(secT d f i,(i:Int))) n (r:=.inr (secT d f n)) ?_ (h3 _)
  ·rw [show ((secT d f 0,((0:Nat):Int)):List UInt8×Int)=([],0) from rfl] at this
   rw [this,if_pos c]; rfl
  ·intro i hi
   rw [h1 i _ hi (by omega) (Qu h f i)]; rfl
 ·have:=J8 (step:=step) (fun i=>(secT d f i,(i:Int))) (d.Sectors.length - f) (r:=.inl ([],false)) ?_ (h2 _ _ (by omega) (by omega))
  ·rw [show ((secT d f 0,((0:Nat):Int)):List UInt8×Int)=([],0) from rfl] at this
   rw [this,if_neg c]; rfl
  ·intro i hi
   rw [h1 i _ (by omega) (by omega) (Qu h f i)]; rfl
theorem Vz {d:TDisk} (h:DkS d) {f n:Nat} (hf:f≤1000) (h0:0<n) (hn:n≤100):V9 d (f:Int) (n:Int)=some (sectorT d f n):=by
 unfold V9
 rw [K6,ob,if_pos (by unfold inR; simp; omega)]
 have e:∀ i:Nat,i<n→w64 ((f:Int)+(i:Int))=((f+i:Nat):Int):=fun i hi=>by rw [C1 (by omega) (by omega)]; omega
 refine Vh h h0 ?_ ?_ ?_
 ·intro i o hi hb ho
  have hr:=Yd h (f+i)
  unfold R1
  rw [if_pos (by simpa using hi),if_neg (by simp),if_neg (by simp; omega),ob,if_neg (by simp),e i hi,Dt h,ob,Ln hb]
  dsimp only
  rw [if_neg (by simp),cat?_ok (by omega),ob,C5 (by omega)]
 ·intro i o hi hb
  unfold R1
  rw [if_pos (by simpa using hi),if_neg (by simp)]
  by_cases c:(f:Int)>(d.Sectors.length:Int)
  ·rw [if_pos (by simpa using c),ob,if_pos rfl]
  ·rw [if_neg (by simpa using c),ob,if_neg (by simp),e i hi,Dt h,ob,Tj hb]
   rfl
 ·intro o
  unfold R1
  simp
theorem Wq {d:TDisk} (h:DkS d) {f n:Nat} (hf:f≤1000) (h0:0<n) (hn:n≤100):V3 d (f:Int) (n:Int)=some (sectorT d f n):=by
 unfold V3
 rw [W0,ob,if_pos (by unfold inR; simp; omega)]
 have e:∀ i:Nat,i<n→w64 ((f:Int)+(i:Int))=((f+i:Nat):Int):=fun i hi=>by rw [C1 (by omega) (by omega)]; omega
 refine Vh h h0 ?_ ?_ ?_
 ·intro i o hi hb ho
  have hr:=Yd h (f+i)
  unfold Q5
  rw [if_pos (by simpa using hi),e i hi,Fy h,ob,Ln hb]
  dsimp only
  rw [if_neg (by simp),cat?_ok (by omega),ob,C5 (by omega)]
 ·intro i o hi hb
  unfold Q5
  rw [if_pos (by simpa using hi),e i hi,Fy h,ob,Tj hb]
  rfl
 ·intro o
  unfold Q5
  simp
theorem X9 {d:TDisk} (h:DkS d):D2 d=some d:=by
 have h1:=h.sec.1
 have h2:=h.cache.1
 unfold D2
 rw [app?_ok (by simp; omega) (by simp; omega),ob,app?_ok (by simp; omega) (by simp; omega),ob]
 rfl
theorem Jl {d:TDisk} (h:DkS d):G9 d=some d:=by
 have h1:=h.sec.1
 have h2:=h.cache.1
 unfold G9 Bh Ch
 rw [app?_ok (by simp; omega) (by simp; omega),ob,app?_ok (by simp; omega) (by simp; omega),ob]
 rfl
def wOk (n:Nat) (w:TWrite):Bool:=inR w.At 0 ((n:Int) - 1)&&w.Text.length==32
def E1 (d:TDisk):Bool:=inR (d.Sectors.length:Int) 1 100&&(decide (d.Cache.length≤60)&&(d.Sectors.all (fun s=>s.length==32)&&d.Cache.all (wOk d.Sectors.length)))
theorem K8 {d:TDisk}:E1 d=true↔(1≤d.Sectors.length∧d.Sectors.length≤100)∧d.Cache.length≤60∧(∀ s∈d.Sectors,s.length=32)∧∀ w∈d.Cache,(0≤w.At∧w.At≤(d.Sectors.length:Int) - 1)∧w.Text.length=32:=by
 unfold E1 wOk inR
 simp only [Bool.and_eq_true,decide_eq_true_eq,List.all_eq_true,beq_iff_eq]
 constructor
 ·rintro ⟨h1,h2,h3,h4⟩
  exact ⟨by omega,h2,h3,h4⟩
 ·rintro ⟨h1,h2,h3,h4⟩
  exact ⟨by omega,h2,h3,h4⟩
theorem Vj {α:Type} (l:List α) (p:α→Bool):l.any (fun x=>!p x)=!(l.all p):=by
 rw [List.all_eq_not_any_not,Bool.not_not]
theorem Ec {d:TDisk} (h:DkS d):M7 d=some (E1 d):=by
 have h1:=h.sec.1
 have h2:=h.cache.1
 have a1:=Ks (l:=d.Sectors) (k:=d.Sectors.length) (by omega) (q:=fun s=>!(s.length==32)) (step:=Ar d) (bad:=.inl false) (good:=.inr ()) (by
  intro i hi _
  unfold Ar
  simp only [dlt hi,if_true,at?_nat hi,ob,C5 (show i<9223372036854775807 by omega)]
  by_cases c:d.Sectors[i].length=32
  ·rw [if_neg (by simp [c]),if_neg (by simp [c])]
  ·rw [if_pos (by simp; omega),if_pos (by simpa using c)]) (by unfold Ar; simp)
 have a2:=Ks (l:=d.Cache) (k:=d.Cache.length) (by omega) (q:=fun w=>!(wOk d.Sectors.length w)) (step:=Au d) (bad:=.inl false) (good:=.inr ()) (by
  intro i hi _
  unfold Au wOk
  simp only [dlt hi,if_true,at?_nat hi,ob,K6,C1 (n:=(d.Sectors.length:Int) - 1) (by omega) (by omega),C5 (show i<9223372036854775807 by omega)]
  cases inR d.Cache[i].At 0 ((d.Sectors.length:Int) - 1)
  ·simp
  ·by_cases c:d.Cache[i].Text.length=32
   ·simp [c]
   ·have c':¬ ((d.Cache[i].Text.length:Int)=32):=by omega
    simp [c,c']) (by unfold Au; simp)
 rw [List.take_length,Vj] at a1 a2
 unfold M7 E1
 rw [K6,ob]
 cases inR (d.Sectors.length:Int) 1 100 with
 | false=>rfl
 | true =>
  rw [if_pos rfl]
  by_cases c:d.Cache.length≤60
  ·rw [if_neg (by simp; omega),ob,if_neg (by simp),a1]
   cases d.Sectors.all (fun s=>s.length==32)
   ·simp
   ·simp only [Bool.not_true,Bool.false_eq_true,if_false,ob,Sum.elim_inr,a2]
    cases d.Cache.all (wOk d.Sectors.length) <;> simp [c]
  ·rw [if_pos (by simp; omega),ob,if_pos rfl]
   simp [c]
theorem Hp {d:TDisk} (h:DkS d):R4 d=some (E1 d):=by
 have h1:=h.sec.1
 have h2:=h.cache.1
 have a1:=Cw (x0:=d.Sectors) (q:=fun s=>!(s.length==32)) (by omega) (fun s _=>by
  unfold U8
  by_cases c:s.length=32
  ·simp [c]
  ·have c':¬ ((s.length:Int)=32):=by omega
   rw [show ((s.length:Int) != 32)=true by simpa using c',show (s.length==32)=false by simpa using c]; rfl)
 have a2:=Dd (x0:=d.Cache) (x1:=d) (q:=fun w=>!(wOk d.Sectors.length w)) (by omega) (fun w _=>by
  unfold Q1 wOk
  rw [W0,ob,C1 (n:=(d.Sectors.length:Int) - 1) (by omega) (by omega)]
  cases inR w.At 0 ((d.Sectors.length:Int) - 1)
  ·simp
  ·by_cases c:w.Text.length=32
   ·simp [c]
   ·have c':¬ ((w.Text.length:Int)=32):=by omega
    rw [if_pos rfl,show ((w.Text.length:Int) != 32)=true by simpa using c',show (w.Text.length==32)=false by simpa using c]; rfl)
 rw [Vj] at a1 a2
 unfold R4 E1
 rw [W0,ob]
 cases inR (d.Sectors.length:Int) 1 100 with
 | false=>rfl
 | true =>
  rw [if_pos rfl]
  by_cases c:d.Cache.length≤60
  ·rw [if_neg (by simp; omega),ob,if_neg (by simp),a1,ob]
   cases d.Sectors.all (fun s=>s.length==32)
   ·simp
   ·simp only [Bool.not_true,Bool.false_eq_true,if_false,a2,ob]
    cases d.Cache.all (wOk d.Sectors.length) <;> simp [c]
  ·rw [if_pos (by simp; omega),ob,if_pos rfl]
   simp [c]
def wr (d:TDisk) (k:Int) (t:List UInt8):Option TDisk:=if E1 d&&(inR k 0 ((d.Sectors.length:Int) - 1)&&(t.length==32&&decide (d.Cache.length<60))) then some { Sectors:=d.Sectors,Cache:=d.Cache++[{ At:=k,Text:=t }] } else none
def wrR (d:TDisk) (o:Option TDisk):TDisk×Bool:=match o with
 | some d'=>(d',true)
 | none=>(d,false)
theorem A99 {d d':TDisk} {k:Int} {t:List UInt8} (h:wr d k t=some d'):E1 d'=true∧d'.Sectors=d.Sectors:=by
 unfold wr at h
 split at h
 ·rename_i hc
  cases h
  simp only [Bool.and_eq_true,decide_eq_true_eq,beq_iff_eq] at hc
  obtain ⟨h1,h2,h3,h4⟩:=hc
  obtain ⟨g1,g2,g3,g4⟩:=K8.1 h1
  unfold inR at h2
  simp only [Bool.and_eq_true,decide_eq_true_eq] at h2
  refine ⟨K8.2 ⟨g1,by simp; omega,g3,?_⟩,rfl⟩
  intro w hw
  rcases List.mem_append.1 hw with hw | hw
  ·exact g4 w hw
  ·rw [List.mem_singleton] at hw; subst hw
   exact ⟨h2,h3⟩
 ·cases h
theorem DkS.ofOk {d:TDisk} (h:E1 d=true):DkS d:=by
 obtain ⟨h1,h2,h3,h4⟩:=K8.1 h
 exact ⟨⟨by omega,fun y hy=>by rw [h3 y hy]; omega⟩,by omega,fun y hy=>by rw [(h4 y hy).2]; omega⟩
theorem A5e {d:TDisk} (h:DkS d) (k:Int) (t:List UInt8):K2 d k t=some (wrR d (wr d k t)):=by
 have h1:=h.sec.1
 have h2:=h.cache.1
 unfold K2 wr
 rw [X9 h,ob,Ec h,ob]
 cases E1 d with
 | false=>rfl
 | true =>
  rw [if_pos rfl,K6,ob,C1 (n:=(d.Sectors.length:Int) - 1) (by omega) (by omega)]
  cases inR k 0 ((d.Sectors.length:Int) - 1) with
  | false=>rfl
  | true =>
   rw [if_pos rfl]
   by_cases c:t.length=32
   ·rw [if_neg (by simp [c])]
    by_cases e:d.Cache.length<60
    ·rw [if_neg (by simp; omega),ob,if_neg (by simp),app?_ok (by simp; omega) (by simp; omega)]
     simp [c,e,wrR]
    ·rw [if_pos (by simp; omega),ob,if_pos rfl]
     simp [e,wrR]
   ·rw [if_pos (by simp; omega),ob,if_pos rfl]
    simp [c,wrR]
theorem A8j {d:TDisk} (h:DkS d) {k:Int} {t:List UInt8} (ht:t.length≤1048576) (hc:d.Cache.length≤1000):U1 d k t=some (wrR d (wr d k t)):=by
 have h1:=h.sec.1
 unfold U1 wr
 rw [Jl h,ob,app?_ok (by simp; omega) (by simp; omega),ob,Hp h,ob]
 cases hd:E1 d with
 | false=>rfl
 | true =>
  have h':DkS { Sectors:=d.Sectors,Cache:=d.Cache++[{ At:=k,Text:=t }] }:=by
   refine ⟨h.sec,by simp; omega,?_⟩
   intro y hy
   rcases List.mem_append.1 hy with hy | hy
   ·exact h.cache.2 y hy
   ·rw [List.mem_singleton] at hy; subst hy; exact ht
  obtain ⟨g1,g2,g3,g4⟩:=K8.1 hd
  rw [if_pos rfl,Hp h',ob]
  have e:E1 { Sectors:=d.Sectors,Cache:=d.Cache++[{ At:=k,Text:=t }] }=(inR k 0 ((d.Sectors.length:Int) - 1)&&(t.length==32&&decide (d.Cache.length<60))):=by
   rw [Bool.eq_iff_iff,K8]
   unfold inR
   simp only [Bool.and_eq_true,decide_eq_true_eq,beq_iff_eq,List.length_append,List.length_singleton]
   constructor
   ·rintro ⟨_,k2,_,k4⟩
    have:=k4 _ (List.mem_append_right _ (List.mem_singleton.2 rfl))
    exact ⟨this.1,this.2,by omega⟩
   ·rintro ⟨k1,k2,k3⟩
    refine ⟨g1,by omega,g3,?_⟩
    intro w hw
    rcases List.mem_append.1 hw with hw | hw
    ·exact g4 w hw
    ·rw [List.mem_singleton] at hw; subst hw; exact ⟨k1,k2⟩
  rw [e]
  cases (inR k 0 ((d.Sectors.length:Int) - 1)&&(t.length==32&&decide (d.Cache.length<60))) with
  | false=>simp [Jl h,wrR]
  | true=>simp [wrR]
def setW (s:List (List UInt8)) (w:TWrite):List (List UInt8):=s.set w.At.toNat w.Text
def flush (d:TDisk):TDisk:=if E1 d then { Sectors:=d.Cache.foldl setW d.Sectors,Cache:=[] } else d
theorem Rf:∀ (l:List TWrite) (s:List (List UInt8)),(l.foldl setW s).length=s.length
 | [],s=>rfl
 | w::l,s=>by rw [List.foldl_cons,Rf l]; simp [setW]
theorem A3w:∀ (l:List TWrite) (s:List (List UInt8)),(∀ w∈l,w.Text.length=32)→(∀ x∈s,x.length=32)→∀ x∈l.foldl setW s,x.length=32
 | [],s,_,h,x,hx=>h x hx
 | w::l,s,hl,h,x,hx=>by
  rw [List.foldl_cons] at hx
  refine A3w l _ (fun w hw=>hl w (List.mem_cons_of_mem _ hw)) ?_ x hx
  intro y hy
  unfold setW at hy
  rcases List.mem_or_eq_of_mem_set hy with hy | hy
  ·exact h y hy
  ·rw [hy]; exact hl w List.mem_cons_self
theorem A84 {d:TDisk} (h:E1 d=true):E1 (flush d)=true:=by
 obtain ⟨h1,h2,h3,h4⟩:=K8.1 h
 unfold flush
 rw [if_pos h]
 refine K8.2 ⟨by rw [Rf]; exact h1,by simp,A3w _ _ (fun w hw=>(h4 w hw).2) h3,by simp⟩
theorem Yk {d:TDisk} (h:E1 d=true) {step:Int×List (List UInt8)→Option ((Int×List (List UInt8)) ⊕ List (List UInt8))}
  (h1:∀ (i:Nat) (o:List (List UInt8)) (hi:i<d.Cache.length),o.length=d.Sectors.length→step ((i:Int),o)=some (.inl (((i+1:Nat):Int),setW o d.Cache[i])))
  (h2:∀ o,step ((d.Cache.length:Int),o)=some (.inr o)):iter step (0,d.Sectors)=some (d.Cache.foldl setW d.Sectors):=by
 have:=J8 (step:=step) (fun i=>((i:Int),(d.Cache.take i).foldl setW d.Sectors)) d.Cache.length (r:=d.Cache.foldl setW d.Sectors) ?_ ?_
 ·simpa using this
 ·intro i hi
  rw [h1 i _ hi (Rf _ _),List.take_succ_eq_append_getElem hi,List.foldl_append]; rfl
 ·rw [h2,List.take_length]
theorem Py {d:TDisk} (h:DkS d):G4 d=some (flush d):=by
 have h2:=h.cache.1
 unfold G4 flush
 rw [X9 h,ob,Ec h,ob]
 by_cases c:E1 d=true
 ·rw [if_pos c,if_pos c,Yk c]
  ·rfl
  ·intro i o hi ho
   have hw:=(K8.1 c).2.2.2 _ (List.getElem_mem hi)
   obtain ⟨n,hn⟩:∃ n:Nat,d.Cache[i].At=n:=⟨d.Cache[i].At.toNat,by omega⟩
   unfold Ao setW
   rw [if_pos (dlt hi),at?_nat hi,ob,ob,hn,at?_nat (show n<o.length by omega),ob,ob,Kt,C5 (by omega),Int.toNat_natCast]
  ·intro o; unfold Ao; simp
 ·rw [if_neg c,if_neg c]
theorem A4c {d:TDisk} (h:DkS d):J5 d=some (flush d):=by
 have h2:=h.cache.1
 unfold J5 flush
 rw [Jl h,ob,Hp h,ob]
 by_cases c:E1 d=true
 ·rw [if_pos c,if_pos c,Yk c]
  ·rfl
  ·intro i o hi ho
   have hw:=(K8.1 c).2.2.2 _ (List.getElem_mem hi)
   obtain ⟨n,hn⟩:∃ n:Nat,d.Cache[i].At=n:=⟨d.Cache[i].At.toNat,by omega⟩
   unfold Ai setW
   rw [if_pos (dlt hi),at?_nat hi,ob,hn,at?_nat (show n<o.length by omega),ob,ob,Kt,C5 (by omega),Int.toNat_natCast]
  ·intro o; unfold Ai; simp
 ·rw [if_neg c,if_neg c]
def lastG (l:List TRef):Nat→Int
 | 0=>0
 | i+1=>match l[i]? with | some r=>r.Gen | none=>0
theorem A4z {l:List TRef} {i:Nat} (h:i<l.length):lastG l (i+1)=l[i].Gen:=by simp [lastG,h]
def anyNo (l:List TRef) (n:Int):Bool:=l.any fun q=>q.No==n
def okS (l:List TRef) (ng:Int) (i:Nat):Bool:=match l[i]? with
 | some r=>inR r.No 0 10&&inR r.Gen 1 (w64 (ng - 1))&&(i==0||decide (lastG l i<r.Gen))&&!anyNo (l.take i) r.No
 | none=>true
theorem V7 {n lo hi:Int}:inR n lo hi=true↔lo≤n∧n≤hi:=by unfold inR; simp
def stamps (c:TCheck):Bool:=inR c.Stamp 1 1000000000&&inR c.NextGen 1 1000000000&&inR c.NextSeq 1 1000000000&&inR c.NextValid 1 1000000000
def checkOk (c:TCheck):Bool:=stamps c&&inR c.Refs.length 1 11&&(List.range c.Refs.length).all (okS c.Refs c.NextGen)
theorem A2b {c:TCheck} (h:c.Refs.length≤1048576):Bs c=some (checkOk c):=by
 have hl:iter (Z0 c) 0=some (if (List.range c.Refs.length).all (okS c.Refs c.NextGen) then .inr () else .inl false):=by
  refine Ku (fun i=>(i:Int)) c.Refs.length _ ?_ ?_ ?_
  all_goals first
   | (unfold Z0; simp; done)
   | skip
  all_goals
   intro i hi hp
   have inner:iter (Aa c (i:Int) c.Refs[i]) 0=some (if anyNo (c.Refs.take i) c.Refs[i].No then .inl false else .inr ()):=by
    refine Ks (by omega) ?_ ?_
    ·intro j hj hji
     unfold Aa
     simp only [dlt hji,if_true,at?_nat hj,ob,C5 (show j<9223372036854775807 by omega)]
    ·unfold Aa
     simp
   have hprev:(if decide ((i:Int)>0) then (at? c.Refs (w64 ((i:Int) - 1))).bind fun v13=>(if decide (v13.Gen≥c.Refs[i].Gen) then some true else some false) else some false)=some (!(i==0||decide (lastG c.Refs i<c.Refs[i].Gen))):=by
    cases i with
    | zero=>simp
    | succ j =>
     have e:w64 (((j+1:Nat):Int) - 1)=(j:Int):=by rw [C1 (by omega) (by omega)]; omega
     rw [if_pos (by simp),e,at?_nat (show j<c.Refs.length by omega),A4z (by omega)]
     simp only [ob]
     by_cases hc:c.Refs[j].Gen<c.Refs[j+1].Gen
     ·rw [if_neg (by simpa using hc)]; simp [hc]
     ·rw [if_pos (by simp; omega)]; simp [hc]
   unfold okS at hp
   rw [qG hi] at hp
   dsimp only at hp
   unfold Z0
   simp only [dlt hi,if_true,at?_nat hi,ob,K6,inner,hprev]
   generalize inR c.Refs[i].No 0 10=b1 at hp ⊢
   generalize inR c.Refs[i].Gen 1 (w64 (c.NextGen - 1))=b2 at hp ⊢
   generalize (i==0||decide (lastG c.Refs i<c.Refs[i].Gen))=b3 at hp ⊢
   generalize anyNo (c.Refs.take i) c.Refs[i].No=b4 at hp ⊢
   revert hp
   cases b1 <;> cases b2 <;> cases b3 <;> cases b4 <;> simp [C5 (show i<9223372036854775807 by omega)]
 unfold Bs checkOk stamps
 simp only [K6,hl,ob]
 cases inR c.Stamp 1 1000000000 <;> cases inR c.NextGen 1 1000000000 <;> cases inR c.NextSeq 1 1000000000 <;> cases inR c.NextValid 1 1000000000 <;> cases inR (c.Refs.length:Int) 1 11 <;> cases (List.range c.Refs.length).all (okS c.Refs c.NextGen) <;> simp
structure RecS (x:TRec):Prop where
 user:x.User.length≤1048576
 name:x.Name.length≤1048576
 text:x.Text.length≤1048576
def recOk (x:TRec):Bool:=inR x.Kind 1 5&&inR x.Valid 1 9999 &&
 (if x.Kind=1 then wordOk x.User&&wordOk x.Name&&inR x.Next 1 10000 else x.User==[]&&x.Name==[]&&x.Next==0) &&
 (if x.Kind=3∨x.Kind=4∨x.Kind=5 then inR x.Uid 1 9999 else x.Uid==0) &&
 (if x.Kind=3∨x.Kind=4 then inR x.Flags 0 7 else x.Flags==0) &&
 (if x.Kind=3 then decide (x.Text.length≤100) else x.Text==[])
theorem kinds {n:Int}:inR n 1 5=true→n=1∨n=2∨n=3∨n=4∨n=5:=by
 unfold inR
 intro h
 simp only [Bool.and_eq_true,decide_eq_true_eq] at h
 omega
theorem A7c {n:Int}:inR n 1 5=false→n≠1∧n≠2∧n≠3∧n≠4∧n≠5:=by
 unfold inR
 intro h
 simp only [Bool.and_eq_false_iff,decide_eq_false_iff_not] at h
 omega
theorem iteS {α:Type} {p:Prop} [Decidable p] {a b:α}:(if p then some a else some b)=some (if p then a else b):=by split <;> rfl
theorem Xw {x:TRec} (h:RecS x):Cu x=some (recOk x):=by
 have h1:=A1i (s:=x.User) (by have:=h.user; omega)
 have h2:=A1i (s:=x.Name) (by have:=h.name; omega)
 unfold Cu recOk
 simp only [K6,h1,h2,ob]
 cases hk:inR x.Kind 1 5 with
 | false=>simp
 | true =>
  cases hv:inR x.Valid 1 9999 with
  | false=>simp
  | true =>
   rcases kinds hk with k | k | k | k | k <;> simp [k,iteS] <;> grind
theorem Kc {x:TRec} (h:RecS x):Ah x=some (recOk x):=by
 have h1:=A1m (s:=x.User) (by have:=h.user; omega)
 have h2:=A1m (s:=x.Name) (by have:=h.name; omega)
 unfold Ah recOk
 simp only [W0,h1,h2,ob]
 cases hv:inR x.Valid 1 9999 with
 | false=>simp
 | true =>
  cases hk:inR x.Kind 1 5 with
  | false =>
   obtain ⟨k1,k2,k3,k4,k5⟩:=A7c hk
   simp [k1,k2,k3,k4,k5]
  | true =>
   rcases kinds hk with k | k | k | k | k <;> simp [k,iteS] <;> grind
theorem Jn {x:TRec} (h:recOk x=true):(0≤x.Valid∧x.Valid≤10000)∧(0≤x.Uid∧x.Uid≤10000)∧(0≤x.Next∧x.Next≤10000)∧(0≤x.Flags∧x.Flags≤10000)∧1≤x.Kind∧x.Kind≤5:=by
 unfold recOk inR at h
 grind
def short (s:List UInt8):List UInt8:=vt s.length++s
def recT (x:TRec):List UInt8:=[ofI (IntKind.u8.wrap x.Kind)]++vt x.Valid++vt x.Uid++vt x.Next++vt x.Flags++short x.User++short x.Name++short x.Text
def recText (x:TRec):List UInt8×Bool:=if recOk x then (recT x,true) else ([],false)
theorem Ja {s:List UInt8} (h:s.length≤1048576):(short s).length≤s.length+11:=by
 unfold short
 have:=J2 (n:=s.length) (by omega)
 simp; omega
theorem Jy {s:List UInt8} (h:s.length≤1048576):L9 s=some (short s):=by
 unfold L9
 have:=J2 (n:=s.length) (by omega)
 rw [R3 (by omega) (by omega),ob,cat?_ok (by omega)]
 rfl
theorem Jr {x:TRec} (h:RecS x):Y9 x=some (recText x):=by
 unfold Y9 recText
 rw [Xw h,ob]
 cases hk:recOk x with
 | false=>rfl
 | true =>
  obtain ⟨r1,r2,r3,r4,_⟩:=Jn hk
  have l1:=J2 (n:=x.Valid) (by omega)
  have l2:=J2 (n:=x.Uid) (by omega)
  have l3:=J2 (n:=x.Next) (by omega)
  have l4:=J2 (n:=x.Flags) (by omega)
  have l5:=Ja h.user
  have l6:=Ja h.name
  have l7:=Ja h.text
  have b1:=h.user
  have b2:=h.name
  have b3:=h.text
  simp only [if_true]
  rw [R3 (by omega) (by omega),ob,cat?_ok (by simp; omega),ob,
   R3 (by omega) (by omega),ob,cat?_ok (by simp; omega),ob,
   R3 (by omega) (by omega),ob,cat?_ok (by simp; omega),ob,
   R3 (by omega) (by omega),ob,cat?_ok (by simp; omega),ob,
   Jy h.user,ob,cat?_ok (by simp; omega),ob,
   Jy h.name,ob,cat?_ok (by simp; omega),ob,
   Jy h.text,ob,cat?_ok (by simp; omega),ob]
  rfl
theorem at?_lit {α:Type} {l:List α} {i:Int} {x:α} (h0:0≤i) (h:l[i.toNat]?=some x):at? l i=some x:=by
 unfold at?
 have:=(qI h).1
 rw [if_pos ⟨h0,by omega⟩]
 exact h
theorem A2h {x:TRec} (h:RecS x):Ci x=some (recText x):=by
 unfold Ci recText
 rw [Kc h,ob]
 cases hk:recOk x with
 | false=>rfl
 | true =>
  obtain ⟨r1,r2,r3,r4,_⟩:=Jn hk
  have l1:=J2 (n:=x.Valid) (by omega)
  have l2:=J2 (n:=x.Uid) (by omega)
  have l3:=J2 (n:=x.Next) (by omega)
  have l4:=J2 (n:=x.Flags) (by omega)
  have b1:=h.user
  have b2:=h.name
  have b3:=h.text
  have l5:=J2 (n:=x.User.length) (by omega)
  have l6:=J2 (n:=x.Name.length) (by omega)
  have l7:=J2 (n:=x.Text.length) (by omega)
  simp only [if_true]
  have s1:∀ (i:Nat) (n:Int) (out:List UInt8),[x.Valid,x.Uid,x.Next,x.Flags][i]?=some n→out.length≤1000→W7 x (out,(i:Int))=some (.inl (out++vt n,((i+1:Nat):Int))):=by
   intro i n out hi ho
   have hl:=(qI hi).1
   simp at hl
   have hn:0≤n∧n≤10000:=by
    rcases i with _ | _ | _ | _ | i <;> simp at hi <;> first | omega | skip
   have:=J2 (n:=n) (by omega)
   unfold W7; dsimp only
   rw [if_pos (by simp; omega),at?_lit (by simp) (by simpa using hi),ob,Kw (by omega) (by omega),ob,cat?_ok (by omega),ob,C5 (by omega)]
  have s2:∀ (i:Nat) (s out:List UInt8),[x.User,x.Name,x.Text][i]?=some s→out.length≤10000000→Y8 x (out,(i:Int))=some (.inl (out++short s,((i+1:Nat):Int))):=by
   intro i s out hi ho
   have hl:=(qI hi).1
   simp at hl
   have hn:s.length≤1048576:=by
    rcases i with _ | _ | _ | i <;> simp at hi <;> first | (subst hi; omega) | skip
   have:=J2 (n:=s.length) (by omega)
   unfold Y8; dsimp only
   rw [if_pos (by simp; omega),at?_lit (by simp) (by simpa using hi),ob,Kw (by omega) (by omega),ob,cat?_ok (by omega),ob,cat?_ok (by simp; omega),ob,C5 (by omega)]
   rfl
  have z:(0:Int)=((0:Nat):Int):=rfl
  rw [z,K1 (s1 0 x.Valid _ rfl (by simp)),K1 (s1 1 x.Uid _ rfl (by simp; omega)),K1 (s1 2 x.Next _ rfl (by simp; omega)),K1 (s1 3 x.Flags _ rfl (by simp; omega)),
   D1 (r:=_) (by unfold W7; rw [if_neg (by simp)]),ob]
  have l8:(short x.User).length≤x.User.length+11:=Ja h.user
  have l9:(short x.Name).length≤x.Name.length+11:=Ja h.name
  rw [K1 (s2 0 x.User _ rfl (by simp; omega)),K1 (s2 1 x.Name _ rfl (by simp; omega)),K1 (s2 2 x.Text _ rfl (by simp; omega)),
   D1 (r:=_) (by unfold Y8; rw [if_neg (by simp)]),ob]
  rfl
def ctHead (c:TCheck):List UInt8:=vt c.Stamp++vt c.NextGen++vt c.NextSeq++vt c.NextValid++vt c.Refs.length
def refT (r:TRef):List UInt8:=vt r.No++vt r.Gen
def ctBody (c:TCheck):List UInt8:=ctHead c++c.Refs.flatMap refT
def ctOut (c:TCheck):List UInt8:=short (ctBody c++sealL (ctBody c))
def checkText (c:TCheck):List UInt8×Bool:=if checkOk c then (if 128<(ctOut c).length then ([],false) else (ctOut c,true)) else ([],false)
theorem Hr {c:TCheck} (h:checkOk c=true):((1≤c.Stamp∧c.Stamp≤1000000000)∧(1≤c.NextGen∧c.NextGen≤1000000000)∧(1≤c.NextSeq∧c.NextSeq≤1000000000)∧(1≤c.NextValid∧c.NextValid≤1000000000))∧(1≤c.Refs.length∧c.Refs.length≤11)∧∀ r∈c.Refs,(0≤r.No∧r.No≤10)∧1≤r.Gen∧r.Gen≤1000000000:=by
 unfold checkOk stamps at h
 simp only [Bool.and_eq_true,V7] at h
 obtain ⟨⟨⟨⟨⟨h1,h2⟩,h3⟩,h4⟩,h5⟩,h6⟩:=h
 refine ⟨⟨h1,h2,h3,h4⟩,by omega,?_⟩
 intro r hr
 obtain ⟨i,hi⟩:=List.getElem?_of_mem hr
 have h7:=List.all_eq_true.1 h6 i (List.mem_range.2 (qI hi).1)
 unfold okS at h7
 rw [hi] at h7
 simp only [Bool.and_eq_true,V7] at h7
 rw [C1 (by omega) (by omega)] at h7
 obtain ⟨⟨⟨a,b⟩,_⟩,_⟩:=h7
 omega
theorem A3v {r:TRef} (h:(0≤r.No∧r.No≤10)∧1≤r.Gen∧r.Gen≤1000000000):(refT r).length≤22:=by
 have l1:=J2 (n:=r.No) (by omega)
 have l2:=J2 (n:=r.Gen) (by omega)
 unfold refT
 simp; omega
theorem A43 {α:Type} {f:α→List UInt8} {k:Nat}:∀ (l:List α),(∀ x∈l,(f x).length≤k)→(l.flatMap f).length≤k*l.length
 | [],_=>by simp
 | x::l,h=>by
  have h1:=A43 l (fun y hy=>h y (by simp [hy]))
  have h2:=h x (by simp)
  simp only [List.flatMap_cons,List.length_append,List.length_cons,Nat.mul_succ]
  omega
theorem Yq {c:TCheck} (h:checkOk c=true):(ctHead c).length≤55:=by
 obtain ⟨⟨h1,h2,h3,h4⟩,h5,_⟩:=Hr h
 have l1:=J2 (n:=c.Stamp) (by omega)
 have l2:=J2 (n:=c.NextGen) (by omega)
 have l3:=J2 (n:=c.NextSeq) (by omega)
 have l4:=J2 (n:=c.NextValid) (by omega)
 have l5:=J2 (n:=c.Refs.length) (by omega)
 unfold ctHead
 simp; omega
theorem A48 {c:TCheck} (h:checkOk c=true):(ctBody c).length≤297:=by
 have h1:=Yq h
 obtain ⟨_,h5,h6⟩:=Hr h
 have h2:=A43 (f:=refT) (k:=22) c.Refs (fun r hr=>A3v (h6 r hr))
 unfold ctBody
 simp only [List.length_append]
 omega
theorem A88 {α:Type} {l:List α} {f:α→List UInt8} {step:List UInt8×Int→Option ((List UInt8×Int) ⊕ List UInt8)} {y:List UInt8} {b:Nat}
  (hb:∀ i,i≤l.length→(y++(l.take i).flatMap f).length≤b)
  (h1:∀ (i:Nat) (h:i<l.length) (a:List UInt8),a.length≤b→step (a,(i:Int))=some (.inl (a++f l[i],((i+1:Nat):Int))))
  (h2:∀ a,step (a,(l.length:Int))=some (.inr a)):iter step (y,0)=some (y++l.flatMap f):=by
 have:=J8 (step:=step) (fun i=>(y++(l.take i).flatMap f,(i:Int))) l.length (r:=y++l.flatMap f) ?_ ?_
 ·simpa using this
 ·intro i hi
  rw [h1 i hi _ (hb i (by omega)),List.take_succ_eq_append_getElem hi,List.flatMap_append,List.append_assoc]
  simp
 ·rw [h2]; simp
theorem Yl {c:TCheck} (h:c.Refs.length≤1048576):X3 c=some (checkText c):=by
 unfold X3 checkText
 rw [A2b h,ob]
 cases hk:checkOk c with
 | false=>rfl
 | true =>
  obtain ⟨⟨h1,h2,h3,h4⟩,h5,h6⟩:=Hr hk
  have l1:=J2 (n:=c.Stamp) (by omega)
  have l2:=J2 (n:=c.NextGen) (by omega)
  have l3:=J2 (n:=c.NextSeq) (by omega)
  have l4:=J2 (n:=c.NextValid) (by omega)
  have l5:=J2 (n:=c.Refs.length) (by omega)
  have lb:=A48 hk
  have hl:iter (U0 c) (ctHead c,0)=some (ctBody c):=by
   refine A88 (l:=c.Refs) (f:=refT) (b:=297) ?_ ?_ ?_
   ·intro i hi
    have h7:=A43 (f:=refT) (k:=22) (c.Refs.take i) (fun r hr=>A3v (h6 r (List.mem_of_mem_take hr)))
    have h8:=Yq hk
    simp only [List.length_append,List.length_take] at h7 ⊢
    omega
   ·intro i hi a ha
    have hr:=h6 _ (List.getElem_mem hi)
    have q1:=J2 (n:=c.Refs[i].No) (by omega)
    have q2:=J2 (n:=c.Refs[i].Gen) (by omega)
    unfold U0
    simp only [dlt hi,if_true,at?_nat hi,ob,C5 (show i<9223372036854775807 by omega)]
    rw [R3 (by omega) (by omega),ob,cat?_ok (by omega),ob,R3 (by omega) (by omega),ob,cat?_ok (by simp; omega),ob]
    simp [refT]
   ·intro a
    unfold U0
    simp
  simp only [if_true]
  rw [R3 (by omega) (by omega),ob,R3 (by omega) (by omega),ob,cat?_ok (by omega),ob,R3 (by omega) (by omega),ob,cat?_ok (by simp; omega),ob,R3 (by omega) (by omega),ob,cat?_ok (by simp; omega),ob,R3 (by omega) (by omega),ob,cat?_ok (by simp; omega),ob]
  rw [show vt c.Stamp++vt c.NextGen++vt c.NextSeq++vt c.NextValid++vt c.Refs.length=ctHead c from rfl,hl,ob,Vk (by omega),ob]
  unfold sealed
  rw [if_neg (by omega)]
  simp only []
  rw [Jy (by rw [List.length_append,Eb]; omega),ob]
  show _=some (if 128<(ctOut c).length then ([],false) else (ctOut c,true))
  unfold ctOut
  by_cases hc:128<(short (ctBody c++sealL (ctBody c))).length
  ·have hc':(128:Int)<((short (ctBody c++sealL (ctBody c))).length:Int):=by omega
   rw [if_pos hc]; simp [hc']
  ·have hc':¬ (128:Int)<((short (ctBody c++sealL (ctBody c))).length:Int):=by omega
   rw [if_neg hc]; simp [hc']
theorem Tl (b:UInt8):ofI (b.toNat:Int)=b:=by
 simp [ofI]
theorem Lu {n:Nat} (h:n<256):(ofI (n:Int)).toNat=n:=by
 simp [ofI]; omega
def dig:Nat→List UInt8→Option (Nat×Nat)
 | 0,_=>none
 | _+1,[]=>none
 | f+1,b::r=>if b.toNat<128 then some (b.toNat,1) else match dig f r with
  | some x=>some (b.toNat - 128+128*x.1,x.2+1)
  | none=>none
theorem Qy:∀ {f:Nat} {r:List UInt8} {x:Nat×Nat},dig f r=some x→1≤x.2∧x.2≤r.length∧x.2≤f∧x.1<128 ^ x.2
 | 0,_,_,h=>by simp [dig] at h
 | _+1,[],_,h=>by simp [dig] at h
 | f+1,b::r,x,h=>by
  simp only [dig] at h
  split at h
  ·cases h; simp; omega
  ·split at h
   ·rename_i y hy
    cases h
    obtain ⟨h1,h2,h3,h4⟩:=Qy hy
    have:=b.toNat_lt
    refine ⟨by simp,by simpa using h2,by simpa using h3,?_⟩
    show _<128 ^ (y.2+1)
    rw [Nat.pow_succ]
    simp only []
    omega
   ·cases h
theorem A3q:∀ {f:Nat} {r:List UInt8} {x:Nat×Nat},dig f r=some x→x.1=0→r[x.2 - 1]?=some 0
 | 0,_,_,h,_=>by simp [dig] at h
 | _+1,[],_,h,_=>by simp [dig] at h
 | f+1,b::r,x,h,h0=>by
  simp only [dig] at h
  split at h
  ·cases h
   simp only at h0
   simp
   exact UInt8.toNat_inj.1 h0
  ·split at h
   ·rename_i y hy
    cases h
    obtain ⟨h1,_⟩:=Qy hy
    have:=A3q hy (by simp only at h0; omega)
    obtain ⟨c,hc⟩:∃ c,y.2=c+1:=⟨y.2 - 1,by omega⟩
    simp only [hc,Nat.add_sub_cancel] at this ⊢
    simpa using this
   ·cases h
theorem A1a:∀ {f:Nat} {r:List UInt8} {x:Nat×Nat},dig f r=some x→((vtl x.1).map ofI=r.take x.2↔¬ (1<x.2∧r[x.2 - 1]?=some 0))
 | 0,_,_,h=>by simp [dig] at h
 | _+1,[],_,h=>by simp [dig] at h
 | f+1,b::r,x,h=>by
  simp only [dig] at h
  split at h
  ·cases h
   rw [X4 (by simp only; omega)]
   simp [Tl]
  ·split at h
   ·rename_i hb y hy
    cases h
    have hl:=b.toNat_lt
    obtain ⟨h1,h2,_⟩:=Qy hy
    have ih:=A1a hy
    obtain ⟨c,hc⟩:∃ c,y.2=c+1:=⟨y.2 - 1,by omega⟩
    simp only []
    by_cases h0:y.1=0
    ·have hz:=A3q hy h0
     rw [hc] at hz
     simp only [Nat.add_sub_cancel] at hz
     rw [h0,X4 (by omega)]
     constructor
     ·intro e
      have:=congrArg List.length e
      rw [List.length_take] at this
      simp only [List.length_map,List.length_cons,List.length_nil] at this
      omega
     ·intro e
      refine absurd ⟨by omega,?_⟩ e
      simp only [Nat.add_sub_cancel,hc]
      simpa using hz
    ·have e1:(b.toNat - 128+128*y.1)%128=b.toNat - 128:=by omega
     have e2:(b.toNat - 128+128*y.1) / 128=y.1:=by omega
     rw [Lz (by omega),e1,e2]
     have e3:ofI ((b.toNat - 128+128:Nat):Int)=b:=by
      rw [show b.toNat - 128+128=b.toNat by omega]; exact Tl b
     simp only [List.map_cons,e3,List.take_succ_cons,List.cons.injEq,true_and,ih,Nat.add_sub_cancel]
     rw [hc]
     simp only [Nat.add_sub_cancel,List.getElem?_cons_succ]
     constructor
     ·intro hh he
      cases c with
      | zero =>
       cases f with
       | zero=>simp [dig] at hy
       | succ f =>
        cases r with
        | nil=>simp at h2; omega
        | cons b2 r =>
         simp at he
         subst he
         simp [dig] at hy
         rw [← hy] at h0
         exact h0 rfl
      | succ c=>exact hh ⟨by omega,he.2⟩
     ·intro hh he
      exact hh ⟨by omega,he.2⟩
   ·cases h
theorem A2u:∀ (k n:Nat),n<128 ^ (k+1)→(vtl n).length≤k+1
 | 0,n,h=>by rw [X4 (by simp at h; omega)]; simp
 | k+1,n,h=>by
  by_cases hb:127<n
  ·rw [Lz hb]
   have:=A2u k (n / 128) (by rw [Nat.pow_succ] at h; exact Nat.div_lt_of_lt_mul (by rw [Nat.mul_comm]; exact h))
   simp; omega
  ·rw [X4 (by omega)]; simp
theorem A5i:∀ (f n:Nat) (r:List UInt8),(vtl n).length≤f→dig f ((vtl n).map ofI++r)=some (n,(vtl n).length)
 | 0,n,r,h=>by
  exfalso
  unfold vtl at h
  split at h <;> simp at h
 | f+1,n,r,h=>by
  by_cases hb:127<n
  ·rw [Lz hb] at h ⊢
   have ih:=A5i f (n / 128) r (by simpa using h)
   simp only [List.map_cons,List.cons_append,dig,Lu (show n%128+128<256 by omega)]
   rw [if_neg (by omega),ih]
   simp; omega
  ·rw [X4 (by omega)]
   simp only [List.map_cons,List.map_nil,List.cons_append,dig,Lu (show n<256 by omega)]
   rw [if_pos (by omega)]
   simp
theorem A47 (n:Nat):vt (n:Int)=(vtl n).map ofI:=by
 unfold vt; rw [if_pos (by omega)]; simp
def rv (t:List UInt8) (a:Nat):Option (Nat×Nat):=match dig 5 (t.drop a) with
 | some x=>if x.1≤1000000000∧vt (x.1:Int)=(t.drop a).take x.2 then some (x.1,a+x.2) else none
 | none=>none
def rvR (o:Option (Nat×Nat)):Int×Int×Bool:=match o with
 | some x=>((x.1:Int),(x.2:Int),true)
 | none=>(0,0,false)
theorem A3a {t:List UInt8} {a n:Nat} {r:List UInt8} (h:t.drop a=vt (n:Int)++r) (hn:n≤1000000000):rv t a=some (n,a+(vt (n:Int)).length):=by
 have hl:(vtl n).length≤5:=A2u 4 n (by omega)
 unfold rv
 rw [h,A47,A5i 5 n r hl]
 simp [hn,A47]
theorem Pt {t:List UInt8} {a:Nat} {x:Nat×Nat} (h:rv t a=some x):a<x.2∧x.2≤t.length∧x.1≤1000000000:=by
 unfold rv at h
 split at h
 ·rename_i y hy
  split at h
  ·rename_i hc
   cases h
   obtain ⟨h1,h2,_⟩:=Qy hy
   simp at h2
   exact ⟨by simp only; omega,by simp only; omega,hc.1⟩
  ·cases h
 ·cases h
theorem andv127' (b:UInt8):andv .i64 (b.toNat:Int) 127=((b.toNat%128:Nat):Int):=andv127 (by have:=b.toNat_lt; omega)
theorem A93 {a x j:Nat} (ha:a<2 ^ j) (h:a+x*2 ^ j<9223372036854775808):orv .i64 (a:Int) ((x*2 ^ j:Nat):Int)=((a+x*2 ^ j:Nat):Int):=by
 show IntKind.i64.wrap ((BitVec.ofInt 64 (a:Int) ||| BitVec.ofInt 64 ((x*2 ^ j:Nat):Int)).toNat:Int)=_
 have e1:BitVec.ofInt 64 (a:Int)=BitVec.ofNat 64 a:=by simp
 have e2:BitVec.ofInt 64 ((x*2 ^ j:Nat):Int)=BitVec.ofNat 64 (x*2 ^ j):=BitVec.ofInt_natCast ..
 rw [e1,e2]
 have e3:(BitVec.ofNat 64 a ||| BitVec.ofNat 64 (x*2 ^ j)).toNat=a+x*2 ^ j:=by
  rw [BitVec.toNat_or]
  simp only [BitVec.toNat_ofNat]
  rw [Nat.mod_eq_of_lt (a:=a) (by omega),Nat.mod_eq_of_lt (a:=x*2 ^ j) (by omega),Nat.or_comm,Nat.mul_comm x,← Nat.two_pow_add_eq_or_of_lt ha]
  omega
 rw [e3]
 exact El (by omega)
theorem p128 (k:Nat):128 ^ k=2 ^ (7*k):=by rw [Nat.pow_mul]
theorem Rm {t:List UInt8} {a:Nat} (ht:t.length≤4611686018427387904) (ha:a≤t.length):∀ (f k acc:Nat),f+k=5→acc<128 ^ k →
  (iter (M3 t (a:Int)) ((acc:Int),(k:Int))).bind (Sum.elim (fun r=>some r) (fun _=>some (0,0,false)))=some (match dig f (t.drop (a+k)) with
   | none=>(0,0,false)
   | some x=>if 1000000000<acc+x.1*128 ^ k∨((t.drop (a+k))[x.2 - 1]?=some 0∧1<k+x.2) then (0,0,false) else (((acc+x.1*128 ^ k:Nat):Int),((a+k+x.2:Nat):Int),true))
 | 0,k,acc,hk,_=>by
  have:k=5:=by omega
  subst this
  rw [D1 (r:=.inr ()) (by unfold M3; simp)]
  simp [dig]
 | f+1,k,acc,hk,hacc=>by
  have ew:w64 ((a:Int)+(k:Int))=((a+k:Nat):Int):=by rw [C1 (by omega) (by omega)]; omega
  by_cases hlt:a+k<t.length
  ·have hd:t.drop (a+k)=t[a+k]::t.drop (a+k+1):=List.drop_eq_getElem_cons hlt
   have hb:=(t[a+k]).toNat_lt
   generalize hbv:t[a+k]=b at hd hb
   have e7:w64 (7*(k:Int))=((7*k:Nat):Int):=by rw [C1 (by omega) (by omega)]; omega
   have hpk:128 ^ k≤128 ^ 4:=Nat.pow_le_pow_right (by omega) (by omega)
   have hpp:(b.toNat%128)*128 ^ k≤127*128 ^ 4:=Nat.mul_le_mul (by omega) hpk
   have es:shl? .i64 ((b.toNat%128:Nat):Int) ((7*k:Nat):Int)=some (((b.toNat%128)*2 ^ (7*k):Nat):Int):=by
    unfold shl?
    rw [if_neg (by omega)]
    have hm:min ((7*k:Nat):Int).toNat IntKind.i64.bits=7*k:=by
     simp [IntKind.bits]; omega
    rw [hm]
    have:((b.toNat%128:Nat):Int)*2 ^ (7*k)=(((b.toNat%128)*2 ^ (7*k):Nat):Int):=by simp
    rw [this]
    exact congrArg some (El (by rw [← p128]; omega))
   have eo:orv .i64 (acc:Int) (((b.toNat%128)*2 ^ (7*k):Nat):Int)=((acc+(b.toNat%128)*128 ^ k:Nat):Int):=by
    rw [A93 (by rw [← p128]; exact hacc) (by rw [← p128]; omega),p128]
   have eb:w64 ((b.toNat:Nat):Int)=(b.toNat:Int):=El (by omega)
   have hst:M3 t (a:Int) ((acc:Int),(k:Int))=if 127<b.toNat then some (.inl (((acc+(b.toNat%128)*128 ^ k:Nat):Int),((k+1:Nat):Int))) else if (b.toNat=0∧0<k)∨1000000000<acc+(b.toNat%128)*128 ^ k then some (.inr (.inl (0,0,false))) else some (.inr (.inl (((acc+(b.toNat%128)*128 ^ k:Nat):Int),((a+k+1:Nat):Int),true))):=by
    unfold M3
    simp only [show decide ((k:Int)<5)=true from by simp; omega,if_true,ew,show decide (((a+k:Nat):Int)<(t.length:Int))=true from by simp; omega,ob,bt?_nat hlt,hbv,eb,andv127',e7,es,eo,C5 (show k<9223372036854775807 by omega),C5 (show a+k<9223372036854775807 by omega)]
    by_cases g1:127<b.toNat
    ·rw [if_pos g1,if_pos (by simp; omega)]
    ·rw [if_neg g1,if_neg (by simp; omega)]
     generalize acc+b.toNat%128*128 ^ k=M
     by_cases g2:b.toNat=0 <;> by_cases g3:0<k <;> by_cases g4:1000000000<M
     all_goals
      have g4':decide ((M:Int)>1000000000)=decide (1000000000<M):=by
       rw [decide_eq_decide]; omega
      rw [g4']
      have g2':((b.toNat:Int)==0)=decide (b.toNat=0):=by
       rw [Bool.eq_iff_iff]; simp
      rw [g2']
      simp [g2,g3,g4]
   by_cases g1:127<b.toNat
   ·rw [if_pos g1] at hst
    have hq:(b.toNat%128)*128 ^ k≤127*128 ^ k:=Nat.mul_le_mul_right _ (by omega)
    rw [K1 hst,Rm ht ha f (k+1) _ (by omega) (by rw [Nat.pow_succ]; omega),hd]
    simp only [dig,if_neg (show ¬ b.toNat<128 by omega)]
    have ed:t.drop (a+(k+1))=t.drop (a+k+1):=by rw [Nat.add_assoc]
    rw [ed]
    cases hdg:dig f (t.drop (a+k+1)) with
    | none=>rfl
    | some x =>
     obtain ⟨h1,_⟩:=Qy hdg
     obtain ⟨c,hc⟩:∃ c,x.2=c+1:=⟨x.2 - 1,by omega⟩
     have ev:acc+b.toNat%128*128 ^ k+x.1*128 ^ (k+1)=acc+(b.toNat - 128+128*x.1)*128 ^ k:=by
      rw [show b.toNat%128=b.toNat - 128 by omega,Nat.pow_succ,Nat.add_mul]
      rw [show 128*x.1*128 ^ k=x.1*(128 ^ k*128) by rw [Nat.mul_comm 128,Nat.mul_assoc,Nat.mul_comm 128]]
      omega
     have ei:(b::t.drop (a+k+1))[x.2+1 - 1]?=(t.drop (a+k+1))[x.2 - 1]?:=by
      rw [hc]; simp
     have e4:a+(k+1)+x.2=a+k+(x.2+1):=by omega
     have e5:k+1+x.2=k+(x.2+1):=by omega
     simp only [ev,ei,e4,e5]
   ·rw [if_neg g1] at hst
    rw [hd]
    simp only [dig,if_pos (show b.toNat<128 by omega)]
    have em:b.toNat%128=b.toNat:=by omega
    rw [em] at hst
    have hz:(some b=some (0:UInt8))↔b.toNat=0:=by
     rw [Option.some_inj]
     exact ⟨fun h=>by rw [h]; rfl,fun h=>UInt8.toNat_inj.1 (by simpa using h)⟩
    by_cases g2:(b.toNat=0∧0<k)∨1000000000<acc+b.toNat*128 ^ k
    ·rw [if_pos g2] at hst
     rw [D1 hst,if_pos]
     ·rfl
     ·rcases g2 with g | g
      ·exact .inr ⟨by simpa using hz.2 g.1,by omega⟩
      ·exact .inl g
    ·rw [if_neg g2] at hst
     rw [D1 hst,if_neg]
     ·rfl
     ·rintro (g | g)
      ·exact g2 (.inr g)
      ·exact g2 (.inl ⟨hz.1 (by simpa using g.1),by omega⟩)
  ·rw [D1 (r:=.inr ()) (by unfold M3; simp only [ew]; rw [show decide (((a+k:Nat):Int)<(t.length:Int))=false from by simp; omega]; simp)]
   rw [List.drop_eq_nil_of_le (by omega)]
   simp [dig]
theorem Re {t:List UInt8} {a:Nat} (ht:t.length≤4611686018427387904) (ha:a≤t.length):∀ (f k acc:Nat),f+k=5→acc<128 ^ k →
  (iter (M4 t (a:Int)) ((acc:Int),((128 ^ k:Nat):Int),((a+k:Nat):Int))).bind (Sum.elim (fun r=>some r) (fun _=>some (0,0,false)))=some (match dig f (t.drop (a+k)) with
   | none=>(0,0,false)
   | some x=>if 1000000000<acc+x.1*128 ^ k∨vt ((acc+x.1*128 ^ k:Nat):Int)≠(t.drop a).take (k+x.2) then (0,0,false) else (((acc+x.1*128 ^ k:Nat):Int),((a+k+x.2:Nat):Int),true))
 | 0,k,acc,hk,_=>by
  have:k=5:=by omega
  subst this
  have ew:w64 ((a:Int)+5)=((a+5:Nat):Int):=by rw [C1 (by omega) (by omega)]; omega
  rw [D1 (r:=.inr ()) (by
   unfold M4
   simp only [ew]
   rw [show decide (((a+5:Nat):Int)<((a+5:Nat):Int))=false from by simp]
   cases decide (((a+5:Nat):Int)<(t.length:Int)) <;> simp)]
  simp [dig]
 | f+1,k,acc,hk,hacc=>by
  have ew:w64 ((a:Int)+5)=((a+5:Nat):Int):=by rw [C1 (by omega) (by omega)]; omega
  by_cases hlt:a+k<t.length
  ·have hd:t.drop (a+k)=t[a+k]::t.drop (a+k+1):=List.drop_eq_getElem_cons hlt
   have hb:=(t[a+k]).toNat_lt
   generalize hbv:t[a+k]=b at hd hb
   have hpk:128 ^ k≤128 ^ 4:=Nat.pow_le_pow_right (by omega) (by omega)
   have hpp:(b.toNat%128)*128 ^ k≤127*128 ^ 4:=Nat.mul_le_mul (by omega) hpk
   have hq:(b.toNat%128)*128 ^ k≤127*128 ^ k:=Nat.mul_le_mul_right _ (by omega)
   have eb:w64 ((b.toNat:Nat):Int)=(b.toNat:Int):=El (by omega)
   have em:w64 (Int.tmod (b.toNat:Int) 128*((128 ^ k:Nat):Int))=(((b.toNat%128)*128 ^ k:Nat):Int):=by
    rw [Int.tmod_eq_emod_of_nonneg (by omega)]
    have:((b.toNat:Int)%128)*((128 ^ k:Nat):Int)=(((b.toNat%128)*128 ^ k:Nat):Int):=by simp
    rw [this]
    exact El (by omega)
   have ea:w64 ((acc:Int)+(((b.toNat%128)*128 ^ k:Nat):Int))=((acc+(b.toNat%128)*128 ^ k:Nat):Int):=by
    rw [← Int.natCast_add]; exact El (by omega)
   have e128:w64 (((128 ^ k:Nat):Int)*128)=((128 ^ (k+1):Nat):Int):=by
    rw [show ((128 ^ k:Nat):Int)*128=((128 ^ (k+1):Nat):Int) by rw [Nat.pow_succ]; simp]
    exact El (by rw [Nat.pow_succ]; omega)
   have hsub:sub? t (a:Int) ((a+k+1:Nat):Int)=some ((t.drop a).take (k+1)):=by
    unfold sub?
    rw [if_pos (by omega)]
    have e1:((a+k+1:Nat):Int).toNat=a+(k+1):=by omega
    have e2:(a:Int).toNat=a:=by omega
    rw [e1,e2,List.drop_take]
    congr 2
    omega
   have hst:M4 t (a:Int) ((acc:Int),((128 ^ k:Nat):Int),((a+k:Nat):Int))=if 127<b.toNat then some (.inl (((acc+(b.toNat%128)*128 ^ k:Nat):Int),((128 ^ (k+1):Nat):Int),((a+k+1:Nat):Int))) else if 1000000000<acc+(b.toNat%128)*128 ^ k∨vt ((acc+(b.toNat%128)*128 ^ k:Nat):Int)≠(t.drop a).take (k+1) then some (.inr (.inl (0,0,false))) else some (.inr (.inl (((acc+(b.toNat%128)*128 ^ k:Nat):Int),((a+k+1:Nat):Int),true))):=by
    unfold M4
    simp only [show decide (((a+k:Nat):Int)<(t.length:Int))=true from by simp; omega,if_true,ew,show decide (((a+k:Nat):Int)<((a+5:Nat):Int))=true from by simp; omega,ob,bt?_nat hlt,hbv,eb,em,ea,e128,hsub,C5 (show a+k<9223372036854775807 by omega)]
    rw [R3 (by omega) (by omega),ob]
    generalize acc+b.toNat%128*128 ^ k=M
    by_cases g1:127<b.toNat
    ·rw [if_pos g1,if_neg (by simp; omega)]
    ·rw [if_neg g1,if_pos (by simp; omega)]
     have g4':decide ((M:Int)>1000000000)=decide (1000000000<M):=by
      rw [decide_eq_decide]; omega
     rw [g4']
     by_cases g3:1000000000<M <;> by_cases g4:vt (M:Int)=(t.drop a).take (k+1) <;> simp [g3,g4]
   by_cases g1:127<b.toNat
   ·rw [if_pos g1] at hst
    have ih:=Re ht ha f (k+1) (acc+(b.toNat%128)*128 ^ k) (by omega) (by rw [Nat.pow_succ]; omega)
    rw [show a+(k+1)=a+k+1 by omega] at ih
    rw [K1 hst,ih,hd]
    simp only [dig,if_neg (show ¬ b.toNat<128 by omega)]
    cases hdg:dig f (t.drop (a+k+1)) with
    | none=>rfl
    | some x =>
     have ev:acc+b.toNat%128*128 ^ k+x.1*128 ^ (k+1)=acc+(b.toNat - 128+128*x.1)*128 ^ k:=by
      rw [show b.toNat%128=b.toNat - 128 by omega,Nat.pow_succ,Nat.add_mul]
      rw [show 128*x.1*128 ^ k=x.1*(128 ^ k*128) by rw [Nat.mul_comm 128,Nat.mul_assoc,Nat.mul_comm 128]]
      omega
     have e4:a+k+1+x.2=a+k+(x.2+1):=by omega
     have e5:k+1+x.2=k+(x.2+1):=by omega
     simp only [ev,e4,e5]
   ·rw [if_neg g1] at hst
    rw [hd]
    simp only [dig,if_pos (show b.toNat<128 by omega)]
    have em:b.toNat%128=b.toNat:=by omega
    rw [em] at hst
    by_cases g2:1000000000<acc+b.toNat*128 ^ k∨vt ((acc+b.toNat*128 ^ k:Nat):Int)≠(t.drop a).take (k+1)
    ·rw [if_pos g2] at hst
     rw [D1 hst,if_pos g2]; rfl
    ·rw [if_neg g2] at hst
     rw [D1 hst,if_neg g2]; rfl
  ·rw [D1 (r:=.inr ()) (by unfold M4; rw [show decide (((a+k:Nat):Int)<(t.length:Int))=false from by simp; omega]; simp)]
   rw [List.drop_eq_nil_of_le (by omega)]
   simp [dig]
theorem A1s {t:List UInt8} {a:Nat} (h:t.length<a):rv t a=none:=by
 unfold rv
 rw [List.drop_eq_nil_of_le (by omega)]
 simp [dig]
theorem Qj {t:List UInt8} (ht:t.length≤4611686018427387904) (a:Nat):P3 t (a:Int)=some (rvR (rv t a)):=by
 unfold P3
 rw [K6,ob]
 by_cases ha:a≤t.length
 ·rw [if_pos (by unfold inR; simp; omega)]
  have:=Re ht ha 5 0 0 (by omega) (by simp)
  simp only [Nat.pow_zero,Nat.mul_one,Nat.zero_add,Nat.add_zero] at this
  rw [show ((0:Nat):Int)=0 from rfl,show ((1:Nat):Int)=1 from rfl] at this
  rw [this]
  unfold rv rvR
  cases hd:dig 5 (t.drop a) with
  | none=>rfl
  | some x =>
   simp only []
   by_cases g1:1000000000<x.1
   ·rw [if_pos (.inl g1),if_neg (by omega)]
   ·by_cases g2:vt (x.1:Int)=(t.drop a).take x.2
    ·rw [if_neg (by rintro (g | g); exact g1 g; exact g g2),if_pos ⟨by omega,g2⟩]
    ·rw [if_pos (.inr g2),if_neg (fun g=>g2 g.2)]
 ·rw [if_neg (by unfold inR; simp; omega),A1s (by omega)]; rfl
theorem Gi {t:List UInt8} (ht:t.length≤4611686018427387904) (a:Nat):J3 t (a:Int)=some (rvR (rv t a)):=by
 unfold J3
 rw [W0,ob]
 by_cases ha:a≤t.length
 ·rw [if_pos (by unfold inR; simp; omega)]
  have:=Rm ht ha 5 0 0 (by omega) (by simp)
  simp only [Nat.pow_zero,Nat.mul_one,Nat.zero_add,Nat.add_zero] at this
  rw [show ((0:Nat):Int)=0 from rfl] at this
  rw [this]
  unfold rv rvR
  cases hd:dig 5 (t.drop a) with
  | none=>rfl
  | some x =>
   have hc:=A1a hd
   rw [← A47] at hc
   simp only []
   by_cases g1:1000000000<x.1
   ·rw [if_pos (.inl g1),if_neg (by omega)]
   ·by_cases g2:vt (x.1:Int)=(t.drop a).take x.2
    ·have:=hc.1 g2
     rw [if_neg (by rintro (g | g); exact g1 g; exact this ⟨g.2,g.1⟩),if_pos ⟨by omega,g2⟩]
    ·rw [if_pos,if_neg (fun g=>g2 g.2)]
     refine .inr ?_
     have:¬ ¬ (1<x.2∧(t.drop a)[x.2 - 1]?=some 0):=fun h=>g2 (hc.2 h)
     have:=Classical.not_not.1 this
     exact ⟨this.2,this.1⟩
 ·rw [if_neg (by unfold inR; simp; omega),A1s (by omega)]; rfl
def rs (t:List UInt8):Option (List UInt8×Nat):=match rv t 0 with
 | some x=>if x.1≤20000∧x.2+x.1≤t.length then some ((t.drop x.2).take x.1,x.2+x.1) else none
 | none=>none
def rsR (o:Option (List UInt8×Nat)):List UInt8×Int×Bool:=match o with
 | some x=>(x.1,(x.2:Int),true)
 | none=>([],0,false)
theorem sub?_mid {α:Type} {l:List α} {i n:Nat} (h:i+n≤l.length):sub? l (i:Int) ((i+n:Nat):Int)=some ((l.drop i).take n):=by
 unfold sub?
 rw [if_pos (by omega)]
 have e1:((i+n:Nat):Int).toNat=i+n:=by omega
 have e2:(i:Int).toNat=i:=by omega
 rw [e1,e2,List.drop_take]
 congr 2
 omega
theorem A8p {t:List UInt8} (ht:t.length≤8388608) {n p:Nat} (h2:p≤t.length) (h3:n≤1000000000):((if !true then some true else (if decide ((n:Int)>20000) then some true else (if decide ((n:Int)>(w64 ((t.length:Int) - (p:Int)))) then some true else some false))):Option Bool).bind (fun y2=>(if y2 then some (([]:List UInt8),(0:Int),false) else (sub? t (p:Int) (w64 ((p:Int)+(n:Int)))).bind fun v3=>some (v3,w64 ((p:Int)+(n:Int)),true)))=some (rsR (if n≤20000∧p+n≤t.length then some ((t.drop p).take n,p+n) else none)):=by
 have e1:w64 ((t.length:Int) - (p:Int))=(t.length:Int) - p:=C1 (by omega) (by omega)
 have e2:w64 ((p:Int)+(n:Int))=((p+n:Nat):Int):=by rw [C1 (by omega) (by omega)]; omega
 rw [e1,e2]
 by_cases g1:20000<n
 ·rw [if_neg (by simp),if_pos (by simp <;> omega),if_neg (by omega)]; rfl
 ·rw [if_neg (by simp),if_neg (by simp <;> omega)]
  by_cases g2:p+n≤t.length
  ·rw [if_neg (by simp <;> omega),if_pos ⟨by omega,g2⟩,ob,if_neg (by simp),sub?_mid g2]; rfl
  ·rw [if_pos (by simp <;> omega),if_neg (by omega)]; rfl
def us (s:List UInt8):Option (List UInt8):=if 4≤s.length∧s.length≤20004∧s.drop (s.length - 4)=sealL (s.take (s.length - 4)) then some (s.take (s.length - 4)) else none
theorem sub?_tail {α:Type} {l:List α} {i:Nat} (h:i≤l.length):sub? l (i:Int) (l.length:Int)=some (l.drop i):=by
 unfold sub?
 rw [if_pos (by omega)]
 simp
def chunk (T:List UInt8) (j:Nat):List UInt8:=(T.drop (32*j)).take 32
theorem Vc (T:List UInt8) (j:Nat):(chunk T j).length=min 32 (T.length - 32*j):=by simp [chunk]
theorem A73 {T:List UInt8} {j:Nat} (hj:32*j<T.length):sub? T ((32*j:Nat):Int) ((32*j+(chunk T j).length:Nat):Int)=some (chunk T j):=by
 have hl:=Vc T j
 rw [sub?_mid (by omega)]
 congr 1
 rw [hl]
 unfold chunk
 by_cases c:32≤T.length - 32*j
 ·rw [Nat.min_eq_left c]
 ·rw [Nat.min_eq_right (by omega),List.take_of_length_le (by simp),List.take_of_length_le (by simp; omega)]
def wb1 (s:Nat) (T:List UInt8) (j:Nat) (d:TDisk):Option TDisk:=if s+j<d.Sectors.length∧(rsec d (s+j)).length=32 then wr d ((s+j:Nat):Int) (chunk T j++(rsec d (s+j)).drop (chunk T j).length) else none
def wbN (s:Nat) (T:List UInt8):Nat→Nat→TDisk→Option TDisk
 | 0,_,d=>some d
 | n+1,j,d=>if 32*j<T.length then (match wb1 s T j d with | some d'=>wbN s T n (j+1) d' | none=>none) else some d
theorem A86 {s:Nat} {T:List UInt8} {j:Nat} {d d':TDisk} (h:wb1 s T j d=some d'):E1 d'=true:=by
 unfold wb1 at h
 split at h
 ·exact (A99 h).1
 ·cases h
theorem A87 {s:Nat} {T:List UInt8}:∀ {n j:Nat} {d d':TDisk},E1 d=true→wbN s T n j d=some d'→E1 d'=true
 | 0,j,d,d',hd,h=>by simp only [wbN,qS] at h; subst h; exact hd
 | n+1,j,d,d',hd,h=>by
  rw [wbN] at h
  split at h
  ·split at h
   ·rename_i d1 h1
    exact A87 (A86 h1) h
   ·cases h
  ·cases h; exact hd
theorem A23 {x0 d:TDisk} {T:List UInt8} {s j:Nat} (hx:DkS x0) (hd:E1 d=true) (hT:T.length≤100000) (hs:s≤1000) (hj:32*j<T.length) :
  D4 x0 (s:Int) 0 T (((32*j:Nat):Int),d.Sectors,d.Cache)=some (match wb1 s T j d with | some d'=>.inl (((32*j+(chunk T j).length:Nat):Int),d'.Sectors,d'.Cache) | none=>.inr (.inl (x0,false))):=by
 have hD:=DkS.ofOk hd
 have hl:=Vc T j
 have w0:w64 (0+((32*j:Nat):Int))=((32*j:Nat):Int):=by rw [C1 (by omega) (by omega)]; omega
 have t0:Int.tmod ((32*j:Nat):Int) 32=0:=by rw [Int.tmod_eq_emod_of_nonneg (by omega)]; omega
 have t1:Int.tdiv ((32*j:Nat):Int) 32=(j:Int):=by rw [Int.tdiv_eq_ediv_of_nonneg (by omega)]; omega
 have w1:w64 (32 - 0)=32:=by rw [C1 (by omega) (by omega)]; rfl
 have w2:w64 ((T.length:Int) - ((32*j:Nat):Int))=(T.length:Int) - ((32*j:Nat):Int):=C1 (by omega) (by omega)
 have w3:w64 (j:Int)=j:=C1 (by omega) (by omega)
 have w4:w64 ((s:Int)+(j:Int))=((s+j:Nat):Int):=by rw [C1 (by omega) (by omega)]; omega
 have hdd:({ Sectors:=d.Sectors,Cache:=d.Cache }:TDisk)=d:=rfl
 have fin:∀ m:Int,m=((chunk T j).length:Int) →
   ((J9 d ((s+j:Nat):Int)).bind fun v8=>((if !v8.2 then some true else (if ((v8.1.length:Int) != 32) then some true else some false)):Option Bool).bind (fun y9=>(if y9 then (D2 x0).bind fun v17=>some (.inr (.inl (({ Sectors:=v17.Sectors,Cache:=v17.Cache }:TDisk),false))) else (sub? v8.1 0 0).bind fun v10=>(sub? T ((32*j:Nat):Int) (w64 (((32*j:Nat):Int)+m))).bind fun v11=>(cat? v10 v11).bind fun v12=>(sub? v8.1 (w64 (0+m)) (v8.1.length:Int)).bind fun v13=>(cat? v12 v13).bind fun v14=>(K2 d ((s+j:Nat):Int) v14).bind fun v15=>(if !v15.2 then (D2 x0).bind fun v16=>some (.inr (.inl (({ Sectors:=v16.Sectors,Cache:=v16.Cache }:TDisk),false))) else some (.inl (w64 (((32*j:Nat):Int)+m),v15.1.Sectors,v15.1.Cache))))):Option ((Int×(List (List UInt8))×(List TWrite)) ⊕ ((TDisk×Bool) ⊕ ((List (List UInt8))×(List TWrite)))))=some (match wb1 s T j d with | some d'=>.inl (((32*j+(chunk T j).length:Nat):Int),d'.Sectors,d'.Cache) | none=>.inr (.inl (x0,false))):=by
  rintro _ rfl
  have f1:w64 (((32*j:Nat):Int)+((chunk T j).length:Int))=((32*j+(chunk T j).length:Nat):Int):=by rw [C1 (by omega) (by omega)]; omega
  have f2:w64 (0+((chunk T j).length:Int))=((chunk T j).length:Int):=by rw [C1 (by omega) (by omega)]; omega
  rw [Dt hD,ob,f1,f2]
  unfold wb1
  by_cases c1:s+j<d.Sectors.length
  ·rw [Ln c1]
   dsimp only
   by_cases c2:(rsec d (s+j)).length=32
   ·rw [if_neg (by simp),if_neg (by simp [c2]),ob,if_neg (by simp),if_pos ⟨c1,c2⟩]
    have g1:sub? (rsec d (s+j)) 0 0=some []:=by unfold sub?; simp
    rw [g1,ob,A73 hj,ob,cat?_ok (by simp; omega),ob,List.nil_append,sub?_tail (by omega),ob,cat?_ok (by simp; omega),ob,A5e hD,ob]
    cases wr d ((s+j:Nat):Int) (chunk T j++(rsec d (s+j)).drop (chunk T j).length) with
    | none=>simp [wrR,X9 hx]
    | some d'=>simp [wrR]
   ·rw [if_neg (by simp),if_pos (by simp; omega),ob,if_pos rfl,X9 hx,ob,if_neg (fun h=>c2 h.2)]
  ·rw [Tj (by omega)]
   dsimp only
   rw [if_pos (by simp),ob,if_pos rfl,X9 hx,ob,if_neg (fun h=>c1 h.1)]
 unfold D4
 rw [if_pos (by simp; omega),w0,t0,t1,w1,w2,w3,w4]
 dsimp only
 rw [hdd]
 by_cases c:(32:Int)>(T.length:Int) - ((32*j:Nat):Int)
 ·rw [if_pos (by simpa using c)]
  exact fin _ (by omega)
 ·rw [if_neg (by simpa using c)]
  exact fin _ (by omega)
theorem Rs {x0:TDisk} {T:List UInt8} {s:Nat} (hx:DkS x0) (hT:T.length≤100000) (hs:s≤1000):∀ (n j:Nat) (d:TDisk),T.length≤32*(j+n)→E1 d=true →
  iter (D4 x0 (s:Int) 0 T) (((min (32*j) T.length:Nat):Int),d.Sectors,d.Cache)=some (match wbN s T n j d with | some d'=>.inr (d'.Sectors,d'.Cache) | none=>.inl (x0,false))
 | 0,j,d,hn,hd=>by
  rw [wbN,Nat.min_eq_right (by omega)]
  refine D1 ?_
  unfold D4
  rw [if_neg (by simp)]
 | n+1,j,d,hn,hd=>by
  rw [wbN]
  by_cases c:32*j<T.length
  ·rw [if_pos c,Nat.min_eq_left (by omega)]
   have hst:=A23 (x0:=x0) (s:=s) hx hd hT hs c
   cases h1:wb1 s T j d with
   | none =>
    rw [h1] at hst
    exact D1 hst
   | some d' =>
    rw [h1] at hst
    rw [K1 hst]
    have hl:=Vc T j
    have e:32*j+(chunk T j).length=min (32*(j+1)) T.length:=by omega
    rw [e]
    exact Rs hx hT hs n (j+1) d' (by omega) (A86 h1)
  ·rw [if_neg c,Nat.min_eq_right (by omega)]
   refine D1 ?_
   unfold D4
   rw [if_neg (by simp)]
def writeB (d:TDisk) (s:Nat) (T:List UInt8):TDisk×Bool:=if s<d.Sectors.length then wrR d (wbN s T (T.length+1) 0 d) else (d,false)
theorem A19 {d:TDisk} (h:E1 d=true) (s:Nat) (T:List UInt8):E1 (writeB d s T).1=true:=by
 unfold writeB
 split
 ·cases hw:wbN s T (T.length+1) 0 d with
  | none=>exact h
  | some d'=>exact A87 h hw
 ·exact h
theorem Kz {d:TDisk} (h:E1 d=true) {s:Nat} (hs:s≤1000) {T:List UInt8} (hT:T.length≤100000):H8 d (s:Int) 0 T=some (writeB d s T):=by
 have hD:=DkS.ofOk h
 have h1:=hD.sec.1
 unfold H8 writeB
 rw [X9 hD,ob,K6,ob,if_pos (by unfold inR; simp),K6,ob,C1 (n:=(d.Sectors.length:Int) - 1) (by omega) (by omega),Ec hD,h]
 by_cases c:s<d.Sectors.length
 ·rw [if_pos (by unfold inR; simp; omega),ob,if_pos rfl,ob,if_neg (by simp),if_pos c]
  have:=Rs hD hT hs (T.length+1) 0 d (by omega) h
  rw [show ((min (32*0) T.length:Nat):Int)=0 by simp] at this
  rw [this,ob]
  cases wbN s T (T.length+1) 0 d <;> rfl
 ·rw [if_neg (by unfold inR; simp; omega),ob,if_pos rfl,if_neg c]
theorem Ya (a:Int):∀ (l:List TWrite) (o:Option TWrite) (z:List UInt8),secV (l.foldl (fun o w=>if w.At==a then some w else o) o) z=secV (hit a l) (secV o z)
 | [],o,z=>rfl
 | x::l,o,z=>by
  unfold hit
  rw [List.foldl_cons,List.foldl_cons,Ya a l,Ya a l (if x.At==a then some x else none)]
  cases x.At==a <;> rfl
theorem A3j:∀ (l:List TWrite) (s:List (List UInt8)),(∀ w∈l,0≤w.At)→∀ a,a<s.length→(l.foldl setW s)[a]?=some (secV (hit (a:Int) l) ((s[a]?).getD []))
 | [],s,_,a,ha=>by simp [hit,secV,ha]
 | w::l,s,h,a,ha=>by
  rw [List.foldl_cons,A3j l _ (fun w hw=>h w (List.mem_cons_of_mem _ hw)) a (by simp [setW]; exact ha)]
  have e:hit (a:Int) (w::l)=l.foldl (fun o w=>if w.At==(a:Int) then some w else o) (if w.At==(a:Int) then some w else none):=rfl
  rw [e,Ya]
  have h0:=h w List.mem_cons_self
  congr 2
  unfold setW
  by_cases c:w.At=(a:Int)
  ·rw [if_pos (by simpa using c),show w.At.toNat=a by omega,List.getElem?_set_self ha]; rfl
  ·rw [if_neg (by simpa using c),List.getElem?_set_ne (by omega)]; rfl
theorem Hn {d:TDisk} (h:E1 d=true) {a:Nat} (ha:a<d.Sectors.length):(rsec d a).length=32:=by
 obtain ⟨_,_,h3,h4⟩:=K8.1 h
 unfold rsec secV
 split
 ·rename_i w hw; exact (h4 w (A5b hw)).2
 ·rw [qG ha]; exact h3 _ (List.getElem_mem ha)
theorem A60 {d:TDisk} (h:E1 d=true):(flush d).Sectors.length=d.Sectors.length:=by
 unfold flush; rw [if_pos h]; exact Rf _ _
theorem A6h {d:TDisk} (h:E1 d=true) {a:Nat} (ha:a<d.Sectors.length):(flush d).Sectors[a]?=some (rsec d a):=by
 unfold flush; rw [if_pos h]
 exact A3j _ _ (fun w hw=>((K8.1 h).2.2.2 w hw).1.1) a ha
theorem A11 {d:TDisk} (hc:d.Cache=[]) (a:Nat):rsec d a=(d.Sectors[a]?).getD []:=by unfold rsec; rw [hc]; rfl
def poke (d:TDisk) (b:Nat) (T:List UInt8):TDisk:={ Sectors:=(List.range d.Sectors.length).map fun a=>(List.range 32).map fun q=>if b≤32*a+q∧32*a+q<b+T.length then T.getD (32*a+q - b) 0 else (rsec d a).getD q 0,Cache:=[] }
theorem Fu (d:TDisk) (b:Nat) (T:List UInt8):(poke d b T).Sectors.length=d.Sectors.length:=by simp [poke]
theorem Wx {d:TDisk} (h:E1 d=true) (b:Nat) (T:List UInt8):E1 (poke d b T)=true:=by
 rw [K8] at h ⊢
 refine ⟨by rw [Fu]; exact h.1,by simp [poke],?_,by simp [poke]⟩
 intro s hs
 simp only [poke,List.mem_map] at hs
 obtain ⟨a,_,rfl⟩:=hs
 simp
theorem A3t {d:TDisk} {b:Nat} {T:List UInt8} {a:Nat} (ha:a<d.Sectors.length):rsec (poke d b T) a=(List.range 32).map fun q=>if b≤32*a+q∧32*a+q<b+T.length then T.getD (32*a+q - b) 0 else (rsec d a).getD q 0:=by
 rw [A11 rfl]
 simp [poke,ha]
theorem A13 {d:TDisk} (h:E1 d=true) {b:Nat} {T:List UInt8} {a:Nat} (ha:a<d.Sectors.length) (hb:32*a+32≤b∨b+T.length≤32*a):rsec (poke d b T) a=rsec d a:=by
 have h32:=Hn h ha
 rw [A3t ha]
 refine List.ext_getElem? fun q=>?_
 by_cases hq:q<32
 ·rw [List.getElem?_map,List.getElem?_range hq,Option.map_some,if_neg (by omega),List.getD_eq_getElem?_getD,qG (by omega)]; rfl
 ·rw [List.getElem?_eq_none (by simp; omega),List.getElem?_eq_none (by omega)]
theorem A7i (s:List (List UInt8)) (c:List TWrite) (k a:Nat) (t:List UInt8):rsec { Sectors:=s,Cache:=c++[{ At:=(k:Int),Text:=t }] } a=if k=a then t else rsec { Sectors:=s,Cache:=c } a:=by
 unfold rsec
 simp only
 rw [Pv]
 by_cases e:k=a
 ·rw [if_pos e,if_pos (by simp [e])]; rfl
 ·rw [if_neg e,if_neg (by simp; omega)]
structure Wst (d:TDisk) (b:Nat) (T:List UInt8) (j i:Nat) (d':TDisk):Prop where
 ok:E1 d'=true
 sec:d'.Sectors=d.Sectors
 cache:d'.Cache.length=j
 ge:∀ w∈d'.Cache,(b:Int)<32*w.At+32
 le:∀ w∈d'.Cache,32*w.At<(b+T.length:Nat)
 get:∀ a q,a<d.Sectors.length→q<32→(rsec d' a)[q]?=if b≤32*a+q∧32*a+q<b+i then T[32*a+q - b]? else (rsec d a)[q]?
theorem Wst.flush {d d':TDisk} {b j:Nat} {T:List UInt8} (h:Wst d b T j T.length d') (hd:E1 d=true):flush d'=poke d b T:=by
 have hc:(V.flush d').Cache=[]:=by unfold V.flush; rw [if_pos h.ok]
 have hs:(V.flush d').Sectors=(poke d b T).Sectors:=by
  refine List.ext_getElem? fun a=>?_
  by_cases ha:a<d.Sectors.length
  ·have h32:(rsec d' a).length=32:=Hn h.ok (by rw [h.sec]; exact ha)
   have h32':=Hn hd ha
   rw [A6h h.ok (by rw [h.sec]; exact ha)]
   simp only [poke,List.getElem?_map,List.getElem?_range ha,Option.map_some]
   congr 1
   refine List.ext_getElem? fun q=>?_
   by_cases hq:q<32
   ·rw [h.get a q ha hq,List.getElem?_map,List.getElem?_range hq,Option.map_some]
    split
    ·rw [List.getD_eq_getElem?_getD,qG (by omega)]; rfl
    ·rw [List.getD_eq_getElem?_getD,qG (by omega)]; rfl
   ·rw [List.getElem?_eq_none (by omega),List.getElem?_eq_none (by simp; omega)]
  ·rw [List.getElem?_eq_none (by rw [A60 h.ok,h.sec]; omega),List.getElem?_eq_none (by rw [Fu]; omega)]
 cases hf:V.flush d' with
 | mk s c =>
  rw [hf] at hc hs
  simp only at hc hs
  rw [hc,hs]; rfl
theorem Wst.step {d d':TDisk} {b j i m:Nat} {T:List UInt8} (h:Wst d b T j i d') (hj:j<60) (hi:i<T.length) (hk:(b+i) / 32<d.Sectors.length) (hm:m=min (32 - (b+i)%32) (T.length - i)) :
  ∃ d'',wr d' (((b+i) / 32:Nat):Int) ((rsec d' ((b+i) / 32)).take ((b+i)%32)++(T.drop i).take m++(rsec d' ((b+i) / 32)).drop ((b+i)%32+m))=some d''∧Wst d b T (j+1) (i+m) d'':=by
 have h32:(rsec d' ((b+i) / 32)).length=32:=Hn h.ok (by rw [h.sec]; exact hk)
 have hl:((rsec d' ((b+i) / 32)).take ((b+i)%32)++(T.drop i).take m++(rsec d' ((b+i) / 32)).drop ((b+i)%32+m)).length=32:=by
  simp [h32]; omega
 generalize ht:(rsec d' ((b+i) / 32)).take ((b+i)%32)++(T.drop i).take m++(rsec d' ((b+i) / 32)).drop ((b+i)%32+m)=t at hl
 have hw:wr d' (((b+i) / 32:Nat):Int) t=some { Sectors:=d'.Sectors,Cache:=d'.Cache++[{ At:=(((b+i) / 32:Nat):Int),Text:=t }] }:=by
  unfold wr
  rw [if_pos]
  simp only [h.ok,Bool.true_and,Bool.and_eq_true,decide_eq_true_eq,hl,h.sec,h.cache,inR,beq_self_eq_true,true_and]
  omega
 refine ⟨_,hw,(A99 hw).1,h.sec,by simp [h.cache],?_,?_,?_⟩
 ·intro w hw
  rcases List.mem_append.1 hw with hw | hw
  ·exact h.ge w hw
  ·rw [List.mem_singleton] at hw; subst hw; simp only; omega
 ·intro w hw
  rcases List.mem_append.1 hw with hw | hw
  ·exact h.le w hw
  ·rw [List.mem_singleton] at hw; subst hw; simp only; omega
 ·intro a q ha hq
  rw [A7i]
  by_cases c:(b+i) / 32=a
  ·rw [if_pos c]
   subst c
   have g:=h.get _ q hk hq
   rw [← ht]
   by_cases c1:q<(b+i)%32
   ·rw [List.append_assoc,List.getElem?_append_left (by simp [h32]; omega),List.getElem?_take_of_lt c1,g]
    by_cases c2:b≤32*((b+i) / 32)+q
    ·rw [if_pos ⟨c2,by omega⟩,if_pos ⟨c2,by omega⟩]
    ·rw [if_neg (by omega),if_neg (by omega)]
   ·by_cases c2:q<(b+i)%32+m
    ·rw [List.append_assoc,List.getElem?_append_right (by simp [h32]; omega),List.getElem?_append_left (by simp [h32]; omega),List.getElem?_take_of_lt (by simp [h32]; omega),List.getElem?_drop,if_pos (by omega)]
     congr 1
     simp [h32]; omega
    ·rw [List.getElem?_append_right (by simp [h32]; omega),List.getElem?_drop]
     have e:(b+i)%32+m+(q - ((rsec d' ((b+i) / 32)).take ((b+i)%32)++(T.drop i).take m).length)=q:=by simp [h32]; omega
     rw [e,g,if_neg (by omega),if_neg (by omega)]
  ·have g:=h.get a q ha hq
   rw [if_neg c]
   show (rsec d' a)[q]?=_
   rw [g]
   by_cases c2:b≤32*a+q∧32*a+q<b+i
   ·rw [if_pos c2,if_pos ⟨c2.1,by omega⟩]
   ·rw [if_neg c2,if_neg (by omega)]
theorem A3g (n:Nat):Int.tmod (n:Int) 32=((n%32:Nat):Int):=by rw [Int.tmod_eq_emod_of_nonneg (by omega)]; omega
theorem A3s (n:Nat):Int.tdiv (n:Int) 32=((n / 32:Nat):Int):=by rw [Int.tdiv_eq_ediv_of_nonneg (by omega)]; omega
theorem A2m {x0 d d':TDisk} {T:List UInt8} {s t j i m:Nat} (h:Wst d (32*s+t) T j i d') (hT:T.length≤1000) (hs:s≤1000) (ht:t≤3200) (hj:j<60) (hi:i<T.length) (hk:(32*s+t+i) / 32<d.Sectors.length) (hm:m=min (32 - (32*s+t+i)%32) (T.length - i)) :
  ∃ d'',D4 x0 (s:Int) (t:Int) T ((i:Int),d'.Sectors,d'.Cache)=some (.inl (((i+m:Nat):Int),d''.Sectors,d''.Cache))∧Wst d (32*s+t) T (j+1) (i+m) d'':=by
 obtain ⟨d'',hw,hst⟩:=h.step hj hi hk hm
 refine ⟨d'',?_,hst⟩
 have hD:=DkS.ofOk h.ok
 have h32:(rsec d' ((32*s+t+i) / 32)).length=32:=Hn h.ok (by rw [h.sec]; exact hk)
 have w0:w64 ((t:Int)+(i:Int))=((t+i:Nat):Int):=by rw [C1 (by omega) (by omega)]; omega
 have e1:(t+i)%32=(32*s+t+i)%32:=by omega
 have w4:w64 ((s:Int)+w64 (((t+i) / 32:Nat):Int))=(((32*s+t+i) / 32:Nat):Int):=by rw [El (by omega),C1 (by omega) (by omega)]; omega
 have w5:w64 (32 - (((32*s+t+i)%32:Nat):Int))=((32 - (32*s+t+i)%32:Nat):Int):=by rw [C1 (by omega) (by omega)]; omega
 have w6:w64 ((T.length:Int) - (i:Int))=((T.length - i:Nat):Int):=by rw [C1 (by omega) (by omega)]; omega
 have hdd:({ Sectors:=d'.Sectors,Cache:=d'.Cache }:TDisk)=d':=rfl
 have fin:∀ n:Int,n=(m:Int) →
   ((J9 d' (((32*s+t+i) / 32:Nat):Int)).bind fun v8=>((if !v8.2 then some true else (if ((v8.1.length:Int) != 32) then some true else some false)):Option Bool).bind (fun y9=>(if y9 then (D2 x0).bind fun v17=>some (.inr (.inl (({ Sectors:=v17.Sectors,Cache:=v17.Cache }:TDisk),false))) else (sub? v8.1 0 (((32*s+t+i)%32:Nat):Int)).bind fun v10=>(sub? T (i:Int) (w64 ((i:Int)+n))).bind fun v11=>(cat? v10 v11).bind fun v12=>(sub? v8.1 (w64 ((((32*s+t+i)%32:Nat):Int)+n)) (v8.1.length:Int)).bind fun v13=>(cat? v12 v13).bind fun v14=>(K2 d' (((32*s+t+i) / 32:Nat):Int) v14).bind fun v15=>(if !v15.2 then (D2 x0).bind fun v16=>some (.inr (.inl (({ Sectors:=v16.Sectors,Cache:=v16.Cache }:TDisk),false))) else some (.inl (w64 ((i:Int)+n),v15.1.Sectors,v15.1.Cache))))):Option ((Int×(List (List UInt8))×(List TWrite)) ⊕ ((TDisk×Bool) ⊕ ((List (List UInt8))×(List TWrite)))))=some (.inl (((i+m:Nat):Int),d''.Sectors,d''.Cache)):=by
  rintro _ rfl
  have f1:w64 ((i:Int)+(m:Int))=((i+m:Nat):Int):=by rw [C1 (by omega) (by omega)]; omega
  have f2:w64 ((((32*s+t+i)%32:Nat):Int)+(m:Int))=(((32*s+t+i)%32+m:Nat):Int):=by rw [C1 (by omega) (by omega)]; omega
  rw [Dt hD,ob,f1,f2,Ln (by rw [h.sec]; exact hk)]
  dsimp only
  rw [if_neg (by simp),if_neg (by simp [h32]),ob,if_neg (by simp),sub?_take (by omega),ob,sub?_mid (by omega),ob,cat?_ok (by simp; omega),ob,sub?_tail (by omega),ob,cat?_ok (by simp; omega),ob,A5e hD,ob,hw]
  rfl
 unfold D4
 rw [if_pos (by simp; omega)]
 dsimp only
 rw [w0,A3g,A3s,w4,e1,w5,w6,hdd]
 by_cases c:T.length - i<32 - (32*s+t+i)%32
 ·rw [if_pos (by simp; omega)]
  exact fin _ (by omega)
 ·rw [if_neg (by simp; omega)]
  exact fin _ (by omega)
theorem Qo {x0 d:TDisk} {T:List UInt8} {s t:Nat} (hT:T.length≤1000) (hs:s≤1000) (ht:t≤3200) (hn:32*s+t+T.length≤32*d.Sectors.length):∀ (n i j:Nat) (d':TDisk),T.length≤i+n→i≤T.length→(i=T.length∨32*j≤i+31∧(i=0∨(32*s+t+i)%32=0))→Wst d (32*s+t) T j i d' →
  ∃ d1 j1,iter (D4 x0 (s:Int) (t:Int) T) ((i:Int),d'.Sectors,d'.Cache)=some (.inr (d1.Sectors,d1.Cache))∧Wst d (32*s+t) T j1 T.length d1
 | 0,i,j,d',h1,h2,_,h=>by
  have:i=T.length:=by omega
  subst this
  refine ⟨d',j,D1 ?_,h⟩
  unfold D4
  rw [if_neg (by simp)]
 | n+1,i,j,d',h1,h2,h3,h=>by
  by_cases c:i<T.length
  ·obtain ⟨d'',e,hw⟩:=A2m (x0:=x0) (m:=min (32 - (32*s+t+i)%32) (T.length - i)) h hT hs ht (by omega) c (by omega) rfl
   rw [K1 e]
   exact Qo hT hs ht hn n _ (j+1) d'' (by omega) (by omega) (by omega) hw
  ·have:i=T.length:=by omega
   subst this
   refine ⟨d',j,D1 ?_,h⟩
   unfold D4
   rw [if_neg (by simp)]
theorem Wst.start {d:TDisk} (h:E1 d=true) (hc:d.Cache=[]) (b:Nat) (T:List UInt8):Wst d b T 0 0 d:=by
 refine ⟨h,rfl,by rw [hc]; rfl,by rw [hc]; simp,by rw [hc]; simp,?_⟩
 intro a q _ _
 rw [if_neg (by omega)]
theorem Xo {d:TDisk} (h:E1 d=true) (hc:d.Cache=[]) {T:List UInt8} {s t:Nat} (hT:T.length≤1000) (hs:s<d.Sectors.length) (ht:t≤3200) (hn:32*s+t+T.length≤32*d.Sectors.length) :
  ∃ d1 j,H8 d (s:Int) (t:Int) T=some (d1,true)∧Wst d (32*s+t) T j T.length d1:=by
 have hD:=DkS.ofOk h
 have h1:=hD.sec.1
 have h100:=(K8.1 h).1.2
 obtain ⟨d1,j1,e,hw⟩:=Qo (x0:=d) hT (show s≤1000 by omega) ht hn T.length 0 0 d (by omega) (by omega) (by omega) (Wst.start h hc _ T)
 refine ⟨d1,j1,?_,hw⟩
 unfold H8
 rw [X9 hD,ob,K6,ob,if_pos (by unfold inR; simp; omega),K6,ob,C1 (n:=(d.Sectors.length:Int) - 1) (by omega) (by omega),Ec hD,h]
 rw [if_pos (by unfold inR; simp; omega),ob,if_pos rfl,ob,if_neg (by simp)]
 have e':iter (D4 d (s:Int) (t:Int) T) (0,d.Sectors,d.Cache)=_:=e
 rw [e']; rfl
theorem A5w {d:TDisk} (h:E1 d=true) (hc:d.Cache=[]) {T:List UInt8} {s t:Nat} (hT:T.length≤1000) (hs:s<d.Sectors.length) (ht:t≤3200) (hn:32*s+t+T.length≤32*d.Sectors.length) :
  ∃ d1,H8 d (s:Int) (t:Int) T=some (d1,true)∧G4 d1=some (poke d (32*s+t) T):=by
 obtain ⟨d1,j,e,hw⟩:=Xo h hc hT hs ht hn
 exact ⟨d1,e,by rw [Py (DkS.ofOk hw.ok),hw.flush h]⟩
theorem Xm {x:TRec} (hk:recOk x=true):x.User.length≤8∧x.Name.length≤8∧x.Text.length≤100:=by
 unfold recOk wordOk inR at hk
 simp only [Bool.and_eq_true,decide_eq_true_eq] at hk
 obtain ⟨⟨⟨⟨_,h1⟩,_⟩,_⟩,h2⟩:=hk
 refine ⟨?_,?_,?_⟩
 ·split at h1
  ·simp only [Bool.and_eq_true,decide_eq_true_eq] at h1; omega
  ·simp only [Bool.and_eq_true,beq_iff_eq] at h1; rw [h1.1.1]; simp
 ·split at h1
  ·simp only [Bool.and_eq_true,decide_eq_true_eq] at h1; omega
  ·simp only [Bool.and_eq_true,beq_iff_eq] at h1; rw [h1.1.2]; simp
 ·split at h2
  ·simpa using h2
  ·simp at h2; rw [h2]; simp
def D5 (f:TFrame):Bool:=inR f.Gen 1 1000000000&&inR f.Seq 1 1000000000&&inR f.Body.length 1 180
theorem Kb (f:TFrame):T5 f=some (D5 f):=by
 unfold T5 D5
 simp only [K6,ob]
 cases inR f.Gen 1 1000000000 <;> cases inR f.Seq 1 1000000000 <;> simp
theorem Gg (f:TFrame):P1 f=some (D5 f):=by
 unfold P1 D5
 simp only [W0,ob]
 cases inR f.Gen 1 1000000000 <;> cases inR f.Seq 1 1000000000 <;> simp
theorem V2 {f:TFrame} (h:D5 f=true):(1≤f.Gen∧f.Gen≤1000000000)∧(1≤f.Seq∧f.Seq≤1000000000)∧1≤f.Body.length∧f.Body.length≤180:=by
 unfold D5 inR at h
 simp only [Bool.and_eq_true,decide_eq_true_eq] at h
 omega
def frameT (f:TFrame):List UInt8:=vt f.Gen++vt f.Seq++vt f.Body.length++f.Body
def D7 (f:TFrame):List UInt8×Bool:=if D5 f then (frameT f++sealL (frameT f),true) else ([],false)
theorem Hg {f:TFrame} (h:D5 f=true):(frameT f).length≤213:=by
 obtain ⟨h1,h2,h3,h4⟩:=V2 h
 have l1:=J2 (n:=f.Gen) (by omega)
 have l2:=J2 (n:=f.Seq) (by omega)
 have l3:=J2 (n:=f.Body.length) (by omega)
 unfold frameT
 simp; omega
theorem Cl (f:TFrame):H6 f=some (D7 f):=by
 unfold H6 D7
 rw [Kb,ob]
 cases hk:D5 f with
 | false=>rfl
 | true =>
  obtain ⟨h1,h2,h3,h4⟩:=V2 hk
  have l1:=J2 (n:=f.Gen) (by omega)
  have l2:=J2 (n:=f.Seq) (by omega)
  have l3:=J2 (n:=f.Body.length) (by omega)
  have lt:=Hg hk
  simp only [if_true]
  rw [R3 (by omega) (by omega),ob,R3 (by omega) (by omega),ob,cat?_ok (by omega),ob,R3 (by omega) (by omega),ob,cat?_ok (by simp; omega),ob,cat?_ok (by simp; omega),ob]
  rw [show vt f.Gen++vt f.Seq++vt f.Body.length++f.Body=frameT f from rfl,Vk (by omega),ob]
  unfold sealed
  rw [if_neg (by omega)]
theorem Ex (f:TFrame):G3 f=some (D7 f):=by
 unfold G3 D7
 rw [Gg,ob]
 cases hk:D5 f with
 | false=>rfl
 | true =>
  obtain ⟨h1,h2,h3,h4⟩:=V2 hk
  have l1:=J2 (n:=f.Gen) (by omega)
  have l2:=J2 (n:=f.Seq) (by omega)
  have l3:=J2 (n:=f.Body.length) (by omega)
  have lt:=Hg hk
  simp only [if_true]
  rw [Kw (by omega) (by omega),ob,Kw (by omega) (by omega),ob,cat?_ok (by omega),ob,Kw (by omega) (by omega),ob,cat?_ok (by simp; omega),ob,cat?_ok (by simp; omega),ob]
  rw [show vt f.Gen++vt f.Seq++vt f.Body.length++f.Body=frameT f from rfl,A3z (by omega),ob]
  unfold sealed
  rw [if_neg (by omega)]
def frame0:TFrame:={ Gen:=0,Seq:=0,Body:=[] }
def E4 (x:TItem) (gen:Int):TFrame×Bool:=if (recText x.Rec).2&&D5 { Gen:=gen,Seq:=x.Seq,Body:=(recText x.Rec).1 } then ({ Gen:=gen,Seq:=x.Seq,Body:=(recText x.Rec).1 },true) else (frame0,false)
theorem Yc {x:TItem} (h:RecS x.Rec) (gen:Int):Z4 x gen=some (E4 x gen):=by
 unfold Z4 E4
 simp only [Jr h,ob,Kb]
 cases (recText x.Rec).2 <;> cases D5 { Gen:=gen,Seq:=x.Seq,Body:=(recText x.Rec).1 } <;> rfl
theorem Zp {x:TItem} (h:RecS x.Rec) (gen:Int):Z5 x gen=some (E4 x gen):=by
 unfold Z5 E4
 simp only [A2h h,ob,Gg]
 cases (recText x.Rec).2 <;> cases D5 { Gen:=gen,Seq:=x.Seq,Body:=(recText x.Rec).1 } <;> rfl
def frameSize (f:TFrame):Int:=((D7 f).1.length:Int)
theorem Yt (f:TFrame):Ad f=some (frameSize f):=by unfold Ad; rw [Ex]; rfl
structure LgN (g:TLog):Prop where
 used:g.Used.length≤1048576
 items:∀ x∈g.Used,x.Items.length≤1048576∧∀ y∈x.Items,A3x y
 tot:(g.Used.map fun x=>x.Items.length).sum≤1048576
def C2 (g:TLog):List TItem:=g.Used.flatMap fun x=>x.Items
theorem A3f {g:TLog} (h:LgN g) (i:Nat):((g.Used.take i).flatMap fun x=>x.Items).length≤1048576:=by
 rw [List.length_flatMap]
 have e:((g.Used.take i).map fun x=>x.Items.length).sum≤(g.Used.map fun x=>x.Items.length).sum:=by
  conv=>rhs; rw [← List.take_append_drop i g.Used]
  rw [List.map_append,List.sum_append]; omega
 have:=h.tot
 omega
theorem Yv {g:TLog} (h:LgN g) {step:Int×List TItem→Option ((Int×List TItem) ⊕ List TItem)}
  (h1:∀ (i:Nat) (o:List TItem) (hi:i<g.Used.length),step ((i:Int),o)=(app? 96 o g.Used[i].Items).bind fun v=>some (.inl (((i+1:Nat):Int),v)))
  (h2:∀ o,step ((g.Used.length:Int),o)=some (.inr o)):iter step (0,[])=some (C2 g):=by
 have:=J8 (step:=step) (fun i=>((i:Int),(g.Used.take i).flatMap fun x=>x.Items)) g.Used.length (r:=C2 g) ?_ ?_
 ·simpa using this
 ·intro i hi
  have e:((g.Used.take (i+1)).flatMap fun x=>x.Items)=((g.Used.take i).flatMap fun x=>x.Items)++g.Used[i].Items:=by
   rw [List.take_succ_eq_append_getElem hi,List.flatMap_append]; simp
  have hl:=A3f h (i+1)
  rw [e,List.length_append] at hl
  rw [h1 i _ hi,app?_ok (by omega) (by omega),e]; rfl
 ·rw [h2,List.take_length]; rfl
theorem Jv {g:TLog} (h:LgN g):T8 g=some (C2 g):=by
 unfold T8
 rw [Yv h]
 ·rfl
 ·intro i o hi
  have:=h.used
  unfold Cr
  simp only [dlt hi,if_true,at?_nat hi,ob,C5 (show i<9223372036854775807 by omega)]
 ·intro o; unfold Cr; simp
theorem Ju {g:TLog} (h:LgN g):T9 g=some (C2 g):=by
 unfold T9
 rw [Yv h]
 ·rfl
 ·intro i o hi
  have:=h.used
  unfold Cs
  simp only [dlt hi,if_true,at?_nat hi,ob,C5 (show i<9223372036854775807 by omega)]
 ·intro o; unfold Cs; simp
theorem A12 {n:Nat} {p:Nat→Bool} {step:Int×List Int→Option ((Int×List Int) ⊕ List Int)} (hn:n≤1048576)
  (h1:∀ (i:Nat) (o:List Int),i<n→step ((i:Int),o)=if p i then (app? 8 o [(i:Int)]).bind fun v=>some (.inl (((i+1:Nat):Int),v)) else some (.inl (((i+1:Nat):Int),o)))
  (h2:∀ o,step ((n:Int),o)=some (.inr o)):iter step (0,[])=some (((List.range n).filter p).map fun (k:Nat)=>(k:Int)):=by
 have:=J8 (step:=step) (fun i=>((i:Int),((List.range i).filter p).map fun (k:Nat)=>(k:Int))) n (r:=((List.range n).filter p).map fun (k:Nat)=>(k:Int)) ?_ (h2 _)
 ·simpa using this
 ·intro i hi
  have hl:=List.length_filter_le p (List.range i)
  rw [List.length_range] at hl
  rw [h1 i _ hi,List.range_succ,List.filter_append,List.map_append]
  by_cases hp:p i=true
  ·rw [if_pos hp,app?_ok (by simp; omega) (by simp; omega),List.filter_cons,if_pos hp]; rfl
  ·rw [if_neg hp,List.filter_cons,if_neg hp]; simp
def usedNo (g:TLog) (no:Int):Bool:=g.Used.any fun s=>s.No==no
def nSegs (g:TLog):Nat:=if 11<g.Segs then 11 else g.Segs.toNat
theorem A33 (g:TLog):nSegs g≤11:=by unfold nSegs; split <;> omega
def freeSegs (g:TLog):List Int:=((List.range (nSegs g)).filter fun i:Nat=>!usedNo g (i:Int)).map fun (k:Nat)=>(k:Int)
theorem A0j {g:TLog} (h:g.Used.length≤1048576):Aq g=some (freeSegs g):=by
 have hn:=A33 g
 unfold Aq freeSegs
 rw [A12 (n:=nSegs g) (p:=fun i=>!usedNo g (i:Int)) (by omega)]
 ·rfl
 ·intro i o hi
  have hc:=Dg (x0:=g.Used) (x1:=(i:Int)) (q:=fun y=>y.No==(i:Int)) (by omega) (fun y _=>rfl)
  have hlt:decide ((i:Int)<(if 11<g.Segs then 11 else g.Segs))=true:=by
   unfold nSegs at hi
   split at hi <;> rename_i c
   ·rw [if_pos c]; simp; omega
   ·rw [if_neg c]; simp; omega
  unfold Bq
  simp only [hlt,if_true,hc,ob,C5 (show i<9223372036854775807 by omega)]
  unfold usedNo
  cases g.Used.any fun s=>s.No==(i:Int) <;> rfl
 ·intro o
  unfold Bq
  have hlt:decide (((nSegs g:Nat):Int)<(if 11<g.Segs then 11 else g.Segs))=false:=by
   unfold nSegs
   split <;> rename_i c
   ·simp
   ·simp; omega
  simp [hlt]
theorem Mo {g:TLog} (h:g.Used.length≤1048576):M0 g=some (freeSegs g):=by
 have hn:=A33 g
 unfold M0 freeSegs
 rw [A12 (n:=nSegs g) (p:=fun i=>!usedNo g (i:Int)) (by omega)]
 ·rfl
 ·intro i o hi
  have h11:(i:Int)<g.Segs∧(i:Int)<11:=by
   unfold nSegs at hi
   split at hi <;> omega
  have inner:iter (Q2 g ((i:Int),o)) (false,0)=some (usedNo g (i:Int)):=by
   have:=J8 (step:=Q2 g ((i:Int),o)) (fun j=>((g.Used.take j).any (fun s=>s.No==(i:Int)),(j:Int))) g.Used.length (r:=usedNo g (i:Int)) ?_ ?_
   ·simpa using this
   ·intro j hj
    have e:(g.Used.take (j+1)).any (fun s=>s.No==(i:Int))=((g.Used.take j).any (fun s=>s.No==(i:Int))||g.Used[j].No==(i:Int)):=by
     rw [List.take_succ_eq_append_getElem hj,List.any_append]; simp
    unfold Q2
    simp only [dlt hj,if_true,at?_nat hj,ob,C5 (show j<9223372036854775807 by omega),e]
    generalize (g.Used.take j).any (fun s=>s.No==(i:Int))=b
    by_cases c:g.Used[j].No=(i:Int) <;> cases b <;> simp [c]
   ·unfold Q2
    simp [usedNo]
  unfold Bo
  simp only [show decide ((i:Int)<g.Segs)=true by simpa using h11.1,show decide ((i:Int)<11)=true by simpa using h11.2,if_true,ob,inner,C5 (show i<9223372036854775807 by omega)]
 ·intro o
  unfold Bo
  have hlt:¬ (((nSegs g:Nat):Int)<g.Segs∧((nSegs g:Nat):Int)<11):=by
   unfold nSegs
   split <;> omega
  by_cases c:((nSegs g:Nat):Int)<g.Segs
  ·have c2:¬ ((nSegs g:Nat):Int)<11:=fun d=>hlt ⟨c,d⟩
   simp [c,c2]
  ·simp [c]
theorem A1u {c:TCheck} (h:(checkText c).2=true):checkOk c=true:=by
 unfold checkText at h
 split at h
 ·assumption
 ·cases h
theorem A0e {c:TCheck}:(checkText c).1.length≤100000:=by
 unfold checkText
 split
 ·split
  ·simp
  ·dsimp only; omega
 ·simp
def writeC (d:TDisk) (c:TCheck):TDisk×Bool :=
 if (checkText c).2=true∧E1 d=true then (if (writeB d (4*(c.Stamp.toNat%2)) (checkText c).1).2 then (flush (writeB d (4*(c.Stamp.toNat%2)) (checkText c).1).1,true) else (d,false)) else (d,false)
theorem place {c:TCheck} (h:checkOk c=true):w64 (4*Int.tmod c.Stamp 2)=((4*(c.Stamp.toNat%2):Nat):Int):=by
 have h1:=(Hr h).1.1
 rw [Int.tmod_eq_emod_of_nonneg (by omega),C1 (by omega) (by omega)]
 omega
theorem A2w {d:TDisk} (hD:DkS d) {c:TCheck} (hc:c.Refs.length≤1048576):P5 d c=some (writeC d c):=by
 unfold P5 writeC
 rw [Yl hc,ob,Ec hD]
 by_cases h1:(checkText c).2=true
 ·rw [if_neg (by simp [h1]),ob]
  by_cases h2:E1 d=true
  ·rw [if_pos h2,ob,if_neg (by simp),if_pos ⟨h1,h2⟩,place (A1u h1),Kz h2 (by omega) A0e,ob]
   have hw:=DkS.ofOk (A19 h2 (4*(c.Stamp.toNat%2)) (checkText c).1)
   cases h3:(writeB d (4*(c.Stamp.toNat%2)) (checkText c).1).2 with
   | true=>simp [Py hw]
   | false=>simp [X9 hD]
  ·rw [if_neg h2,ob,if_pos rfl,X9 hD,if_neg (fun h=>h2 h.2)]; rfl
 ·rw [if_pos (by simp [h1]),ob,if_pos rfl,X9 hD,if_neg (fun h=>h1 h.1)]; rfl
def refOf (s:TSeg):TRef:={ No:=s.No,Gen:=s.Gen }
def checkOf (g:TLog):TCheck:={ Stamp:=w64 (g.Stamp+1),NextGen:=g.NextGen,NextSeq:=g.NextSeq,NextValid:=g.NextValid,Refs:=g.Used.map refOf }
theorem A6u {g:TLog} (h:g.Used.length≤1048576) {step:Int×List TRef→Option ((Int×List TRef) ⊕ List TRef)}
  (h1:∀ (i:Nat) (o:List TRef) (hi:i<g.Used.length),step ((i:Int),o)=(app? 16 o [refOf g.Used[i]]).bind fun v=>some (.inl (((i+1:Nat):Int),v)))
  (h2:∀ o,step ((g.Used.length:Int),o)=some (.inr o)):iter step (0,[])=some (g.Used.map refOf):=by
 have:=J8 (step:=step) (fun i=>((i:Int),(g.Used.take i).map refOf)) g.Used.length (r:=g.Used.map refOf) ?_ ?_
 ·simpa using this
 ·intro i hi
  rw [h1 i _ hi,app?_ok (by simp; omega) (by simp; omega),List.take_succ_eq_append_getElem hi,List.map_append]; rfl
 ·rw [h2,List.take_length]
theorem A2k {g:TLog} (h:g.Used.length≤1048576):Y6 g=some (checkOf g):=by
 unfold Y6
 rw [A6u h]
 ·rfl
 ·intro i o hi
  unfold Cy
  simp only [dlt hi,if_true,at?_nat hi,ob,C5 (show i<9223372036854775807 by omega)]
  rfl
 ·intro o; unfold Cy; simp
def itemEq (a b:TItem):Bool:=(a.Seq==b.Seq&&(a.Rec.Kind==b.Rec.Kind&&(a.Rec.Valid==b.Rec.Valid&&(a.Rec.Uid==b.Rec.Uid&&(a.Rec.Next==b.Rec.Next&&(a.Rec.Flags==b.Rec.Flags&&(a.Rec.User==b.Rec.User&&(a.Rec.Name==b.Rec.Name&&(a.Rec.Text==b.Rec.Text&&true)))))))))
theorem Zc {a b:TItem}:itemEq a b=true↔a=b:=by
 unfold itemEq
 constructor
 ·intro h
  simp only [Bool.and_eq_true,beq_iff_eq,and_true] at h
  obtain ⟨h0,h1,h2,h3,h4,h5,h6,h7,h8⟩:=h
  obtain ⟨s,⟨_,_,_,_,_,_,_,_⟩⟩:=a
  obtain ⟨s',⟨_,_,_,_,_,_,_,_⟩⟩:=b
  simp_all
 ·rintro rfl; simp
theorem RecS.of {x:TRec} (h:A1q x):RecS x:=⟨h.sUser,h.sName,h.sText⟩
def SzI (l:List TItem):Prop:=l.length≤1048576∧∀ y∈l,A3x y
def clash (x y:TItem):Bool:=y.Seq==x.Seq&&!itemEq y x
def itOk (l:List TItem) (i:Nat):Bool:=match l[i]? with
 | some x=>inR x.Seq 1 1000000000&&recOk x.Rec&&!(l.take i).any (clash x)
 | none=>true
def itemsOk (l:List TItem):Bool:=(List.range l.length).all (itOk l)&&decide (l.length≤200)
theorem A28 {l:List TItem} (h:itemsOk l=true):l.length≤200∧(∀ x∈l,(1≤x.Seq∧x.Seq≤1000000000)∧recOk x.Rec=true)∧∀ x∈l,∀ y∈l,x.Seq=y.Seq→x=y:=by
 unfold itemsOk at h
 simp only [Bool.and_eq_true,decide_eq_true_eq,List.all_eq_true] at h
 obtain ⟨h1,h2⟩:=h
 have key:∀ i (hi:i<l.length),(1≤l[i].Seq∧l[i].Seq≤1000000000)∧recOk l[i].Rec=true∧∀ j (hj:j<i),l[j].Seq=l[i].Seq→l[j]=l[i]:=by
  intro i hi
  have h3:=h1 i (List.mem_range.2 hi)
  unfold itOk at h3
  rw [qG hi] at h3
  simp only [Bool.and_eq_true,inR,decide_eq_true_eq,Bool.not_eq_true',List.any_eq_false] at h3
  refine ⟨h3.1.1,h3.1.2,?_⟩
  intro j hj he
  have h4:=h3.2 l[j] (qM (i:=j) (by rw [List.getElem?_take_of_lt hj,qG (by omega)]))
  unfold clash at h4
  rw [he] at h4
  simp only [beq_self_eq_true,Bool.true_and,Bool.not_eq_true',Bool.not_eq_false] at h4
  exact Zc.1 h4
 refine ⟨h2,?_,?_⟩
 ·intro x hx
  obtain ⟨i,hi,rfl⟩:=List.mem_iff_getElem.1 hx
  exact ⟨(key i hi).1,(key i hi).2.1⟩
 ·intro x hx y hy he
  obtain ⟨i,hi,rfl⟩:=List.mem_iff_getElem.1 hx
  obtain ⟨j,hj,rfl⟩:=List.mem_iff_getElem.1 hy
  rcases Nat.lt_trichotomy i j with h | h | h
  ·exact (key j hj).2.2 i h he
  ·subst h; rfl
  ·exact ((key i hi).2.2 j h he.symm).symm
theorem A29 {l:List TItem} (h:SzI l):Cb l=some (itemsOk l):=by
 have hlen:=h.1
 have hl:iter (Y2 l) 0=some (if (List.range l.length).all (itOk l) then .inr () else .inl false):=by
  refine Ku (fun i=>(i:Int)) l.length _ ?_ ?_ ?_
  all_goals first
   | (unfold Y2; simp; done)
   | skip
  all_goals
   intro i hi hp
   have inner:iter (Ag l (i:Int)) 0=some (if (l.take i).any (clash l[i]) then .inl false else .inr ()):=by
    refine Ks (by omega) ?_ ?_
    ·intro j hj hji
     unfold Ag
     simp only [dlt hji,if_true,at?_nat hj,at?_nat hi,ob,C5 (show j<9223372036854775807 by omega)]
     show ((if (l[j].Seq==l[i].Seq)=true then (if (!itemEq l[j] l[i])=true then some true else some false) else some false):Option Bool).bind _=_
     unfold clash
     cases l[j].Seq==l[i].Seq <;> cases itemEq l[j] l[i] <;> simp
    ·unfold Ag
     simp
   have hr:=Xw (RecS.of (h.2 _ (List.getElem_mem hi)).sRec)
   unfold itOk at hp
   rw [qG hi] at hp
   dsimp only at hp
   unfold Y2
   simp only [dlt hi,if_true,at?_nat hi,ob,K6,inner,hr]
   generalize inR l[i].Seq 1 1000000000=b1 at hp ⊢
   generalize recOk l[i].Rec=b2 at hp ⊢
   generalize (l.take i).any (clash l[i])=b4 at hp ⊢
   revert hp
   cases b1 <;> cases b2 <;> cases b4 <;> simp [C5 (show i<9223372036854775807 by omega)]
 unfold Cb itemsOk
 rw [hl]
 cases (List.range l.length).all (itOk l)
 ·simp
 ·simp; omega
theorem Pz {l:List TItem} (h:SzI l):Ab l=some (itemsOk l):=by
 have hlen:=h.1
 have hl:iter (Ae l) 0=some (if (List.range l.length).all (itOk l) then .inr () else .inl false):=by
  refine Ku (fun i=>(i:Int)) l.length _ ?_ ?_ ?_
  all_goals first
   | (unfold Ae; simp; done)
   | skip
  all_goals
   intro i hi hp
   have hc:=Db (x0:=l.take i) (x1:=l[i]) (q:=clash l[i]) (by simp; omega) (fun y _=>by
    show (if (y.Seq==l[i].Seq)=true then some (!itemEq y l[i]) else some false)=_
    unfold clash
    cases y.Seq==l[i].Seq <;> simp)
   have hr:=Kc (RecS.of (h.2 _ (List.getElem_mem hi)).sRec)
   unfold itOk at hp
   rw [qG hi] at hp
   dsimp only at hp
   unfold Ae
   simp only [dlt hi,if_true,at?_nat hi,ob,W0,hc,hr,sub?_take (Nat.le_of_lt hi)]
   generalize inR l[i].Seq 1 1000000000=b1 at hp ⊢
   generalize recOk l[i].Rec=b2 at hp ⊢
   generalize (l.take i).any (clash l[i])=b4 at hp ⊢
   revert hp
   cases b1 <;> cases b2 <;> cases b4 <;> simp [C5 (show i<9223372036854775807 by omega)]
 unfold Ab itemsOk
 rw [hl]
 by_cases h2:l.length≤200
 ·rw [if_neg (by simp; omega)]
  cases (List.range l.length).all (itOk l) <;> simp [h2]
 ·rw [if_pos (by simp; omega)]
  simp [h2]
def pk (p:TItem→Bool) (lt:TItem→TItem→Bool) (l:List TItem):Nat→Option TItem
 | 0=>none
 | i+1=>match l[i]? with
  | some x=>if p x&&(match pk p lt l i with | none=>true | some b=>lt b x) then some x else pk p lt l i
  | none=>pk p lt l i
def pick (p:TItem→Bool) (lt:TItem→TItem→Bool) (l:List TItem):Option TItem:=pk p lt l l.length
theorem A7d {β:Type} {n byt:Nat} {f:Nat→β} {step:Int×List β→Option ((Int×List β) ⊕ List β)} (hl:n≤1048576) (hb:byt≤1000000)
  (h1:∀ (i:Nat) (o:List β),i<n→step ((i:Int),o)=(app? byt o [f i]).bind fun v=>some (.inl (((i+1:Nat):Int),v)))
  (h2:∀ o,step ((n:Int),o)=some (.inr o)):iter step (0,[])=some ((List.range n).map f):=by
 refine J8 (step:=step) (fun i=>((i:Int),(List.range i).map f)) n ?_ (h2 _)
 intro i hi
 have hm:(i+1)*byt≤1048576*1000000:=Nat.mul_le_mul (by omega) hb
 rw [h1 i _ hi,app?_ok (by simp; omega) (by simp; omega),List.range_succ,List.map_append]
 rfl
def zero32:List UInt8:=List.replicate 32 0
def newDisk (n:Nat):TDisk:={ Sectors:=List.replicate n zero32,Cache:=[] }
theorem A6g:Bx=some zero32:=by
 unfold Bx Er
 rw [show (32:Int)=((32:Nat):Int) from rfl,mk?_ok (by omega) (by omega),ob]
 have h:=A8v (l:=List.replicate 32 (0:Int)) (z:=(0:Int)) (step:=Z3 ((32:Nat):Int) 0) (by simp) ?_ ?_
 ·rw [List.length_replicate] at h
  rw [h]; rfl
 ·intro i hi o ho
  rw [List.length_replicate] at hi ho
  have hio:i<o.length:=by omega
  unfold Z3
  simp only [dlt hi,if_true,at?_nat hio,ob,C5 (show i<9223372036854775807 by omega),Kt,List.getElem_replicate]
 ·intro o
  unfold Z3
  simp
theorem A6r {n:Nat} (hn:n≤100) {step:Int×List (List UInt8)→Option ((Int×List (List UInt8)) ⊕ List (List UInt8))}
  (h1:∀ (i:Nat) (o:List (List UInt8)),i<n→step ((i:Int),o)=(app? 16 o [zero32]).bind fun v=>some (.inl (((i+1:Nat):Int),v)))
  (h2:∀ o,step ((n:Int),o)=some (.inr o)):iter step (0,[])=some (List.replicate n zero32):=by
 have h:=A7d (n:=n) (byt:=16) (f:=fun _=>zero32) (step:=step) (by omega) (by omega) h1 h2
 rw [h]
 congr 1
 simp [List.map_const']
theorem A1t {n:Nat} (h0:1≤n) (hn:n≤100):Bz (n:Int)=some (newDisk n,true):=by
 unfold Bz
 rw [K6,ob,if_pos (by unfold inR; simp; omega),A6r (n:=n) hn]
 ·rfl
 ·intro i o hi
  unfold Cn
  simp only [dlt hi,if_true,A6g,ob,C5 (show i<9223372036854775807 by omega)]
 ·intro o
  unfold Cn; simp
theorem A4g {n:Nat} (h0:1≤n) (hn:n≤100):E1 (newDisk n)=true:=by
 rw [K8]
 refine ⟨by simp [newDisk]; omega,by simp [newDisk],?_,by simp [newDisk]⟩
 intro s hs
 have:=List.eq_of_mem_replicate hs
 subst this; rfl
def head1:TFrame:={ Gen:=1,Seq:=1,Body:=[115,101,103] }
def headT:List UInt8:=(D7 head1).1
theorem A8r:(D7 head1).2=true:=by
 unfold D7
 rw [if_pos (by decide)]
theorem Qk:headT.length≤256:=by
 unfold headT D7
 rw [if_pos (by decide)]
 have:=Hg (f:=head1) (by decide)
 simp only [List.length_append]
 have h4:(sealL (frameT head1)).length=4:=by rfl
 omega
def log0 (k:Nat):TLog:={ Disk:=newDisk (8+k*8),Segs:=(k:Int),Used:=[],NextGen:=1,NextSeq:=1,Stamp:=0,NextValid:=1 }
def zlog:TLog:={ Disk:={ Sectors:=[],Cache:=[] },Segs:=0,Used:=[],NextGen:=0,NextSeq:=0,Stamp:=0,NextValid:=0 }
def open0 (k:Nat):TDisk×Bool:=writeB (newDisk (8+k*8)) 8 headT
def log1 (k:Nat):TLog:={ Disk:=flush (open0 k).1,Segs:=(k:Int),Used:=[{ No:=0,Gen:=1,End:=(headT.length:Int),Items:=[] }],NextGen:=2,NextSeq:=1,Stamp:=0,NextValid:=1 }
def fixd (k:Nat):TDisk×Bool:=writeC (log1 k).Disk (checkOf (log1 k))
def fmtK (k:Nat):TLog×Bool:=if (open0 k).2&&(fixd k).2 then ({ log1 k with Disk:=(fixd k).1,Stamp:=1 },true) else (zlog,false)
def fmt (x:Int):TLog×Bool:=if inR x 5 11 then fmtK x.toNat else (zlog,false)
theorem free0 {k:Nat} (h:5≤k∧k≤11):∃ t,freeSegs (log0 k)=0::t:=by
 have:k=5∨k=6∨k=7∨k=8∨k=9∨k=10∨k=11:=by omega
 rcases this with rfl | rfl | rfl | rfl | rfl | rfl | rfl <;> exact ⟨_,rfl⟩
theorem A2s {k:Nat} (h:5≤k∧k≤11):E1 (newDisk (8+k*8))=true:=A4g (by omega) (by omega)
theorem A9o {k:Nat} (h:5≤k∧k≤11):E1 (open0 k).1=true:=A19 (A2s h) 8 headT
theorem A0m {k:Nat} (h:5≤k∧k≤11):F4 (newDisk (8+k*8)) 0 0 headT=some (open0 k):=by
 have hl:=Qk
 unfold F4 Q3
 rw [K6,ob,if_pos (by decide),K6,ob,if_pos (by decide)]
 rw [if_neg (by rw [show w64 (256 - 0)=256 from rfl]; simp; omega),ob,if_neg (by simp)]
 simp only [K6,ob]
 rw [if_pos (by decide),ob,show w64 (8+w64 (0*8))=((8:Nat):Int) from rfl,Kz (A2s h) (by omega) (by omega)]
 rfl
theorem A50 {k:Nat} (h:5≤k∧k≤11):P6 (log0 k) 0=some (if (open0 k).2 then (true,log1 k) else (false,log0 k)):=by
 obtain ⟨t,ht⟩:=free0 h
 unfold P6
 have e1:=Mo (g:=log0 k) (by simp [log0])
 show (M0 (log0 k)).bind _=_
 rw [e1,ob,ht]
 rw [if_neg (by decide),if_neg (by simp),ob,if_neg (by simp)]
 show (H6 head1).bind _=_
 rw [Cl,ob,show at? (0::t) 0=some 0 from by rw [show (0:Int)=((0:Nat):Int) from rfl,at?_nat (by simp)]; rfl,ob]
 show (F4 (newDisk (8+k*8)) 0 0 headT).bind _=_
 rw [A0m h,ob,A8r]
 cases ho:(open0 k).2
 ·rfl
 ·simp only [Bool.not_true,Bool.false_eq_true,if_false]
  rw [if_neg (show ¬ (decide ((log0 k).NextGen≥1000000000)=true) by simp [log0]),ob,if_neg (by simp),Py (DkS.ofOk (A9o h)),ob,ob,app?_ok (by simp) (by simp)]
  rfl
theorem A24 {k:Nat} (h:5≤k∧k≤11):E1 (log1 k).Disk=true:=A84 (A9o h)
theorem A7p (x:Int):V1 x=some (fmt x):=by
 unfold V1 fmt
 rw [K6,ob]
 cases hr:inR x 5 11 with
 | false=>rfl
 | true =>
  unfold inR at hr
  simp only [Bool.and_eq_true,decide_eq_true_eq] at hr
  obtain ⟨k,rfl⟩:∃ k:Nat,x=k:=⟨x.toNat,by omega⟩
  have h:5≤k∧k≤11:=by omega
  rw [if_pos rfl,if_pos rfl,Int.toNat_natCast]
  have e:w64 (8+w64 ((k:Int)*8))=((8+k*8:Nat):Int):=by
   rw [C1 (n:=(k:Int)*8) (by omega) (by omega),C1 (by omega) (by omega)]; omega
  rw [e,A1t (by omega) (by omega),ob]
  show (P6 (log0 k) 0).bind _=_
  rw [A50 h,ob]
  unfold fmtK
  cases ho:(open0 k).2
  ·rfl
  ·simp only [if_true,Bool.true_and]
   have e1:=A2k (g:=log1 k) (by simp [log1])
   show (Y6 (log1 k)).bind _=_
   rw [e1,ob]
   show (P5 (log1 k).Disk (checkOf (log1 k))).bind _=_
   rw [A2w (DkS.ofOk (A24 h)) (by simp [checkOf,log1]),ob]
   show (if (!(fixd k).2)=true then _ else _)=_
   cases hf:(fixd k).2
   ·rfl
   ·rfl
theorem andv255 (a:Int):0≤andv .i64 a 255∧andv .i64 a 255≤255:=by
 have h:andv .i64 a 255=w64 ((BitVec.ofInt 64 a &&& BitVec.ofInt 64 255).toNat:Int):=rfl
 have h2:(BitVec.ofInt 64 a &&& BitVec.ofInt 64 255).toNat≤255:=by
  rw [BitVec.toNat_and]
  exact Nat.le_trans Nat.and_le_right (by decide)
 rw [h,C1 (by omega) (by omega)]
 omega
def IOk (b:List Int) (i:Int):Prop:=0≤i∧i≤(b.length:Int)∧(b.length:Int)≤1048576
def Dr {α:Type} (b:List Int) (o:Option (α×TL01Cur)) (P:α→Prop):Prop:=∃ r i h,o=some (r,⟨b,i,h⟩)∧P r∧IOk b i
theorem Dr.bind {α β:Type} {b:List Int} {o:Option (α×TL01Cur)} {P:α→Prop} {f:α×TL01Cur→Option (β×TL01Cur)} {Q:β→Prop} (h:Dr b o P) (g:∀ r i h,P r→IOk b i→Dr b (f (r,⟨b,i,h⟩)) Q):Dr b (o.bind f) Q:=by
 obtain ⟨r,i,h',rfl,hp,hi⟩:=h
 exact g r i h' hp hi
theorem Dr.ret {α:Type} {b:List Int} {r:α} {i h:Int} {Q:α→Prop} (hi:IOk b i) (hq:Q r):Dr b (some (r,⟨b,i,h⟩)) Q:=⟨r,i,h,rfl,hq,hi⟩
theorem Dr.get {α γ:Type} {b:List Int} {o:Option (α×TL01Cur)} {P:α→Prop} {f:α×TL01Cur→Option γ} {Q:γ→Prop} (h:Dr b o P) (g:∀ r i h,P r→IOk b i→∃ z,f (r,⟨b,i,h⟩)=some z∧Q z):∃ z,o.bind f=some z∧Q z:=by
 obtain ⟨r,i,h',rfl,hp,hi⟩:=h
 exact g r i h' hp hi
theorem Qh {b:List Int} {i h:Int} (hi:IOk b i):Dr b (K7 ⟨b,i,h⟩) fun x=>0≤x∧x≤255:=by
 unfold K7
 obtain ⟨h0,h1,h2⟩:=hi
 by_cases hl:i<(b.length:Int)
 ·obtain ⟨n,rfl⟩:∃ n:Nat,i=n:=⟨i.toNat,by omega⟩
  rw [if_pos (by simpa using hl),at?_nat (show n<b.length by omega),ob]
  refine ⟨_,_,_,rfl,andv255 _,?_⟩
  show IOk b (w64 ((n:Int)+1))
  rw [C1 (by omega) (by omega)]; exact ⟨by omega,by omega,h2⟩
 ·rw [if_neg (by simpa using hl)]
  exact ⟨_,_,_,rfl,andv255 _,h0,h1,h2⟩
theorem Bv {b:List Int} {i h:Int} (hi:IOk b i) {n:Int} (hn:1≤n) (hm:n≤4294967296):Dr b (D3 ⟨b,i,h⟩ n) fun x=>0≤x∧x<n:=by
 unfold D3
 rw [if_neg (by simp; omega)]
 have tm:∀ x:Int,0≤x→0≤Int.tmod x n∧Int.tmod x n<n:=fun x hx=>⟨Int.tmod_nonneg _ hx,Int.tmod_lt_of_pos _ (by omega)⟩
 have rm:∀ x:Int,rem? x n=some (Int.tmod x n):=fun x=>by unfold rem?; rw [if_neg (by omega)]
 by_cases hs:n≤256
 ·rw [if_pos (by simpa using hs)]
  refine Dr.bind (Qh hi) fun x i h hx hi=>?_
  rw [rm,ob]
  exact Dr.ret hi (tm x hx.1)
 ·rw [if_neg (by simpa using hs)]
  refine Dr.bind (Qh hi) fun x i h hx hi=>Dr.bind (Qh hi) fun y i h hy hi=>Dr.bind (Qh hi) fun z i h hz hi=>Dr.bind (Qh hi) fun u i h hu hi=>?_
  rw [rm,ob]
  refine Dr.ret hi (tm _ ?_)
  dsimp only
  rw [C1 (n:=x*16777216) (by omega) (by omega),C1 (n:=y*65536) (by omega) (by omega),C1 (n:=z*256) (by omega) (by omega),C1 (n:=x*16777216+y*65536) (by omega) (by omega),C1 (n:=x*16777216+y*65536+z*256) (by omega) (by omega),C1 (by omega) (by omega)]
  omega
theorem A53 {b:List Int} {i h:Int} (hi:IOk b i) {l:List Int} (h1:1≤l.length) (h2:l.length≤100):Dr b (Q6 ⟨b,i,h⟩ l) fun x=>x∈l:=by
 unfold Q6
 refine Dr.bind (Bv hi (by omega) (by omega)) fun x i h hx hi=>?_
 obtain ⟨n,rfl⟩:∃ n:Nat,x=n:=⟨x.toNat,by omega⟩
 rw [at?_nat (by omega),ob]
 exact Dr.ret hi (List.getElem_mem _)
theorem A2c {b:List Int} {i h:Int} (hi:IOk b i) {l:List (List UInt8)} (h1:1≤l.length) (h2:l.length≤100):Dr b (M2 ⟨b,i,h⟩ l) fun x=>x∈l:=by
 unfold M2
 refine Dr.bind (Bv hi (by omega) (by omega)) fun x i h hx hi=>?_
 obtain ⟨n,rfl⟩:∃ n:Nat,x=n:=⟨x.toNat,by omega⟩
 rw [at?_nat (by omega),ob]
 exact Dr.ret hi (List.getElem_mem _)
theorem A7v {b:List Int} (_hb:b.length≤1048576):∃ h,U9 b=some ⟨b,0,h⟩:=by
 have key:∃ r,iter (Bp b) (w64 (76001+(b.length:Int)),0)=some r∧True:=by
  refine A37 (fun s:Int×Int=>0≤s.2∧s.2≤(b.length:Int)) (fun s=>((b.length:Int) - s.2).toNat) (fun _=>True) ?_ _ ⟨by simp,by simp⟩
  rintro ⟨x,i⟩ ⟨h0,h1⟩
  simp only at h0 h1
  unfold Bp
  by_cases hl:i<(b.length:Int)
  ·by_cases h4:i<4000
   ·left
    obtain ⟨n,rfl⟩:∃ n:Nat,i=n:=⟨i.toNat,by omega⟩
    rw [if_pos (by simpa using hl),if_pos (by simpa using h4),ob,if_pos rfl]
    show ∃ s',(at? b (n:Int)).bind _=_∧_
    rw [at?_nat (by omega),ob]
    refine ⟨_,rfl,?_,?_⟩
    ·simp only; rw [C1 (by omega) (by omega)]; omega
    ·simp only; rw [C1 (by omega) (by omega)]; omega
   ·right
    rw [if_pos (by simpa using hl),if_neg (by simpa using h4)]
    exact ⟨_,rfl,trivial⟩
  ·right
   rw [if_neg (by simpa using hl)]
   exact ⟨_,rfl,trivial⟩
 obtain ⟨r,e,_⟩:=key
 exact ⟨r,by unfold U9; rw [e,ob]⟩
theorem iok0 {b:List Int} (hb:b.length≤1048576):IOk b 0:=⟨by omega,by omega,by omega⟩
theorem Kx {x:TRec} (h:recOk x=true):1≤x.Valid∧x.Valid≤9999:=by
 unfold recOk at h
 simp only [Bool.and_eq_true] at h
 have:=h.1.1.1.1.2
 simpa [inR] using this
theorem Hm {l:List TItem}:itemsOk l=true↔l.length≤200∧(∀ x∈l,(1≤x.Seq∧x.Seq≤1000000000)∧recOk x.Rec=true)∧∀ x∈l,∀ y∈l,x.Seq=y.Seq→x=y:=by
 refine ⟨A28,fun ⟨h1,h2,h3⟩=>?_⟩
 unfold itemsOk
 simp only [Bool.and_eq_true,decide_eq_true_eq,List.all_eq_true]
 refine ⟨fun i hi=>?_,h1⟩
 have hi:=List.mem_range.1 hi
 unfold itOk
 rw [qG hi]
 have hx:=h2 l[i] (List.getElem_mem hi)
 simp only [Bool.and_eq_true,inR,decide_eq_true_eq,Bool.not_eq_true',List.any_eq_false]
 refine ⟨⟨hx.1,hx.2⟩,fun y hy=>?_⟩
 have hy:=List.mem_of_mem_take hy
 unfold clash
 by_cases he:y.Seq=l[i].Seq
 ·have:=h3 y hy l[i] (List.getElem_mem hi) he
  simp [this,Zc.2 rfl]
 ·simp [he]
structure RecD (r:TRec):Prop where
 ok:recOk r=true
 valid:r.Valid≤3
 next:r.Next≤6
 uid:r.Uid≤5
 user:r.User.length≤3
 name:r.Name.length≤5
 text:r.Text.length≤28
theorem Qm {k v u n f:Int} {us nm tx:List UInt8} (h:recOk { Kind:=k,Valid:=v,Uid:=u,Next:=n,Flags:=f,User:=us,Name:=nm,Text:=tx }=true) (h1:v≤3) (h2:n≤6) (h3:u≤5) (h4:us.length≤3) (h5:nm.length≤5) (h6:tx.length≤28):RecD { Kind:=k,Valid:=v,Uid:=u,Next:=n,Flags:=f,User:=us,Name:=nm,Text:=tx }:=⟨h,h1,h2,h3,h4,h5,h6⟩
theorem A8s {b:List Int} {i h:Int} (hi:IOk b i):Dr b (Z8 ⟨b,i,h⟩) fun x=>x.length≤28:=by
 unfold Z8
 refine Dr.bind (A2c hi (by decide) (by decide)) fun x i h hx hi=>Dr.ret hi ?_
 simp only [List.mem_cons,List.not_mem_nil,or_false] at hx
 rcases hx with rfl | rfl | rfl | rfl | rfl <;> simp
theorem w64s {x:Int} (h:0≤x) (h':x≤1000000000):w64 (1+x)=1+x:=C1 (by omega) (by omega)
theorem A8c {b:List Int} {i h:Int} (hi:IOk b i):Dr b (V0 ⟨b,i,h⟩) RecD:=by
 unfold V0
 refine Dr.bind (A53 hi (by decide) (by decide)) fun k i h hk hi=>Dr.bind (Bv hi (by omega) (by omega)) fun v i h hv hi=>?_
 have hk':k=1∨k=2∨k=3∨k=4∨k=5:=by
  simp only [List.mem_cons,List.not_mem_nil,or_false] at hk; omega
 have hv1:w64 (1+v)=1+v:=w64s hv.1 (by omega)
 have iv:inR (1+v) 1 9999=true:=by unfold inR; simp; omega
 rcases hk' with rfl | rfl | rfl | rfl | rfl
 ·show Dr b (Option.bind _ _) _
  refine Dr.bind (A2c hi (by decide) (by decide)) fun us i h hus hi=>Dr.bind (A2c hi (by decide) (by decide)) fun nm i h hnm hi=>Dr.bind (Bv hi (by omega) (by omega)) fun n i h hn hi=>Dr.ret hi ?_
  dsimp only
  have hw:wordOk us=true∧us.length≤3:=by
   simp only [List.mem_cons,List.not_mem_nil,or_false] at hus
   rcases hus with rfl | rfl <;> decide
  have hw2:wordOk nm=true∧nm.length≤5:=by
   simp only [List.mem_cons,List.not_mem_nil,or_false] at hnm
   rcases hnm with rfl | rfl <;> decide
  rw [hv1,w64s hn.1 (by omega)]
  refine Qm ?_ (by omega) (by omega) (by omega) hw.2 hw2.2 (by simp)
  unfold recOk
  simp [hw.1,hw2.1,inR]; omega
 ·refine Dr.ret hi ?_
  dsimp only
  rw [hv1]
  refine Qm ?_ (by omega) (by omega) (by omega) (by simp) (by simp) (by simp)
  unfold recOk
  simp [iv]; decide
 ·show Dr b (Option.bind _ _) _
  refine Dr.bind (Bv hi (by omega) (by omega)) fun u i h hu hi=>Dr.bind (Bv hi (by omega) (by omega)) fun f i h hf hi=>Dr.bind (A8s hi) fun tx i h htx hi=>Dr.ret hi ?_
  dsimp only
  rw [hv1,w64s hu.1 (by omega)]
  refine Qm ?_ (by omega) (by omega) (by omega) (by simp) (by simp) htx
  have i2:inR (1+u) 1 9999=true:=by unfold inR; simp; omega
  have i3:inR f 0 7=true:=by unfold inR; simp; omega
  have i4:inR 3 1 5=true:=by decide
  unfold recOk
  simp [iv,i2,i3,i4]; omega
 ·show Dr b (Option.bind _ _) _
  refine Dr.bind (Bv hi (by omega) (by omega)) fun u i h hu hi=>Dr.bind (Bv hi (by omega) (by omega)) fun f i h hf hi=>Dr.ret hi ?_
  dsimp only
  rw [hv1,w64s hu.1 (by omega)]
  refine Qm ?_ (by omega) (by omega) (by omega) (by simp) (by simp) (by simp)
  have i2:inR (1+u) 1 9999=true:=by unfold inR; simp; omega
  have i3:inR f 0 7=true:=by unfold inR; simp; omega
  have i4:inR 4 1 5=true:=by decide
  unfold recOk
  simp [iv,i2,i3,i4]
 ·show Dr b (Option.bind _ _) _
  refine Dr.bind (Bv hi (by omega) (by omega)) fun u i h hu hi=>Dr.ret hi ?_
  dsimp only
  rw [hv1,w64s hu.1 (by omega)]
  refine Qm ?_ (by omega) (by omega) (by omega) (by simp) (by simp) (by simp)
  have i2:inR (1+u) 1 9999=true:=by unfold inR; simp; omega
  have i4:inR 5 1 5=true:=by decide
  unfold recOk
  simp [iv,i2,i4]
theorem RecD.sz {r:TRec} (h:RecD r):A1q r:=⟨by have:=h.user; omega,by have:=h.name; omega,by have:=h.text; omega⟩
def hd (g:TLog):TSeg:=(g.Used[g.Used.length - 1]?).getD { No:=0,Gen:=0,End:=0,Items:=[] }
def hdF (gen:Int):TFrame:={ Gen:=gen,Seq:=1,Body:=[115,101,103] }
def hdT (gen:Int):List UInt8:=(D7 (hdF gen)).1
theorem A9c {gen:Int} (h:1≤gen∧gen≤1000000000):(D7 (hdF gen)).2=true:=by
 unfold D7
 rw [if_pos]
 unfold D5 hdF inR
 simp; omega
theorem Wv (gen:Int):(hdT gen).length≤217:=by
 unfold hdT D7
 split
 ·rename_i h
  have:=Hg h
  have e:=Eb (frameT (hdF gen))
  rw [List.length_append]; omega
 ·simp
def openG (g:TLog):TLog:={ g with Disk:=poke g.Disk (256*(g.Used.length+1)) (hdT g.NextGen),Used:=g.Used++[{ No:=(g.Used.length:Int),Gen:=g.NextGen,End:=((hdT g.NextGen).length:Int),Items:=[] }],NextGen:=g.NextGen+1 }
def appG (g:TLog) (x:TItem) (T:List UInt8):TLog:={ g with Disk:=poke g.Disk (256*g.Used.length+(hd g).End.toNat) T,Used:=g.Used.dropLast++[{ No:=(hd g).No,Gen:=(hd g).Gen,End:=(hd g).End+(T.length:Int),Items:=(hd g).Items++[x] }],NextSeq:=if x.Seq≥g.NextSeq then x.Seq+1 else g.NextSeq,NextValid:=if x.Rec.Valid≥g.NextValid then x.Rec.Valid+1 else g.NextValid }
def openS (n:Nat) (g:TLog) (keep:Int):Bool×TLog:=if keep<((n - g.Used.length:Nat):Int) then (true,openG g) else (false,g)
def frT (g:TLog) (f:TFrame):List UInt8×Bool:=D7 { Gen:=(hd g).Gen,Seq:=f.Seq,Body:=f.Body }
def appS (n:Nat) (g:TLog) (x:TItem) (keep:Int):Bool×TLog :=
 let f:=E4 x (hd g).Gen
 let t:=D7 f.1
 if f.2=false then (false,g) else if t.2=false then (false,g) else if x.Seq≥1000000000 then (false,g)
 else if (hd g).End+(t.1.length:Int)>256 then
  (if (openS n g keep).1 then
   (if (frT (openG g) f.1).2=false then (false,openG g) else if (hd (openG g)).End+((frT (openG g) f.1).1.length:Int)>256 then (false,openG g) else (true,appG (openG g) x (frT (openG g) f.1).1))
  else (false,g))
 else (true,appG g x t.1)
structure W (n:Nat) (S0:Nat→List UInt8) (g:TLog):Prop where
 rng:5≤n∧n≤11
 ok:E1 g.Disk=true
 cache:g.Disk.Cache=[]
 sec:g.Disk.Sectors.length=8+8*n
 segs:g.Segs=(n:Int)
 used:∀ (j:Nat) (s:TSeg),g.Used[j]?=some s→s.No=(j:Int)∧s.Gen=(j:Int)+1∧0≤s.End∧s.End≤256
 len:1≤g.Used.length∧g.Used.length≤n
 gen:g.NextGen=(g.Used.length:Int)+1
 seq:g.NextSeq=((C2 g).length:Int)+1
 stamp:g.Stamp=1
 valid:1≤g.NextValid∧g.NextValid≤4
 its:∀ (i:Nat) (x:TItem),(C2 g)[i]?=some x→x.Seq=(i:Int)+1∧RecD x.Rec∧x.Rec.Valid<g.NextValid
 home:∀ a,a<8→rsec g.Disk a=S0 a
theorem A5l {g:TLog} {l:List TSeg} {s:TSeg} (h:g.Used=l++[s]):hd g=s:=by
 unfold hd; rw [h]; simp
theorem Tp {g:TLog} (h:1≤g.Used.length):g.Used=g.Used.dropLast++[hd g]:=by
 have h0:g.Used≠[]:=by intro e; rw [e] at h; simp at h
 have:=List.dropLast_concat_getLast h0
 conv=>lhs; rw [← this]
 have e:hd g=g.Used.getLast h0:=A5l this.symm
 rw [e]
theorem A30 {g:TLog} (h:1≤g.Used.length):g.Used[g.Used.length - 1]?=some (hd g):=by
 unfold hd
 rw [qG (by omega)]; rfl
theorem W.hd {n:Nat} {S0:Nat→List UInt8} {g:TLog} (h:W n S0 g):(hd g).No=(g.Used.length:Int) - 1∧(V.hd g).Gen=(g.Used.length:Int)∧0≤(V.hd g).End∧(V.hd g).End≤256:=by
 have h1:=h.len.1
 obtain ⟨a,b,c,d⟩:=h.used _ _ (A30 h1)
 refine ⟨by omega,by omega,c,d⟩
theorem W.usedNo {n:Nat} {S0:Nat→List UInt8} {g:TLog} (h:W n S0 g) (i:Nat):usedNo g (i:Int)=decide (i<g.Used.length):=by
 unfold V.usedNo
 rw [Bool.eq_iff_iff,List.any_eq_true,decide_eq_true_iff]
 constructor
 ·rintro ⟨s,hs,he⟩
  obtain ⟨j,hj⟩:=List.getElem?_of_mem hs
  have:=h.used j s hj
  have hl:=(qI hj).1
  have he':=beq_iff_eq.1 he
  omega
 ·intro hi
  refine ⟨g.Used[i],List.getElem_mem hi,?_⟩
  have:=h.used i _ (qG hi)
  rw [this.1]; simp
theorem A4b:∀ n:Nat,n<12→∀ u:Nat,u<12→u≤n→(List.range n).filter (fun i=>!decide (i<u))=List.range' u (n - u):=by decide
theorem W.free {n:Nat} {S0:Nat→List UInt8} {g:TLog} (h:W n S0 g):freeSegs g=(List.range' g.Used.length (n - g.Used.length)).map fun (k:Nat)=>(k:Int):=by
 have hn:=h.rng
 have hl:=h.len
 unfold freeSegs
 have e:nSegs g=n:=by unfold nSegs; rw [h.segs,if_neg (by omega)]; rfl
 rw [e,← A4b n (by omega) g.Used.length (by omega) hl.2]
 congr 2
 funext i
 rw [h.usedNo i]
theorem A14 {d:TDisk} (h:E1 d=true) (hc:d.Cache=[]) {T:List UInt8} {no t:Nat} (hno:no≤10) (hs:16+8*no≤d.Sectors.length) (ht:t+T.length≤256) :
  ∃ d1,F4 d (no:Int) (t:Int) T=some (d1,true)∧G4 d1=some (poke d (256*(no+1)+t) T):=by
 obtain ⟨d1,e1,e2⟩:=A5w h hc (T:=T) (s:=8+8*no) (t:=t) (by omega) (by omega) (by omega) (by omega)
 refine ⟨d1,?_,by rw [e2]; congr 2; omega⟩
 unfold F4 Q3
 rw [K6,ob,if_pos (by unfold inR; simp; omega),K6,ob,if_pos (by unfold inR; simp; omega)]
 rw [if_neg (by rw [C1 (by omega) (by omega)]; simp; omega),ob,if_neg (by simp)]
 simp only [K6,ob]
 rw [if_pos (by unfold inR; simp; omega),ob,C1 (n:=(no:Int)*8) (by omega) (by omega),C1 (by omega) (by omega),show (8:Int)+(no:Int)*8=((8+8*no:Nat):Int) by omega,e1]
 rfl
theorem A6j {n:Nat} {S0:Nat→List UInt8} {g:TLog} (h:W n S0 g) {keep:Int} (hk:0≤keep):P9 g keep=some (openS n g keep):=by
 have hn:=h.rng
 have hl:=h.len
 unfold P9 openS
 show (M0 g).bind _=_
 rw [Mo (by omega),ob,if_neg (by simp; omega),h.free]
 by_cases c:keep<((n - g.Used.length:Nat):Int)
 ·rw [if_neg (by simp; omega),ob,if_neg (by simp),if_pos c]
  show (H6 (hdF g.NextGen)).bind _=_
  have ho:=A9c (gen:=g.NextGen) (by rw [h.gen]; omega)
  have ha:at? ((List.range' g.Used.length (n - g.Used.length)).map fun (k:Nat)=>(k:Int)) 0=some (g.Used.length:Int):=by
   rw [show (0:Int)=((0:Nat):Int) from rfl,at?_nat (by simp; omega)]; simp
  rw [Cl,ob,ha,ob]
  have ht:=Wv g.NextGen
  obtain ⟨d1,e1,e2⟩:=A14 h.ok h.cache (T:=hdT g.NextGen) (no:=g.Used.length) (t:=0) (by omega) (by rw [h.sec]; omega) (by omega)
  show (F4 g.Disk (g.Used.length:Int) ((0:Nat):Int) (hdT g.NextGen)).bind _=_
  rw [e1,ob,ho,if_neg (by simp),if_neg (by simp),if_neg (by rw [h.gen]; simp; omega),ob,if_neg (by simp),e2,ob,app?_ok (by simp; omega) (by simp; omega),ob,ob,app?_ok (by simp; omega) (by simp; omega),ob,C1 (n:=g.NextGen+1) (by rw [h.gen]; omega) (by rw [h.gen]; omega)]
  rfl
 ·rw [if_pos (by simp; omega),ob,if_pos rfl,if_neg c]
theorem W.openG {n:Nat} {S0:Nat→List UInt8} {g:TLog} (h:W n S0 g) (hu:g.Used.length<n):W n S0 (openG g):=by
 have hn:=h.rng
 have hl:=h.len
 have ht:=Wv g.NextGen
 have hi:C2 (V.openG g)=C2 g:=by unfold C2 V.openG; simp
 refine ⟨hn,Wx h.ok _ _,rfl,by unfold V.openG; rw [Fu]; exact h.sec,h.segs,?_,by simp [V.openG]; omega,by simp only [V.openG,List.length_append,List.length_singleton]; rw [h.gen]; omega,by rw [hi]; exact h.seq,h.stamp,h.valid,by rw [hi]; exact h.its,?_⟩
 ·intro j s hs
  simp only [V.openG] at hs
  by_cases c:j<g.Used.length
  ·rw [List.getElem?_append_left c] at hs
   exact h.used j s hs
  ·rw [List.getElem?_append_right (by omega)] at hs
   have:j - g.Used.length=0:=by
    by_cases e:j - g.Used.length=0
    ·exact e
    ·rw [List.getElem?_eq_none (by simp; omega)] at hs; cases hs
   rw [this] at hs
   simp only [List.getElem?_cons_zero,qS] at hs
   subst hs
   refine ⟨by simp only; omega,by simp only; rw [h.gen]; omega,by simp only; omega,by simp only; omega⟩
 ·intro a ha
  have:=h.sec
  show rsec (poke g.Disk _ _) a=_
  rw [A13 h.ok (by omega) (by omega)]
  exact h.home a ha
theorem W.appG {n:Nat} {S0:Nat→List UInt8} {g:TLog} (h:W n S0 g) {x:TItem} {T:List UInt8} (hx:x.Seq=g.NextSeq) (hr:RecD x.Rec) (hT:(V.hd g).End+(T.length:Int)≤256):W n S0 (appG g x T)∧C2 (V.appG g x T)=C2 g++[x]:=by
 have hn:=h.rng
 have hl:=h.len
 obtain ⟨h1,h2,h3,h4⟩:=h.hd
 have hu:=Tp hl.1
 have hi:C2 (V.appG g x T)=C2 g++[x]:=by
  unfold C2 V.appG
  conv=>rhs; rw [hu]
  simp
 have hlen:(V.appG g x T).Used.length=g.Used.length:=by unfold V.appG; simp; omega
 have hv:=hr.valid
 refine ⟨⟨hn,Wx h.ok _ _,rfl,by unfold V.appG; rw [Fu]; exact h.sec,h.segs,?_,by rw [hlen]; exact hl,by rw [hlen]; exact h.gen,?_,h.stamp,?_,?_,?_⟩,hi⟩
 ·intro j s hs
  simp only [V.appG] at hs
  by_cases c:j<g.Used.length - 1
  ·rw [List.getElem?_append_left (by simp; omega)] at hs
   refine h.used j s ?_
   rw [hu,List.getElem?_append_left (by simp; omega)]
   exact hs
  ·rw [List.getElem?_append_right (by simp; omega)] at hs
   have e:j - g.Used.dropLast.length=0:=by
    by_cases e:j - g.Used.dropLast.length=0
    ·exact e
    ·rw [List.getElem?_eq_none (by simp at e ⊢; omega)] at hs; cases hs
   rw [e] at hs
   simp only [List.getElem?_cons_zero,qS] at hs
   subst hs
   simp only [List.length_dropLast] at e
   refine ⟨by simp only; omega,by simp only; omega,by simp only; omega,by simp only; omega⟩
 ·rw [hi]
  show (if x.Seq≥g.NextSeq then x.Seq+1 else g.NextSeq)=_
  rw [if_pos (by omega),hx,h.seq]; simp
 ·have:=h.valid
  show 1≤(if x.Rec.Valid≥g.NextValid then x.Rec.Valid+1 else g.NextValid)∧(if x.Rec.Valid≥g.NextValid then x.Rec.Valid+1 else g.NextValid)≤4
  split <;> omega
 ·intro i y hy
  rw [hi] at hy
  have hge:g.NextValid≤(V.appG g x T).NextValid∧x.Rec.Valid<(V.appG g x T).NextValid:=by
   show g.NextValid≤(if x.Rec.Valid≥g.NextValid then x.Rec.Valid+1 else g.NextValid)∧x.Rec.Valid<(if x.Rec.Valid≥g.NextValid then x.Rec.Valid+1 else g.NextValid)
   split <;> omega
  by_cases c:i<(C2 g).length
  ·rw [List.getElem?_append_left c] at hy
   obtain ⟨a1,a2,a3⟩:=h.its i y hy
   exact ⟨a1,a2,by omega⟩
  ·rw [List.getElem?_append_right (by omega)] at hy
   have e:i - (C2 g).length=0:=by
    by_cases e:i - (C2 g).length=0
    ·exact e
    ·rw [List.getElem?_eq_none (by simp; omega)] at hy; cases hy
   rw [e] at hy
   simp only [List.getElem?_cons_zero,qS] at hy
   subst hy
   refine ⟨by rw [hx,h.seq]; omega,hr,hge.2⟩
 ·intro a ha
  have:=h.sec
  show rsec (poke g.Disk _ _) a=_
  rw [A13 h.ok (by omega) (by omega)]
  exact h.home a ha
theorem Mq (f:TFrame):(D7 f).1.length≤217:=by
 unfold D7
 split
 ·rename_i h
  have:=Hg h
  have e:=Eb (frameT f)
  rw [List.length_append]; omega
 ·simp
theorem A2z {α:Type} {l:List α} {y:α} (h:1≤l.length):l.set (l.length - 1) y=l.dropLast++[y]:=by
 have h0:l≠[]:=by intro e; rw [e] at h; simp at h
 obtain ⟨a,b,rfl⟩:∃ a b,l=a++[b]:=⟨l.dropLast,l.getLast h0,(List.dropLast_concat_getLast h0).symm⟩
 simp
theorem A5c {n:Nat} {S0:Nat→List UInt8} {g:TLog} (h:W n S0 g):∀ y∈C2 g,RecD y.Rec:=by
 intro y hy
 obtain ⟨i,hi⟩:=List.getElem?_of_mem hy
 exact (h.its i y hi).2.1
theorem Xb {g:TLog} (h:1≤g.Used.length):(hd g).Items.length≤(C2 g).length:=by
 unfold C2
 conv=>rhs; rw [Tp h]
 simp
theorem A3l {n:Nat} {S0:Nat→List UInt8} {g:TLog} (h:W n S0 g) (hm:(C2 g).length≤1000) {x:TItem} (hx:0≤x.Seq∧x.Seq≤1000000000) (hv:x.Rec.Valid≤1000000000) (hv0:0≤x.Rec.Valid) {T:List UInt8} (hT:(hd g).End+(T.length:Int)≤256) :
  ((F4 g.Disk (hd g).No (hd g).End T).bind fun v4=>(if !v4.2 then some (false,g) else (G4 v4.1).bind fun v5=>(app? 96 ([]:List TItem) (hd g).Items).bind fun v6=>(app? 96 v6 ([x]:List TItem)).bind fun v7=>(some (hd g)).bind fun v8=>(some (set' g.Used (w64 ((g.Used.length:Int) - 1)) ({ No:=(hd g).No,Gen:=(hd g).Gen,End:=(hd g).End+(T.length:Int),Items:=v7 }:TSeg))).bind fun v9=>(if decide (x.Seq≥g.NextSeq) then (if decide (x.Rec.Valid≥g.NextValid) then some (true,({ Disk:=({ Sectors:=v5.Sectors,Cache:=v5.Cache }:TDisk),Segs:=g.Segs,Used:=v9,NextGen:=g.NextGen,NextSeq:=w64 (x.Seq+1),Stamp:=g.Stamp,NextValid:=w64 (x.Rec.Valid+1) }:TLog)) else some (true,({ Disk:=({ Sectors:=v5.Sectors,Cache:=v5.Cache }:TDisk),Segs:=g.Segs,Used:=v9,NextGen:=g.NextGen,NextSeq:=w64 (x.Seq+1),Stamp:=g.Stamp,NextValid:=g.NextValid }:TLog))) else (if decide (x.Rec.Valid≥g.NextValid) then some (true,({ Disk:=({ Sectors:=v5.Sectors,Cache:=v5.Cache }:TDisk),Segs:=g.Segs,Used:=v9,NextGen:=g.NextGen,NextSeq:=g.NextSeq,Stamp:=g.Stamp,NextValid:=w64 (x.Rec.Valid+1) }:TLog)) else some (true,({ Disk:=({ Sectors:=v5.Sectors,Cache:=v5.Cache }:TDisk),Segs:=g.Segs,Used:=v9,NextGen:=g.NextGen,NextSeq:=g.NextSeq,Stamp:=g.Stamp,NextValid:=g.NextValid }:TLog))))):Option (Bool×TLog))=some (true,appG g x T):=by
 have hn:=h.rng
 have hl:=h.len
 obtain ⟨h1,h2,h3,h4⟩:=h.hd
 have hit:=Xb hl.1
 obtain ⟨d1,e1,e2⟩:=A14 h.ok h.cache (T:=T) (no:=g.Used.length - 1) (t:=(hd g).End.toNat) (by omega) (by rw [h.sec]; omega) (by omega)
 rw [show (hd g).No=((g.Used.length - 1:Nat):Int) by omega]
 have e1':F4 g.Disk ((g.Used.length - 1:Nat):Int) (hd g).End T=some (d1,true):=by
  rw [← e1]; congr 1; omega
 rw [e1',ob,if_neg (by simp),e2,ob,app?_ok (by simp; omega) (by simp; omega),ob,app?_ok (by simp; omega) (by simp; omega),ob]
 rw [C1 (n:=(g.Used.length:Int) - 1) (by omega) (by omega),show (g.Used.length:Int) - 1=((g.Used.length - 1:Nat):Int) by omega,ob,ob,Kt,A2z hl.1]
 rw [C1 (n:=x.Seq+1) (by omega) (by omega),C1 (n:=x.Rec.Valid+1) (by omega) (by omega)]
 unfold appG
 rw [show 256*(g.Used.length - 1+1)=256*g.Used.length by omega,show ((g.Used.length - 1:Nat):Int)=(hd g).No by omega]
 by_cases c1:x.Seq≥g.NextSeq
 ·rw [if_pos (by simpa using c1),if_pos c1]
  by_cases c2:x.Rec.Valid≥g.NextValid
  ·rw [if_pos (by simpa using c2),if_pos c2]; rfl
  ·rw [if_neg (by simpa using c2),if_neg c2]; rfl
 ·rw [if_neg (by simpa using c1),if_neg c1]
  by_cases c2:x.Rec.Valid≥g.NextValid
  ·rw [if_pos (by simpa using c2),if_pos c2]; rfl
  ·rw [if_neg (by simpa using c2),if_neg c2]; rfl
theorem Vr {n:Nat} {S0:Nat→List UInt8} {g:TLog} (h:W n S0 g) (hm:(C2 g).length≤1000) {x:TItem} (hx:0≤x.Seq) (hr:RecS x.Rec) (hv:x.Rec.Valid≤1000000000) (hv0:0≤x.Rec.Valid) {keep:Int} (hk:0≤keep):J7 g x keep=some (appS n g x keep):=by
 have hn:=h.rng
 have hl:=h.len
 obtain ⟨h1,h2,h3,h4⟩:=h.hd
 unfold J7 appS
 have ha:∀ g:TLog,1≤g.Used.length→g.Used.length≤11→at? g.Used (w64 ((g.Used.length:Int) - 1))=some (hd g):=by
  intro g a b
  rw [C1 (n:=(g.Used.length:Int) - 1) (by omega) (by omega),show (g.Used.length:Int) - 1=((g.Used.length - 1:Nat):Int) by omega,at?_eq (A30 a)]
 have l1:=Mq (E4 x (hd g).Gen).1
 rw [ha g hl.1 (by omega),ob,Yc hr,ob,Cl,ob]
 dsimp only
 cases c1:(E4 x (hd g).Gen).2
 ·rfl
 ·simp only [Bool.not_true,Bool.not_false,Bool.false_eq_true,Bool.true_eq_false,if_false,if_true]
  cases c2:(D7 (E4 x (hd g).Gen).1).2
  ·rfl
  ·simp only [Bool.not_true,Bool.not_false,Bool.false_eq_true,Bool.true_eq_false,if_false,if_true]
   by_cases c3:x.Seq≥1000000000
   ·rw [if_pos (by simpa using c3),if_pos c3]; rfl
   ·rw [if_neg (by simpa using c3),if_neg c3,ob,if_neg (by simp),C1 (n:=(hd g).End+_) (by omega) (by omega)]
    by_cases c4:(hd g).End+((D7 (E4 x (hd g).Gen).1).1.length:Int)>256
    ·rw [if_pos (by simpa using c4),if_pos c4]
     show (P9 g keep).bind _=_
     rw [A6j h hk,ob]
     unfold openS
     by_cases c5:keep<((n - g.Used.length:Nat):Int)
     ·have hw:=h.openG (by omega)
      obtain ⟨k1,k2,k3,k4⟩:=hw.hd
      rw [if_pos c5]
      dsimp only
      simp only [Bool.not_true,Bool.not_false,Bool.false_eq_true,Bool.true_eq_false,if_false,if_true]
      rw [ha (openG g) hw.len.1 (by have:=hw.len.2; omega),ob,Cl,ob]
      have l2:=Mq { Gen:=(hd (openG g)).Gen,Seq:=(E4 x (hd g).Gen).1.Seq,Body:=(E4 x (hd g).Gen).1.Body }
      have hi:C2 (openG g)=C2 g:=by unfold C2 openG; simp
      unfold frT
      cases c6:(D7 { Gen:=(hd (openG g)).Gen,Seq:=(E4 x (hd g).Gen).1.Seq,Body:=(E4 x (hd g).Gen).1.Body }).2
      ·rfl
      ·simp only [Bool.not_true,Bool.not_false,Bool.false_eq_true,Bool.true_eq_false,if_false,if_true]
       rw [C1 (n:=(hd (openG g)).End+_) (by omega) (by omega)]
       by_cases c7:(hd (openG g)).End+((D7 { Gen:=(hd (openG g)).Gen,Seq:=(E4 x (hd g).Gen).1.Seq,Body:=(E4 x (hd g).Gen).1.Body }).1.length:Int)>256
       ·rw [if_pos (by simpa using c7),if_pos c7]; rfl
       ·rw [if_neg (by simpa using c7),if_neg c7,ob,if_neg (by simp)]
        exact A3l hw (by rw [hi]; exact hm) ⟨hx,by omega⟩ hv hv0 (T:=(D7 { Gen:=(hd (openG g)).Gen,Seq:=(E4 x (hd g).Gen).1.Seq,Body:=(E4 x (hd g).Gen).1.Body }).1) (by omega)
     ·rw [if_neg c5]
      rfl
    ·rw [if_neg (by simpa using c4),if_neg c4]
     exact A3l h hm ⟨hx,by omega⟩ hv hv0 (T:=(D7 (E4 x (hd g).Gen).1).1) (by omega)
theorem Pr (n:Nat) (g:TLog) (x:TItem) (keep:Int):((appS n g x keep).2=g∧(appS n g x keep).1=false)∨((appS n g x keep).2=openG g∧(appS n g x keep).1=false∧keep<((n - g.Used.length:Nat):Int))∨(∃ T,appS n g x keep=(true,appG g x T)∧T=(D7 (E4 x (hd g).Gen).1).1∧(E4 x (hd g).Gen).2=true∧(D7 (E4 x (hd g).Gen).1).2=true∧(hd g).End+(T.length:Int)≤256) ∨
  (∃ T,appS n g x keep=(true,appG (openG g) x T)∧T=(frT (openG g) (E4 x (hd g).Gen).1).1∧(E4 x (hd g).Gen).2=true∧(frT (openG g) (E4 x (hd g).Gen).1).2=true∧(hd (openG g)).End+(T.length:Int)≤256∧keep<((n - g.Used.length:Nat):Int)):=by
 generalize hr:appS n g x keep=r
 unfold appS openS at hr
 dsimp only at hr
 split at hr
 ·subst hr; exact .inl ⟨rfl,rfl⟩
 ·rename_i a1
  split at hr
  ·subst hr; exact .inl ⟨rfl,rfl⟩
  ·rename_i a2
   split at hr
   ·subst hr; exact .inl ⟨rfl,rfl⟩
   ·split at hr
    ·by_cases c:keep<((n - g.Used.length:Nat):Int)
     ·rw [if_pos c] at hr
      dsimp only at hr
      rw [if_pos rfl] at hr
      split at hr
      ·subst hr; exact .inr (.inl ⟨rfl,rfl,c⟩)
      ·rename_i a5
       split at hr
       ·subst hr; exact .inr (.inl ⟨rfl,rfl,c⟩)
       ·rename_i a6
        subst hr
        exact .inr (.inr (.inr ⟨_,rfl,rfl,by simpa using a1,by simpa using a5,by omega,c⟩))
     ·rw [if_neg c] at hr
      dsimp only at hr
      rw [if_neg (by simp)] at hr
      subst hr; exact .inl ⟨rfl,rfl⟩
    ·rename_i a4
     subst hr
     exact .inr (.inr (.inl ⟨_,rfl,rfl,by simpa using a1,by simpa using a2,by omega⟩))
theorem A2g {s:TSeg}:∀ (l:List TSeg),s∈l→s.Items.length≤(l.map fun x=>x.Items.length).sum
 | [],h=>by cases h
 | x::l,h=>by
  rw [List.map_cons,List.sum_cons]
  rcases List.mem_cons.1 h with e | h
  ·rw [e]; omega
  ·have:=A2g l h; omega
theorem W.appS {n:Nat} {S0:Nat→List UInt8} {g:TLog} (h:W n S0 g) {x:TItem} (hx:x.Seq=g.NextSeq) (hr:RecD x.Rec) {keep:Int} (hk:0≤keep):W n S0 (appS n g x keep).2∧(C2 (V.appS n g x keep).2).length≤(C2 g).length+1:=by
 have hi:C2 (V.openG g)=C2 g:=by unfold C2 V.openG; simp
 rcases Pr n g x keep with ⟨e,_⟩ | ⟨e,_,c⟩ | ⟨T,e,_,_,_,c⟩ | ⟨T,e,_,_,_,c,c'⟩
 ·rw [e]; exact ⟨h,by omega⟩
 ·rw [e]; exact ⟨h.openG (by omega),by rw [hi]; omega⟩
 ·rw [e]
  have:=h.appG hx hr c
  exact ⟨this.1,by rw [this.2]; simp⟩
 ·rw [e]
  have:=(h.openG (by omega)).appG (x:=x) (T:=T) hx hr c
  exact ⟨this.1,by rw [this.2,hi]; simp⟩
theorem W.lgn {n:Nat} {S0:Nat→List UInt8} {g:TLog} (h:W n S0 g) (hm:(C2 g).length≤1000):LgN g:=by
 have hn:=h.rng
 have hl:=h.len
 have hw:=A5c h
 have ht:(C2 g).length=(g.Used.map fun x=>x.Items.length).sum:=by unfold C2; rw [List.length_flatMap]
 refine ⟨by omega,fun s hs=>⟨?_,fun y hy=>⟨(hw y (List.mem_flatMap.2 ⟨s,hs,hy⟩)).sz⟩⟩,by omega⟩
 have:s.Items.length≤(g.Used.map fun x=>x.Items.length).sum:=A2g _ hs
 omega
theorem A1b {n:Nat} {S0:Nat→List UInt8} {g:TLog} (h:W n S0 g) (hm:(C2 g).length<200) {x:TItem} (hx:x.Seq=g.NextSeq):T4 g x=some true:=by
 have a1:=Ks (l:=C2 g) (k:=(C2 g).length) (by omega) (q:=fun _=>false) (step:=X0 x (C2 g)) (bad:=.inl false) (good:=.inr ()) (by
  intro i hi _
  have:=(h.its i _ (qG hi)).1
  have hs:=h.seq
  unfold X0
  rw [if_pos (dlt hi),at?_nat hi,ob,if_neg (by simp; omega),ob,if_neg (by simp),if_neg (by simp),C5 (by omega)]) (by unfold X0; simp)
 unfold T4
 rw [Jv (h.lgn (by omega)),ob,a1]
 simp; omega
theorem Kr {n:Int} (h:0≤n) (h':n<128):(vt n).length=1:=by
 unfold vt
 rw [if_pos h,X4 (by omega)]; rfl
theorem A5q {c:TCheck} (h1:0≤c.Stamp∧c.Stamp<128) (h2:0≤c.NextGen∧c.NextGen<128) (h3:0≤c.NextSeq∧c.NextSeq<128) (h4:0≤c.NextValid∧c.NextValid<128) (h5:c.Refs.length≤11) (h6:∀ r∈c.Refs,(0≤r.No∧r.No<128)∧0≤r.Gen∧r.Gen<128):(ctOut c).length≤64:=by
 have e1:=Kr h1.1 h1.2
 have e2:=Kr h2.1 h2.2
 have e3:=Kr h3.1 h3.2
 have e4:=Kr h4.1 h4.2
 have e5:=Kr (n:=(c.Refs.length:Int)) (by omega) (by omega)
 have key:∀ l:List TRef,(∀ r∈l,(0≤r.No∧r.No<128)∧0≤r.Gen∧r.Gen<128)→(l.flatMap refT).length=2*l.length:=by
  intro l
  induction l with
  | nil=>intro _; rfl
  | cons r l ih =>
   intro hl
   have hr:=hl r List.mem_cons_self
   have f1:=Kr hr.1.1 hr.1.2
   have f2:=Kr hr.2.1 hr.2.2
   rw [List.flatMap_cons,List.length_append,ih fun r hr=>hl r (List.mem_cons_of_mem _ hr)]
   unfold refT
   simp [f1,f2]; omega
 have hk:=key c.Refs h6
 unfold ctOut short ctBody ctHead
 have hs:=Eb
 simp only [List.length_append,hs,e1,e2,e3,e4,e5,hk]
 have e6:=Kr (n:=((1+1+1+1+1+2*c.Refs.length+4:Nat):Int)) (by omega) (by omega)
 rw [e6]; omega
theorem A0h {c:TCheck} (h:checkOk c=true) (hl:(ctOut c).length≤128):checkText c=(ctOut c,true):=by
 unfold checkText
 rw [if_pos h,if_neg (by omega)]
theorem Vn {d:TDisk} (h:E1 d=true) (hc:d.Cache=[]) {s:Nat} {T:List UInt8} (hT:T.length≤1000) (hs:s<d.Sectors.length) (hn:32*s+T.length≤32*d.Sectors.length):(writeB d s T).2=true∧flush (writeB d s T).1=poke d (32*s) T∧∃ j,Wst d (32*s) T j T.length (writeB d s T).1:=by
 have h100:=(K8.1 h).1.2
 obtain ⟨d1,j,e,hw⟩:=Xo h hc (T:=T) (s:=s) (t:=0) hT hs (by omega) (by omega)
 have e':H8 d (s:Int) 0 T=some (d1,true):=e
 rw [Kz h (by omega) (by omega)] at e'
 have:=Option.some.inj e'
 rw [this]
 exact ⟨rfl,hw.flush h,j,hw⟩
theorem A2y {d:TDisk} (h:E1 d=true) (hc:d.Cache=[]) (hd:8≤d.Sectors.length) {c:TCheck} (hk:checkOk c=true) (hl:(ctOut c).length≤128):writeC d c=(poke d (128*(c.Stamp.toNat%2)) (ctOut c),true):=by
 obtain ⟨h1,h2,_⟩:=Vn h hc (s:=4*(c.Stamp.toNat%2)) (T:=ctOut c) (by omega) (by omega) (by omega)
 unfold writeC
 rw [A0h hk hl]
 dsimp only
 rw [if_pos ⟨rfl,h⟩,if_pos h1,h2]
 congr 2; omega
theorem Pi {k:Nat} (h:5≤k∧k≤11):(open0 k).2=true∧(log1 k).Disk=poke (newDisk (8+k*8)) 256 headT:=by
 have hl:=Qk
 have:=Vn (A2s h) rfl (s:=8) (T:=headT) (by omega) (by simp [newDisk]; omega) (by simp [newDisk]; omega)
 exact ⟨this.1,this.2.1⟩
def first8 (k:Nat) (a:Nat):List UInt8:=rsec (fixd k).1 a
theorem Xa (k:Nat):checkOk (checkOf (log1 k))=true∧(ctOut (checkOf (log1 k))).length≤64:=by
 have e:checkOf (log1 k)={ Stamp:=1,NextGen:=2,NextSeq:=1,NextValid:=1,Refs:=[{ No:=0,Gen:=1 }] }:=rfl
 rw [e]
 refine ⟨by decide,A5q (by decide) (by decide) (by decide) (by decide) (by decide) ?_⟩
 intro r hr
 rw [List.mem_singleton] at hr
 subst hr; decide
theorem A15 {k:Nat} (h:5≤k∧k≤11):fixd k=(poke (log1 k).Disk 128 (ctOut (checkOf (log1 k))),true):=by
 have hd:=(Pi h).2
 have hc:=Xa k
 unfold fixd
 rw [A2y (A24 h) (by rw [hd]; rfl) (by rw [hd,Fu]; simp [newDisk]) hc.1 (by omega)]
 rfl
theorem A9k {k:Nat} (h:5≤k∧k≤11):∃ g,fmt (k:Int)=(g,true)∧W k (first8 k) g∧C2 g=[]:=by
 have ho:=Pi h
 have hf:=A15 h
 refine ⟨{ log1 k with Disk:=(fixd k).1,Stamp:=1 },?_,?_,rfl⟩
 ·unfold fmt fmtK
  rw [if_pos (by unfold inR; simp; omega),Int.toNat_natCast,if_pos (by rw [ho.1,hf]; rfl)]
 ·have hlen:(fixd k).1.Sectors.length=8+8*k:=by rw [hf]; simp only; rw [Fu,ho.2,Fu]; simp [newDisk,Nat.mul_comm]
  refine ⟨h,?_,?_,hlen,rfl,?_,by simp [log1]; omega,rfl,rfl,rfl,⟨by simp [log1],by simp [log1]⟩,?_,fun a _=>rfl⟩
  ·simp only; rw [hf]; exact Wx (A24 h) _ _
  ·simp only; rw [hf]; rfl
  ·intro j s hs
   simp only [log1] at hs
   cases j with
   | zero =>
    simp only [List.getElem?_cons_zero,qS] at hs
    subst hs
    have:=Qk
    refine ⟨rfl,rfl,by simp only; omega,by simp only; omega⟩
   | succ j=>simp at hs
  ·intro i x hx
   have:C2 { log1 k with Disk:=(fixd k).1,Stamp:=1 }=[]:=rfl
   rw [this] at hx
   simp at hx
theorem RecD.rs {r:TRec} (h:RecD r):RecS r:=⟨by have:=h.user; omega,by have:=h.name; omega,by have:=h.text; omega⟩
theorem A95 {Q:Nat→TLog→Prop} (q0:∀ (k:Nat) (g:TLog),5≤k∧k≤8→fmt (k:Int)=(g,true)→W k (first8 k) g→Q k g) (qs:∀ (k:Nat) (g:TLog) (x:TItem),W k (first8 k) g→(C2 g).length≤33→Q k g→x.Seq=g.NextSeq→RecD x.Rec→Q k (appS k g x 1).2)
  {b:List Int} {i0 h0:Int} (hi0:IOk b i0):Dr b (Ax ⟨b,i0,h0⟩) fun g=>∃ n,(5≤n∧n≤8)∧W n (first8 n) g∧(C2 g).length≤33∧Q n g:=by
 unfold Ax
 refine Dr.bind (Bv hi0 (by omega) (by omega)) fun x i h hx hi=>?_
 obtain ⟨k,hk⟩:∃ k:Nat,w64 (5+x)=(k:Int):=⟨(5+x).toNat,by rw [C1 (by omega) (by omega)]; omega⟩
 have hk':5≤k∧k≤8:=by rw [C1 (by omega) (by omega)] at hk; omega
 obtain ⟨g0,e0,hw0,hit0⟩:=A9k (k:=k) (by omega)
 simp only
 rw [hk,A7p,e0,ob]
 have key:∃ r,iter (V4 ⟨b,i0,h0⟩) (0,i,h,g0.Segs,g0.NextGen,g0.NextSeq,g0.Stamp,g0.NextValid,g0.Disk.Sectors,g0.Disk.Cache,g0.Used)=some r∧(IOk b r.1∧W k (first8 k) { Disk:={ Sectors:=r.2.2.2.2.2.2.2.1,Cache:=r.2.2.2.2.2.2.2.2.1 },Segs:=r.2.2.1,Used:=r.2.2.2.2.2.2.2.2.2,NextGen:=r.2.2.2.1,NextSeq:=r.2.2.2.2.1,Stamp:=r.2.2.2.2.2.1,NextValid:=r.2.2.2.2.2.2.1 }∧(C2 { Disk:={ Sectors:=r.2.2.2.2.2.2.2.1,Cache:=r.2.2.2.2.2.2.2.2.1 },Segs:=r.2.2.1,Used:=r.2.2.2.2.2.2.2.2.2,NextGen:=r.2.2.2.1,NextSeq:=r.2.2.2.2.1,Stamp:=r.2.2.2.2.2.1,NextValid:=r.2.2.2.2.2.2.1 }).length≤33∧Q k { Disk:={ Sectors:=r.2.2.2.2.2.2.2.1,Cache:=r.2.2.2.2.2.2.2.2.1 },Segs:=r.2.2.1,Used:=r.2.2.2.2.2.2.2.2.2,NextGen:=r.2.2.2.1,NextSeq:=r.2.2.2.2.1,Stamp:=r.2.2.2.2.2.1,NextValid:=r.2.2.2.2.2.2.1 }):=by
  refine A37 (fun s:Int×Int×Int×Int×Int×Int×Int×Int×(List (List UInt8))×(List TWrite)×(List TSeg)=>(0≤s.1∧s.1≤33)∧IOk b s.2.1∧∃ g:TLog,s.2.2.2=(g.Segs,g.NextGen,g.NextSeq,g.Stamp,g.NextValid,g.Disk.Sectors,g.Disk.Cache,g.Used)∧W k (first8 k) g∧((C2 g).length:Int)≤s.1∧Q k g) (fun s=>(34 - s.1).toNat) _ ?_ _ ⟨⟨by simp,by simp⟩,hi,g0,rfl,hw0,by rw [hit0]; simp,q0 k g0 hk' e0 hw0⟩
  rintro ⟨c,i,h',s⟩ ⟨⟨q0',q1⟩,hi,g,hs,hw,hc,hq⟩
  simp only at q0' q1 hi hs hc
  subst hs
  unfold V4
  obtain ⟨n,i1,h1',e,hn,hi1⟩:=Bv (h:=h') hi (n:=34) (by omega) (by omega)
  simp only
  rw [e,ob]
  by_cases hk:c<n
  ·left
   rw [if_pos (by simpa using hk)]
   obtain ⟨r,i2,h2',e2,hr,hi2⟩:=A8c (h:=h1') hi1
   simp only
   rw [e2,ob]
   show ∃ s',(T4 g { Seq:=g.NextSeq,Rec:=r }).bind _=_∧_
   rw [A1b hw (by omega) rfl,ob,if_pos rfl]
   have hok:=(Kx hr.ok).1
   have hseq:=hw.seq
   show ∃ s',(J7 g { Seq:=g.NextSeq,Rec:=r } 1).bind _=_∧_
   rw [Vr hw (by omega) (by simp only; omega) (RecD.rs hr) (by simp only; have:=hr.valid; omega) (by simp only; omega) (by omega),ob]
   have hA:=hw.appS (x:={ Seq:=g.NextSeq,Rec:=r }) rfl hr (keep:=1) (by omega)
   refine ⟨_,rfl,⟨⟨?_,?_⟩,hi2,(appS k g { Seq:=g.NextSeq,Rec:=r } 1).2,rfl,hA.1,?_,qs k g _ hw (by omega) hq rfl hr⟩,?_⟩
   ·simp only; rw [C1 (by omega) (by omega)]; omega
   ·simp only; rw [C1 (by omega) (by omega)]; omega
   ·simp only; rw [C1 (by omega) (by omega)]; have:=hA.2; omega
   ·simp only; rw [C1 (by omega) (by omega)]; omega
  ·right
   rw [if_neg (by simpa using hk)]
   exact ⟨_,rfl,hi1,hw,by show (C2 g).length≤33; omega,hq⟩
 obtain ⟨r,e,hi1,hw,hl,hq⟩:=key
 have e':iter (V4 ⟨b,i0,h0⟩) (0,i,h,g0.Segs,g0.NextGen,g0.NextSeq,g0.Stamp,g0.NextValid,g0.Disk.Sectors,g0.Disk.Cache,g0.Used)=some r:=e
 have fin:Dr b (some (({ Disk:={ Sectors:=r.2.2.2.2.2.2.2.1,Cache:=r.2.2.2.2.2.2.2.2.1 },Segs:=r.2.2.1,Used:=r.2.2.2.2.2.2.2.2.2,NextGen:=r.2.2.2.1,NextSeq:=r.2.2.2.2.1,Stamp:=r.2.2.2.2.2.1,NextValid:=r.2.2.2.2.2.2.1 }:TLog),({ mB:=b,mI:=r.1,mH:=r.2.1 }:TL01Cur))) (fun g=>∃ n,(5≤n∧n≤8)∧W n (first8 n) g∧(C2 g).length≤33∧Q n g):=Dr.ret hi1 ⟨k,hk',hw,hl,hq⟩
 refine (show Dr b (Option.bind _ _) _ from ?_)
 rw [e',ob]
 exact fin
theorem A9m {A B:List UInt8} {z:Int} (h:0≤z∧z≤1000000000):rvR (rv (A++(vt z++B)) A.length)=(z,((A++vt z).length:Int),true):=by
 obtain ⟨n,rfl⟩:∃ n:Nat,z=n:=⟨z.toNat,by omega⟩
 rw [A3a (n:=n) (r:=B) (by rw [List.drop_left]) (by omega)]
 simp [rvR]
theorem A3o {s:List UInt8} (hs:s.length≤8388608) (a:Nat) (bad:Bool):J1 { mText:=s,mAt:=(a:Int),mBad:=bad }=some (if bad then (0,{ mText:=s,mAt:=(a:Int),mBad:=true }) else match rv s a with | some x=>((x.1:Int),{ mText:=s,mAt:=(x.2:Int),mBad:=false }) | none=>(0,{ mText:=s,mAt:=(a:Int),mBad:=true })):=by
 unfold J1
 dsimp only
 rw [Qj (t:=s) (by omega) a,ob]
 cases bad with
 | true=>rfl
 | false =>
  cases rv s a with
  | none=>rfl
  | some x=>rfl
theorem Lq {s:List UInt8} (hs:s.length≤8388608) (a:Nat) (bad:Bool):∃ (n:Int) (b:Nat) (bad':Bool),J1 { mText:=s,mAt:=(a:Int),mBad:=bad }=some (n,{ mText:=s,mAt:=(b:Int),mBad:=bad' }):=by
 rw [A3o hs]
 cases bad with
 | true=>exact ⟨0,a,true,rfl⟩
 | false =>
  cases rv s a with
  | none=>exact ⟨0,a,true,rfl⟩
  | some x=>exact ⟨x.1,x.2,false,rfl⟩
theorem A5n {A B:List UInt8} {z:Int} (hs:(A++(vt z++B)).length≤8388608) (h:0≤z∧z≤1000000000):J1 { mText:=A++(vt z++B),mAt:=(A.length:Int),mBad:=false }=some (z,{ mText:=A++(vt z++B),mAt:=((A++vt z).length:Int),mBad:=false }):=by
 obtain ⟨n,rfl⟩:∃ n:Nat,z=n:=⟨z.toNat,by omega⟩
 rw [A3o hs,A3a (n:=n) (r:=B) (by rw [List.drop_left]) (by omega)]
 simp
theorem Ay {ρ:Type} {n:Nat} {step:Int→Option (Int ⊕ (ρ ⊕ Unit))} (hn:n≤1048576) (h1:∀ i:Nat,i<n→step (i:Int)=some (.inl ((i+1:Nat):Int))) (h2:step (n:Int)=some (.inr (.inr ()))):iter step 0=some (.inr ()):=by
 exact J8 (step:=step) (fun i=>(i:Int)) n (fun i hi=>h1 i hi) h2
theorem A07 {l:List TItem} (h:l.length≤1048576):Z7 l l=some true:=by
 unfold Z7
 rw [if_neg (by simp),Ay (n:=l.length) h]
 ·rfl
 ·intro i hi
  unfold Ap
  simp only [dlt hi,if_true,at?_nat hi,ob,C5 (show i<9223372036854775807 by omega),beq_self_eq_true,Bool.and_self,Bool.not_true,Bool.false_eq_true,if_false]
 ·unfold Ap; simp
theorem A9a {b:List Int} (h:¬ (b.length:Int)>1048576):Dy b=some false:=by unfold Dy; simp; omega
theorem A8h {b:List Int} (h:(b.length:Int)>1048576):Dy b=some true:=by unfold Dy; simp; omega
theorem A2o {d:TDisk} (h:E1 d=true) (f:Nat):∀ m,f+m≤d.Sectors.length→(secT d f m).length=32*m
 | 0,_=>rfl
 | m+1,hm=>by
  have h1:=A2o h f m (by omega)
  have h2:=Hn h (a:=f+m) (by omega)
  rw [secT,List.length_append]; omega
theorem A35 {d:TDisk} (h:E1 d=true) (f:Nat):∀ m,f+m≤d.Sectors.length→∀ j,j<32*m→(secT d f m)[j]?=(rsec d (f+j / 32))[j%32]?
 | 0,_,j,hj=>by omega
 | m+1,hm,j,hj=>by
  have h1:=A2o h f m (by omega)
  rw [secT]
  by_cases c:j<32*m
  ·rw [List.getElem?_append_left (by omega)]
   exact A35 h f m (by omega) j c
  ·rw [List.getElem?_append_right (by omega),h1,show j / 32=m by omega,show j%32=j - 32*m by omega]
theorem A72 {d:TDisk} (h:E1 d=true) {b:Nat} {T:List UInt8} {a q:Nat} (ha:a<d.Sectors.length) (hq:q<32):(rsec (poke d b T) a)[q]?=if b≤32*a+q∧32*a+q<b+T.length then T[32*a+q - b]? else (rsec d a)[q]?:=by
 have h32:=Hn h ha
 rw [A3t ha,List.getElem?_map,List.getElem?_range hq,Option.map_some]
 split
 ·rw [List.getD_eq_getElem?_getD,qG (by omega)]; rfl
 ·rw [List.getD_eq_getElem?_getD,qG (by omega)]; rfl
theorem A55 {d:TDisk} {f n:Nat} (h:f+n≤d.Sectors.length):sectorT d f n=(secT d f n,true):=by unfold sectorT; rw [if_pos h]
theorem A4u:∀ n:Nat,n<128→1≤n→ofI (n:Int)≠0:=by decide
theorem A92 {n:Nat} (h:5≤n∧n≤11):E1 (poke (newDisk (8+n*8)) 256 headT)=true:=Wx (A2s h) _ _
def rsA (t:List UInt8) (a:Nat):Option (List UInt8×Nat):=match rv t a with
 | some x=>if x.1≤20000∧x.2+x.1≤t.length then some ((t.drop x.2).take x.1,x.2+x.1) else none
 | none=>none
theorem A5g {t:List UInt8} (ht:t.length≤8388608) (a:Nat):((if !(rvR (rv t a)).2.2 then some true else (if decide ((rvR (rv t a)).1>20000) then some true else (if decide ((rvR (rv t a)).1>(w64 ((t.length:Int) - (rvR (rv t a)).2.1))) then some true else some false))):Option Bool).bind (fun y2=>(if y2 then some (([]:List UInt8),(0:Int),false) else (sub? t (rvR (rv t a)).2.1 (w64 ((rvR (rv t a)).2.1+(rvR (rv t a)).1))).bind fun v3=>some (v3,w64 ((rvR (rv t a)).2.1+(rvR (rv t a)).1),true)))=some (rsR (rsA t a)):=by
 unfold rsA
 cases h:rv t a with
 | none=>rfl
 | some x =>
  obtain ⟨h1,h2,h3⟩:=Pt h
  exact A8p ht h2 h3
theorem Rh {t:List UInt8} (ht:t.length≤8388608) (a:Nat):T0 t (a:Int)=some (rsR (rsA t a)):=by
 unfold T0
 rw [Qj (by omega) a,ob]
 exact A5g ht a
theorem Gq {t:List UInt8} (ht:t.length≤8388608) (a:Nat):K5 t (a:Int)=some (rsR (rsA t a)):=by
 unfold K5
 rw [Gi (by omega) a,ob]
 exact A5g ht a
theorem Lr {t:List UInt8} {a:Nat} {x:List UInt8×Nat} (h:rsA t a=some x):a<x.2∧x.2≤t.length∧x.1.length≤20000:=by
 unfold rsA at h
 split at h
 ·rename_i y hy
  obtain ⟨h1,h2,h3⟩:=Pt hy
  split at h
  ·rename_i hc
   cases h
   refine ⟨by simp only; omega,hc.2,?_⟩
   simp only [List.length_take]
   omega
  ·cases h
 ·cases h
theorem Qv {t:List UInt8} {a:Nat} {x:Nat×Nat} (h:rv t a=some x):t.drop a=vt (x.1:Int)++t.drop x.2:=by
 unfold rv at h
 split at h
 ·rename_i y hy
  split at h
  ·rename_i hc
   cases h
   dsimp only
   rw [hc.2,← List.drop_drop,List.take_append_drop]
  ·cases h
 ·cases h
theorem Xl {t:List UInt8} {a:Nat} {x:List UInt8×Nat} (h:rsA t a=some x):t.drop a=short x.1++t.drop x.2:=by
 unfold rsA at h
 split at h
 ·rename_i y hy
  obtain ⟨h1,h2,h3⟩:=Pt hy
  split at h
  ·rename_i hc
   cases h
   have hl:((t.drop y.2).take y.1).length=y.1:=by simp only [List.length_take,List.length_drop]; omega
   rw [Qv hy]
   unfold short
   dsimp only
   rw [hl,List.append_assoc,← List.drop_drop,List.take_append_drop]
  ·cases h
 ·cases h
theorem A4a {A B s:List UInt8} (h:s.length≤20000):rsA (A++(short s++B)) A.length=some (s,(A++short s).length):=by
 have hs:short s=vt (s.length:Int)++s:=rfl
 unfold rsA
 rw [A3a (n:=s.length) (r:=s++B) (by rw [List.drop_left,hs,List.append_assoc]) (by omega)]
 dsimp only
 have e1:(A++(short s++B)).drop (A.length+(vt (s.length:Int)).length)=s++B:=by
  rw [← List.drop_drop,List.drop_left,hs,List.append_assoc,List.drop_left]
 rw [if_pos ⟨h,by simp [hs]; omega⟩,e1,List.take_left]
 simp [hs,Nat.add_assoc]
def C8 (f:TFrame):List UInt8:=frameT f++sealL (frameT f)
def rfC (t:List UInt8) (a:Nat) (f:TFrame) (n:Nat):Option (TFrame×Nat):=if D5 f=true∧n+4≤t.length∧(t.take (n+4)).drop a=C8 f then some (f,n+4) else none
theorem A2j {t:List UInt8} {a:Nat} {f:TFrame} {n:Nat} (h1:D5 f=true) (h2:n+4≤t.length) (h3:(t.take (n+4)).drop a=C8 f):rfC t a f n=some (f,n+4):=if_pos ⟨h1,h2,h3⟩
theorem Lo {t:List UInt8} {a:Nat} {f:TFrame} {n:Nat} (h:¬ (D5 f=true∧n+4≤t.length∧(t.take (n+4)).drop a=C8 f)):rfC t a f n=none:=if_neg h
theorem sub?_td {t:List UInt8} {a n:Nat} (h1:a≤n) (h2:n≤t.length):sub? t (a:Int) (n:Int)=some ((t.take n).drop a):=by
 unfold sub?
 rw [if_pos (by omega),Int.toNat_natCast,Int.toNat_natCast]
def rf (t:List UInt8) (a:Nat):Option (TFrame×Nat):=match rv t a with
 | none=>none
 | some g=>match rv t g.2 with
  | none=>none
  | some s=>match rsA t s.2 with
   | none=>none
   | some b=>rfC t a { Gen:=(g.1:Int),Seq:=(s.1:Int),Body:=b.1 } b.2
def rfR (o:Option (TFrame×Nat)):TFrame×Int×Bool:=match o with
 | some x=>(x.1,(x.2:Int),true)
 | none=>(frame0,0,false)
theorem Fv:rvR none=(0,0,false):=rfl
theorem Ft (x:Nat×Nat):rvR (some x)=((x.1:Int),(x.2:Int),true):=rfl
theorem Zz:rsR none=([],0,false):=rfl
theorem Li (x:List UInt8×Nat):rsR (some x)=(x.1,(x.2:Int),true):=rfl
theorem A5h {t:List UInt8} (ht:t.length≤8388608) (a:Nat):R9 t (a:Int)=some (rfR (rf t a)):=by
 unfold R9 rf
 rw [Qj (by omega) a,ob]
 cases h1:rv t a with
 | none =>
  rw [Fv]
  dsimp only
  rw [show (0:Int)=((0:Nat):Int) from rfl,Qj (by omega) 0,ob]
  have:∃ n:Nat,(rvR (rv t 0)).2.1=n:=by cases rv t 0 <;> exact ⟨_,rfl⟩
  obtain ⟨n,hn⟩:=this
  rw [hn,Rh ht,ob]
  rfl
 | some g =>
  obtain ⟨b1,b2,b3⟩:=Pt h1
  rw [Ft]
  dsimp only
  rw [Qj (by omega) g.2,ob]
  cases h2:rv t g.2 with
  | none =>
   rw [Fv]
   dsimp only
   rw [show (0:Int)=((0:Nat):Int) from rfl,Rh ht,ob]
   rfl
  | some s =>
   obtain ⟨c1,c2,c3⟩:=Pt h2
   rw [Ft]
   dsimp only
   rw [Rh ht,ob]
   cases h3:rsA t s.2 with
   | none=>rfl
   | some b =>
    obtain ⟨d1,d2,d3⟩:=Lr h3
    rw [Li]
    dsimp only
    have e1:w64 ((t.length:Int) - 4)=(t.length:Int) - 4:=C1 (by omega) (by omega)
    have e2:w64 ((b.2:Int)+4)=((b.2+4:Nat):Int):=by rw [C1 (by omega) (by omega)]; omega
    rw [e1,e2,if_neg (by simp),if_neg (by simp),if_neg (by simp)]
    by_cases k1:b.2+4≤t.length
    ·rw [if_neg (by simp; omega),if_neg (by simp),ob,if_neg (by simp),Cl,ob]
     unfold D7
     by_cases k2:D5 { Gen:=(g.1:Int),Seq:=(s.1:Int),Body:=b.1 }=true
     ·rw [if_pos k2,if_neg (by simp)]
      rw [sub?_td (by omega) k1,ob]
      by_cases k3:(t.take (b.2+4)).drop a=C8 { Gen:=(g.1:Int),Seq:=(s.1:Int),Body:=b.1 }
      ·rw [A2j k2 k1 k3,if_neg (by rw [k3]; simp [C8]),ob,if_neg (by simp)]
       rfl
      ·rw [Lo (fun h=>k3 h.2.2),if_pos (by simp only [Bool.not_eq_true',beq_eq_false_iff_ne,ne_eq]; exact fun h=>k3 h.symm),ob,if_pos rfl]
       rfl
     ·rw [if_neg k2,Lo (fun h=>k2 h.1),if_pos (by simp),ob,if_pos rfl]
      rfl
    ·rw [if_pos (by simp; omega),ob,if_pos rfl,Lo (fun h=>k1 h.2.1)]
     rfl
theorem A5d {t:List UInt8} (ht:t.length≤8388608) (a:Nat):R8 t (a:Int)=some (rfR (rf t a)):=by
 unfold R8 rf
 rw [Gi (by omega) a,ob]
 cases h1:rv t a with
 | none =>
  rw [Fv]
  dsimp only
  rw [show (0:Int)=((0:Nat):Int) from rfl,Gi (by omega) 0,ob]
  have:∃ n:Nat,(rvR (rv t 0)).2.1=n:=by cases rv t 0 <;> exact ⟨_,rfl⟩
  obtain ⟨n,hn⟩:=this
  rw [hn,Gq ht,ob]
  rfl
 | some g =>
  obtain ⟨b1,b2,b3⟩:=Pt h1
  rw [Ft]
  dsimp only
  rw [Gi (by omega) g.2,ob]
  cases h2:rv t g.2 with
  | none =>
   rw [Fv]
   dsimp only
   rw [show (0:Int)=((0:Nat):Int) from rfl,Gq ht,ob]
   rfl
  | some s =>
   obtain ⟨c1,c2,c3⟩:=Pt h2
   rw [Ft]
   dsimp only
   rw [Gq ht,ob]
   cases h3:rsA t s.2 with
   | none=>rfl
   | some b =>
    obtain ⟨d1,d2,d3⟩:=Lr h3
    rw [Li]
    dsimp only
    have e1:w64 ((t.length:Int) - (b.2:Int))=(t.length:Int) - b.2:=C1 (by omega) (by omega)
    have e2:w64 ((b.2:Int)+4)=((b.2+4:Nat):Int):=by rw [C1 (by omega) (by omega)]; omega
    rw [e1,e2,if_neg (by simp),if_neg (by simp),if_neg (by simp),Gg,ob]
    by_cases k2:D5 { Gen:=(g.1:Int),Seq:=(s.1:Int),Body:=b.1 }=true
    ·rw [if_pos k2]
     by_cases k1:b.2+4≤t.length
     ·rw [if_neg (by simp; omega),ob,if_neg (by simp),Ex,ob]
      unfold D7
      rw [if_pos k2,sub?_td (by omega) k1,ob]
      by_cases k3:(t.take (b.2+4)).drop a=C8 { Gen:=(g.1:Int),Seq:=(s.1:Int),Body:=b.1 }
      ·rw [A2j k2 k1 k3,if_neg (by rw [k3]; simp [C8])]
       rfl
      ·rw [Lo (fun h=>k3 h.2.2),if_pos (by simp only [Bool.not_eq_true',beq_eq_false_iff_ne,ne_eq]; exact k3)]
       rfl
     ·rw [if_pos (by simp; omega),ob,if_pos rfl,Lo (fun h=>k1 h.2.1)]
      rfl
    ·rw [if_neg k2,ob,if_pos rfl,Lo (fun h=>k2 h.1)]
     rfl
theorem A54 (n:Int):1≤(vt n).length:=by
 unfold vt
 split
 ·unfold vtl
  split <;> simp
 ·simp
theorem Tt {t:List UInt8} {a:Nat} {x:TFrame×Nat} (h:rf t a=some x):a+8≤x.2∧x.2≤t.length∧D5 x.1=true:=by
 unfold rf at h
 split at h
 ·cases h
 rename_i g hg
 split at h
 ·cases h
 rename_i s hs
 split at h
 ·cases h
 rename_i b hb
 unfold rfC at h
 split at h
 ·rename_i hc
  obtain ⟨h1,h2,h3⟩:=hc
  cases h
  refine ⟨?_,h2,h1⟩
  have hl:=congrArg List.length h3
  rw [List.length_drop,List.length_take] at hl
  have hb2:=V2 h1
  have p1:=A54 (g.1:Int)
  have p2:=A54 (s.1:Int)
  have p3:=A54 ((b.1.length:Nat):Int)
  unfold C8 frameT at hl
  simp only [List.length_append,Eb] at hl
  dsimp only at hb2 ⊢
  omega
 ·cases h
def scanN (t:List UInt8) (gen:Int):Nat→Nat→List TFrame→List TFrame×Nat
 | 0,a,l=>(l,a)
 | n+1,a,l=>match rf t a with
  | some x=>if x.1.Gen=gen then scanN t gen n x.2 (l++[x.1]) else (l,a)
  | none=>(l,a)
theorem A96 {t:List UInt8} {a:Nat} (h:t.length<a):rf t a=none:=by
 unfold rf
 rw [A1s h]
theorem Ty {t:List UInt8} (ht:t.length≤8388608) {gen:Int} {step:Int×List TFrame→Option ((Int×List TFrame) ⊕ ((List TFrame×Int) ⊕ Empty))}
  (h1:∀ (a:Nat) (l:List TFrame),step ((a:Int),l)=match rf t a with
   | some x=>if x.1.Gen=gen then (app? 32 l [x.1]).bind fun v=>some (.inl ((x.2:Int),v)) else some (.inr (.inl (l,(a:Int))))
   | none=>some (.inr (.inl (l,(a:Int))))) :
  ∀ (n a:Nat) (l:List TFrame),t.length<a+n→8*l.length≤a→iter step ((a:Int),l)=some (.inl ((scanN t gen n a l).1,((scanN t gen n a l).2:Int)))
 | 0,a,l,hn,_=>by
  refine D1 ?_
  rw [h1,A96 (by omega)]; rfl
 | n+1,a,l,hn,hl=>by
  rw [scanN]
  cases hr:rf t a with
  | none =>
   refine D1 ?_
   rw [h1,hr]
  | some x =>
   obtain ⟨b1,b2,b3⟩:=Tt hr
   dsimp only
   by_cases hg:x.1.Gen=gen
   ·rw [if_pos hg,K1 (s':=((x.2:Int),l++[x.1]))]
    ·exact Ty ht h1 n x.2 _ (by omega) (by simp; omega)
    ·rw [h1,hr]
     dsimp only
     rw [if_pos hg,app?_ok (by simp; omega) (by simp; omega)]; rfl
   ·rw [if_neg hg]
    refine D1 ?_
    rw [h1,hr]
    dsimp only
    rw [if_neg hg]
theorem Lw {t:List UInt8} {gen:Int}:∀ (n a:Nat) (l:List TFrame),8*l.length≤a→a≤t.length→8*(scanN t gen n a l).1.length≤t.length∧(scanN t gen n a l).2≤t.length∧l.length≤(scanN t gen n a l).1.length
 | 0,a,l,h,h2=>by simp only [scanN]; omega
 | n+1,a,l,h,h2=>by
  rw [scanN]
  cases hr:rf t a with
  | none=>dsimp only; omega
  | some x =>
   obtain ⟨b1,b2,b3⟩:=Tt hr
   dsimp only
   by_cases hg:x.1.Gen=gen
   ·rw [if_pos hg]
    have:=Lw (t:=t) (gen:=gen) n x.2 (l++[x.1]) (by simp; omega) b2
    simp at this
    omega
   ·rw [if_neg hg]; dsimp only; omega
theorem A3k {t:List UInt8} {gen:Int}:∀ (n a:Nat) (l:List TFrame),(∀ f∈l,D5 f=true)→∀ f∈(scanN t gen n a l).1,D5 f=true
 | 0,a,l,h=>h
 | n+1,a,l,h=>by
  rw [scanN]
  cases hr:rf t a with
  | none=>exact h
  | some x =>
   dsimp only
   by_cases hg:x.1.Gen=gen
   ·rw [if_pos hg]
    refine A3k n _ _ ?_
    intro f hf
    rcases List.mem_append.1 hf with hf | hf
    ·exact h f hf
    ·rw [List.mem_singleton] at hf; subst hf; exact (Tt hr).2.2
   ·rw [if_neg hg]; exact h
def scan (t:List UInt8) (gen:Int):List TFrame×Nat:=scanN t gen (t.length+1) 0 []
theorem A6m {t:List UInt8} (ht:t.length≤8388608) (gen:Int):V8 t gen=some ((scan t gen).1,((scan t gen).2:Int)):=by
 unfold V8
 have:=Ty (t:=t) ht (gen:=gen) (step:=W4 t gen) ?_ (t.length+1) 0 [] (by omega) (by simp)
 ·rw [show ((0:Nat):Int)=0 from rfl] at this
  rw [this]; rfl
 ·intro a l
  unfold W4
  rw [A5h ht,ob]
  cases rf t a with
  | none=>rfl
  | some x =>
   simp only [rfR]
   by_cases hg:x.1.Gen=gen
   ·rw [if_pos hg]
    simp [hg]
   ·rw [if_neg hg]
    simp [hg]
theorem A5s {t:List UInt8} (ht:t.length≤8388608) (gen:Int):V6 t gen=some ((scan t gen).1,((scan t gen).2:Int)):=by
 unfold V6
 have:=Ty (t:=t) ht (gen:=gen) (step:=W5 t gen) ?_ (t.length+1) 0 [] (by omega) (by simp)
 ·rw [show ((0:Nat):Int)=0 from rfl] at this
  rw [this]; rfl
 ·intro a l
  unfold W5
  rw [A5d ht,ob]
  cases rf t a with
  | none=>rfl
  | some x =>
   simp only [rfR]
   by_cases hg:x.1.Gen=gen
   ·rw [if_pos hg]
    simp [hg]
   ·rw [if_neg hg]
    simp [hg]
def segT (d:TDisk) (no:Int):List UInt8:=if inR no 0 10 then (sectorT d (8+8*no.toNat) 8).1 else []
theorem Kv {d:TDisk} (h:DkS d) (no:Int):(segT d no).length≤8388608:=by
 unfold segT
 split
 ·unfold sectorT
  split
  ·have:=Qu h (8+8*no.toNat) 8; dsimp only; omega
  ·simp
 ·simp
theorem A5f {no:Int} {k:Nat} (h:inR no 0 k=true):∃ n:Nat,no=n∧n≤k:=by
 unfold inR at h
 simp only [Bool.and_eq_true,decide_eq_true_eq] at h
 exact ⟨no.toNat,by omega,by omega⟩
theorem A1o {d:TDisk} (h:DkS d) (no:Int):Ac d no=some (segT d no):=by
 unfold Ac Q3 segT
 rw [K6,ob]
 cases hr:inR no 0 10 with
 | false=>rfl
 | true =>
  obtain ⟨n,rfl,hn⟩:=A5f (k:=10) hr
  have e1:w64 ((n:Int)*8)=(n:Int)*8:=C1 (by omega) (by omega)
  have e2:w64 (8+(n:Int)*8)=((8+8*n:Nat):Int):=by rw [C1 (by omega) (by omega)]; omega
  rw [if_pos rfl,ob,if_pos rfl,e1,e2,ob]
  have:=Vz h (f:=8+8*n) (n:=8) (by omega) (by omega) (by omega)
  rw [show ((8:Nat):Int)=8 from rfl] at this
  rw [this,ob,if_pos rfl,Int.toNat_natCast]
theorem A17 {d:TDisk} (h:DkS d) (no:Int):Y4 d no=some (segT d no):=by
 unfold Y4 U5 segT
 rw [W0,ob]
 cases hr:inR no 0 10 with
 | false=>rfl
 | true =>
  obtain ⟨n,rfl,hn⟩:=A5f (k:=10) hr
  have e1:w64 ((n:Int)*8)=(n:Int)*8:=C1 (by omega) (by omega)
  have e2:w64 (8+(n:Int)*8)=((8+8*n:Nat):Int):=by rw [C1 (by omega) (by omega)]; omega
  rw [if_pos rfl,ob,if_pos rfl,e1,e2,ob]
  have:=Wq h (f:=8+8*n) (n:=8) (by omega) (by omega) (by omega)
  rw [show ((8:Nat):Int)=8 from rfl] at this
  rw [this,ob,if_pos rfl,Int.toNat_natCast]
def segGen (t:List UInt8):Int:=match rf t 0 with
 | some x=>if x.1.Body=[115,101,103] then x.1.Gen else 0
 | none=>0
theorem Vl {d:TDisk} (h:DkS d) (no:Int):Be d no=some (segGen (segT d no)):=by
 unfold Be segGen
 rw [A1o h,ob]
 have:=A5h (Kv h no) 0
 rw [show ((0:Nat):Int)=0 from rfl] at this
 rw [this,ob]
 cases rf (segT d no) 0 with
 | none=>rfl
 | some x =>
  simp only [rfR]
  by_cases hb:x.1.Body=[115,101,103]
  ·rw [if_pos hb]; simp [hb]
  ·rw [if_neg hb]; simp [hb]
theorem Vv {d:TDisk} (h:DkS d) (no:Int):Ba d no=some (segGen (segT d no)):=by
 unfold Ba segGen
 rw [A17 h,ob]
 have:=A5d (Kv h no) 0
 rw [show ((0:Nat):Int)=0 from rfl] at this
 rw [this,ob]
 cases rf (segT d no) 0 with
 | none=>simp [rfR,frame0]
 | some x =>
  simp only [rfR]
  by_cases hb:x.1.Body=[115,101,103]
  ·rw [if_pos hb]; simp [hb]
  ·rw [if_neg hb]; simp [hb]
def segFr (t:List UInt8):List TFrame×Nat:=if segGen t=0 then ([],0) else ((scan t (segGen t)).1.drop 1,(scan t (segGen t)).2)
theorem Zs {t:List UInt8} (h:segGen t≠0):1≤(scan t (segGen t)).1.length:=by
 have key:∃ x,rf t 0=some x∧x.1.Gen=segGen t:=by
  unfold segGen at h ⊢
  cases hr:rf t 0 with
  | none=>rw [hr] at h; exact absurd rfl h
  | some x =>
   rw [hr] at h
   dsimp only at h ⊢
   by_cases hb:x.1.Body=[115,101,103]
   ·exact ⟨x,rfl,by rw [if_pos hb]⟩
   ·rw [if_neg hb] at h; exact absurd rfl h
 obtain ⟨x,hr,hg⟩:=key
 unfold scan
 rw [scanN,hr]
 dsimp only
 rw [if_pos hg]
 obtain ⟨b1,b2,_⟩:=Tt hr
 have:=(Lw (t:=t) (gen:=segGen t) t.length x.2 ([]++[x.1]) (by simp; omega) b2).2.2
 simpa using this
theorem A6a {t:List UInt8}:8*(segFr t).1.length≤t.length:=by
 unfold segFr
 split
 ·simp
 ·have:=(Lw (t:=t) (gen:=segGen t) (t.length+1) 0 [] (by simp) (by omega)).1
  unfold scan
  simp only [List.length_drop]
  omega
theorem A76 {t:List UInt8}:∀ f∈(segFr t).1,D5 f=true:=by
 intro f hf
 unfold segFr at hf
 split at hf
 ·cases hf
 ·exact A3k _ _ _ (by simp) f (List.mem_of_mem_drop hf)
theorem A56 {d:TDisk} (h:DkS d) (no:Int):X7 d no=some ((segFr (segT d no)).1,((segFr (segT d no)).2:Int)):=by
 have hl:=Kv h no
 unfold X7 segFr
 rw [Vl h,ob]
 by_cases hg:segGen (segT d no)=0
 ·rw [if_pos (by simpa using hg),if_pos hg]; rfl
 ·have h1:=Zs hg
  have h2:=(Lw (t:=segT d no) (gen:=segGen (segT d no)) ((segT d no).length+1) 0 [] (by simp) (by omega)).1
  have h3:8*(scan (segT d no) (segGen (segT d no))).1.length≤(segT d no).length:=h2
  rw [if_neg (by simpa using hg),if_neg hg,A1o h,ob,A6m hl,ob]
  have e:=sub?_tail (l:=(scan (segT d no) (segGen (segT d no))).1) (i:=1) h1
  rw [show ((1:Nat):Int)=1 from rfl] at e
  dsimp only
  rw [e,ob,app?_ok (by simp; omega) (by simp; omega)]
  rfl
theorem A49 {d:TDisk} (h:DkS d) (no:Int):Z1 d no=some ((segFr (segT d no)).1,((segFr (segT d no)).2:Int)):=by
 have hl:=Kv h no
 unfold Z1 segFr
 rw [Vv h,ob]
 by_cases hg:segGen (segT d no)=0
 ·rw [if_pos (by simpa using hg),if_pos hg]; rfl
 ·have h1:=Zs hg
  rw [if_neg (by simpa using hg),if_neg hg,A17 h,ob,A5s hl,ob]
  have e:=sub?_tail (l:=(scan (segT d no) (segGen (segT d no))).1) (i:=1) h1
  rw [show ((1:Nat):Int)=1 from rfl] at e
  dsimp only
  rw [e,ob]
def rec0:TRec:={ Kind:=0,Valid:=0,Uid:=0,Next:=0,Flags:=0,User:=[],Name:=[],Text:=[] }
def goodR (t:List UInt8) (r:TRec):Prop:=recOk r=true∧t=recT r
theorem bt?_cons (c:UInt8) (s:List UInt8):bt? (c::s) 0=some c:=by simp [bt?]
theorem A74 (c:UInt8):ofI (IntKind.u8.wrap (w64 (c.toNat:Int)))=c:=by
 have:=c.toNat_lt
 rw [C1 (by omega) (by omega),Gk]
 have e:(c.toNat:Int)%256=c.toNat:=by omega
 rw [e,Tl]
theorem A0z {s:List UInt8} (hs:s.length≤8388608) (a:Nat) (bad:Bool):E8 { mText:=s,mAt:=(a:Int),mBad:=bad }=some (if bad then ([],{ mText:=s,mAt:=(a:Int),mBad:=true }) else match rsA s a with | some x=>(x.1,{ mText:=s,mAt:=(x.2:Int),mBad:=false }) | none=>([],{ mText:=s,mAt:=(a:Int),mBad:=true })):=by
 unfold E8
 dsimp only
 rw [Rh hs a,ob]
 cases bad with
 | true=>rfl
 | false =>
  cases rsA s a with
  | none=>rfl
  | some x=>rfl
theorem Px {s:List UInt8} (hs:s.length≤8388608) (a:Nat) (bad:Bool):∃ (u:List UInt8) (b:Nat) (bad':Bool),E8 { mText:=s,mAt:=(a:Int),mBad:=bad }=some (u,{ mText:=s,mAt:=(b:Int),mBad:=bad' })∧u.length≤20000:=by
 rw [A0z hs]
 cases bad with
 | true=>exact ⟨[],a,true,rfl,by simp⟩
 | false =>
  cases h:rsA s a with
  | none=>exact ⟨[],a,true,rfl,by simp⟩
  | some x=>exact ⟨x.1,x.2,false,rfl,(Lr h).2.2⟩
theorem A45 {A B u:List UInt8} (hs:(A++(short u++B)).length≤8388608) (h:u.length≤20000):E8 { mText:=A++(short u++B),mAt:=(A.length:Int),mBad:=false }=some (u,{ mText:=A++(short u++B),mAt:=((A++short u).length:Int),mBad:=false }):=by
 rw [A0z hs,A4a h]
 rfl
theorem A5o {t:List UInt8} (ht:t.length≤8388608):∃ q,L6 t=some q∧(q.2=true→goodR t q.1)∧(q.2=false→q.1=rec0):=by
 have fail:∃ q,some (rec0,false)=some q∧(q.2=true→goodR t q.1)∧(q.2=false→q.1=rec0):=⟨_,rfl,by simp,by simp⟩
 unfold L6
 cases t with
 | nil=>exact fail
 | cons c s =>
  rw [if_neg (by simp),bt?_cons,ob]
  obtain ⟨n1,a1,d1,e1⟩:=Lq ht 1 false
  rw [show ((1:Nat):Int)=1 from rfl] at e1
  obtain ⟨n2,a2,d2,e2⟩:=Lq ht a1 d1
  obtain ⟨n3,a3,d3,e3⟩:=Lq ht a2 d2
  obtain ⟨n4,a4,d4,e4⟩:=Lq ht a3 d3
  obtain ⟨u5,a5,d5,e5,l5⟩:=Px ht a4 d4
  obtain ⟨u6,a6,d6,e6,l6⟩:=Px ht a5 d5
  obtain ⟨u7,a7,d7,e7,l7⟩:=Px ht a6 d6
  rw [e1,ob]
  dsimp only
  rw [e2,ob]
  dsimp only
  rw [e3,ob]
  dsimp only
  rw [e4,ob]
  dsimp only
  rw [e5,ob]
  dsimp only
  rw [e6,ob]
  dsimp only
  rw [e7,ob]
  dsimp only
  rw [Jr ⟨by dsimp only; omega,by dsimp only; omega,by dsimp only; omega⟩,ob]
  generalize hr:({ Kind:=w64 (c.toNat:Int),Valid:=n1,Uid:=n2,Next:=n3,Flags:=n4,User:=u5,Name:=u6,Text:=u7 }:TRec)=r
  cases d7 with
  | true=>exact fail
  | false =>
   rw [if_neg (by simp)]
   unfold recText
   by_cases hk:recOk r=true
   ·rw [if_pos hk,if_neg (by simp)]
    by_cases he:recT r=c::s
    ·rw [if_neg (by simp [he]),ob,if_neg (by simp)]
     exact ⟨_,rfl,fun _=>⟨hk,he.symm⟩,fun h=>absurd h (by simp)⟩
    ·rw [if_pos (by simp [he]),ob,if_pos rfl]
     exact fail
   ·rw [if_neg hk,if_pos (by simp),ob,if_pos rfl]
    exact fail
theorem A0y {t:List UInt8} (ht:t.length≤8388608) {r:TRec} (h:goodR t r):L6 t=some (r,true):=by
 obtain ⟨hk,hT⟩:=h
 obtain ⟨⟨v1,v2⟩,⟨u1,u2⟩,⟨n1,n2⟩,⟨f1,f2⟩,k1,k2⟩:=Jn hk
 obtain ⟨l1,l2,l3⟩:=Xm hk
 have rd:∀ {A B:List UInt8} {z:Int},t=A++(vt z++B)→0≤z∧z≤1000000000→J1 { mText:=t,mAt:=(A.length:Int),mBad:=false }=some (z,{ mText:=t,mAt:=((A++vt z).length:Int),mBad:=false }):=by
  intro A B z he hz
  rw [he] at ht ⊢
  exact A5n ht hz
 have rdS:∀ {A B u:List UInt8},t=A++(short u++B)→u.length≤20000→E8 { mText:=t,mAt:=(A.length:Int),mBad:=false }=some (u,{ mText:=t,mAt:=((A++short u).length:Int),mBad:=false }):=by
  intro A B u he hu
  rw [he] at ht ⊢
  exact A45 ht hu
 generalize hkb:[ofI (IntKind.u8.wrap r.Kind)]=kb
 have hT':t=kb++vt r.Valid++vt r.Uid++vt r.Next++vt r.Flags++short r.User++short r.Name++short r.Text:=by rw [hT,← hkb]; rfl
 have e1:=rd (A:=kb) (z:=r.Valid) (B:=vt r.Uid++(vt r.Next++(vt r.Flags++(short r.User++(short r.Name++short r.Text))))) (by rw [hT']; simp) (by omega)
 have e2:=rd (A:=kb++vt r.Valid) (z:=r.Uid) (B:=vt r.Next++(vt r.Flags++(short r.User++(short r.Name++short r.Text)))) (by rw [hT']; simp) (by omega)
 have e3:=rd (A:=kb++vt r.Valid++vt r.Uid) (z:=r.Next) (B:=vt r.Flags++(short r.User++(short r.Name++short r.Text))) (by rw [hT']; simp) (by omega)
 have e4:=rd (A:=kb++vt r.Valid++vt r.Uid++vt r.Next) (z:=r.Flags) (B:=short r.User++(short r.Name++short r.Text)) (by rw [hT']; simp) (by omega)
 have e5:=rdS (A:=kb++vt r.Valid++vt r.Uid++vt r.Next++vt r.Flags) (u:=r.User) (B:=short r.Name++short r.Text) (by rw [hT']; simp) (by omega)
 have e6:=rdS (A:=kb++vt r.Valid++vt r.Uid++vt r.Next++vt r.Flags++short r.User) (u:=r.Name) (B:=short r.Text) (by rw [hT']; simp) (by omega)
 have e7:=rdS (A:=kb++vt r.Valid++vt r.Uid++vt r.Next++vt r.Flags++short r.User++short r.Name) (u:=r.Text) (B:=[]) (by rw [hT']; simp) (by omega)
 have hkl:kb.length=1:=by rw [← hkb]; rfl
 rw [hkl] at e1
 have ht0:t=ofI (IntKind.u8.wrap r.Kind)::t.drop 1:=by rw [hT]; rfl
 have hb:bt? t 0=some (ofI (IntKind.u8.wrap r.Kind)):=by rw [ht0]; exact bt?_cons _ _
 have hkk:w64 ((ofI (IntKind.u8.wrap r.Kind)).toNat:Int)=r.Kind:=by
  have e:IntKind.u8.wrap r.Kind=((r.Kind.toNat:Nat):Int):=by rw [Gk]; omega
  rw [e,Lu (by omega),C1 (by omega) (by omega)]
  omega
 unfold L6
 rw [if_neg (by rw [ht0]; simp),hb,ob,show (1:Int)=((1:Nat):Int) from rfl,e1,ob]
 dsimp only
 rw [e2,ob]
 dsimp only
 rw [e3,ob]
 dsimp only
 rw [e4,ob]
 dsimp only
 rw [e5,ob]
 dsimp only
 rw [e6,ob]
 dsimp only
 rw [e7,ob]
 dsimp only
 rw [hkk]
 have hR:({ Kind:=r.Kind,Valid:=r.Valid,Uid:=r.Uid,Next:=r.Next,Flags:=r.Flags,User:=r.User,Name:=r.Name,Text:=r.Text }:TRec)=r:=rfl
 rw [hR,Jr ⟨by first | omega | (dsimp only; omega),by first | omega | (dsimp only; omega),by first | omega | (dsimp only; omega)⟩,ob]
 unfold recText
 rw [if_pos hk,if_neg (by simp),if_neg (by simp),if_neg (by simp [hT]),ob,if_neg (by simp)]
theorem A6s {t:List UInt8} (ht:t.length≤8388608):∃ q,P0 t=some q∧(q.2=true→goodR t q.1)∧(q.2=false→q.1=rec0):=by
 have fail:∃ q,some (rec0,false)=some q∧(q.2=true→goodR t q.1)∧(q.2=false→q.1=rec0):=⟨_,rfl,by simp,by simp⟩
 unfold P0
 cases ht0:t with
 | nil=>rw [← ht0]; rw [ht0]; exact ⟨_,rfl,by simp,by simp [rec0]⟩
 | cons c s =>
  rw [← ht0]
  rw [if_neg (by rw [ht0]; simp)]
  have hb:bt? t 0=some c:=by rw [ht0]; exact bt?_cons _ _
  have hd:t.drop 1=s:=by rw [ht0]; rfl
  rw [hb,ob,show (1:Int)=((1:Nat):Int) from rfl,Gi (by omega) 1,ob]
  cases h1:rv t 1 with
  | none=>rw [Fv,if_pos (by simp)]; exact fail
  | some x1 =>
   rw [Ft,if_neg (by simp)]
   dsimp only
   rw [Gi (by omega) x1.2,ob]
   cases h2:rv t x1.2 with
   | none=>rw [Fv,if_pos (by simp)]; exact fail
   | some x2 =>
    rw [Ft,if_neg (by simp)]
    dsimp only
    rw [Gi (by omega) x2.2,ob]
    cases h3:rv t x2.2 with
    | none=>rw [Fv,if_pos (by simp)]; exact fail
    | some x3 =>
     rw [Ft,if_neg (by simp)]
     dsimp only
     rw [Gi (by omega) x3.2,ob]
     cases h4:rv t x3.2 with
     | none=>rw [Fv,if_pos (by simp)]; exact fail
     | some x4 =>
      rw [Ft,if_neg (by simp)]
      dsimp only
      rw [Gq ht x4.2,ob]
      cases h5:rsA t x4.2 with
      | none=>rw [Zz,if_pos (by simp)]; exact fail
      | some x5 =>
       rw [Li,if_neg (by simp)]
       dsimp only
       rw [Gq ht x5.2,ob]
       cases h6:rsA t x5.2 with
       | none=>rw [Zz,if_pos (by simp)]; exact fail
       | some x6 =>
        rw [Li,if_neg (by simp)]
        dsimp only
        rw [Gq ht x6.2,ob]
        cases h7:rsA t x6.2 with
        | none=>rw [Zz,if_pos (by simp)]; exact fail
        | some x7 =>
         rw [Li,if_neg (by simp)]
         dsimp only
         have l5:=(Lr h5).2.2
         have l6:=(Lr h6).2.2
         have l7:=(Lr h7).2.2
         generalize hr:({ Kind:=w64 (c.toNat:Int),Valid:=(x1.1:Int),Uid:=(x2.1:Int),Next:=(x3.1:Int),Flags:=(x4.1:Int),User:=x5.1,Name:=x6.1,Text:=x7.1 }:TRec)=r
         by_cases hend:x7.2=t.length
         ·rw [if_neg (by simp [hend]),Kc (by rw [← hr]; exact ⟨by dsimp only; omega,by dsimp only; omega,by dsimp only; omega⟩),ob]
          by_cases hk:recOk r=true
          ·rw [if_pos hk,ob,if_neg (by simp)]
           refine ⟨_,rfl,fun _=>⟨hk,?_⟩,fun h=>absurd h (by simp)⟩
           have d1:=Qv h1
           rw [hd,Qv h2,Qv h3,Qv h4,Xl h5,Xl h6,Xl h7,hend,List.drop_length] at d1
           dsimp only
           rw [ht0,d1,← hr]
           unfold recT
           dsimp only
           rw [A74]
           simp
          ·rw [if_neg hk,ob,if_pos rfl]; exact fail
         ·rw [if_pos (by simp; omega),ob,if_pos rfl]; exact fail
theorem A64 {t:List UInt8} (ht:t.length≤8388608) {r:TRec} (h:goodR t r):P0 t=some (r,true):=by
 obtain ⟨hk,hT⟩:=h
 obtain ⟨⟨v1,v2⟩,⟨u1,u2⟩,⟨n1,n2⟩,⟨f1,f2⟩,k1,k2⟩:=Jn hk
 obtain ⟨l1,l2,l3⟩:=Xm hk
 have rd:∀ {A B:List UInt8} {z:Int},t=A++(vt z++B)→0≤z∧z≤1000000000→J3 t (A.length:Int)=some (z,((A++vt z).length:Int),true):=by
  intro A B z he hz
  rw [Gi (by omega),he,A9m hz]
 have rdS:∀ {A B u:List UInt8},t=A++(short u++B)→u.length≤20000→K5 t (A.length:Int)=some (u,((A++short u).length:Int),true):=by
  intro A B u he hu
  rw [Gq ht,he,A4a hu]; rfl
 generalize hkb:[ofI (IntKind.u8.wrap r.Kind)]=kb
 have hT':t=kb++vt r.Valid++vt r.Uid++vt r.Next++vt r.Flags++short r.User++short r.Name++short r.Text:=by rw [hT,← hkb]; rfl
 have e1:=rd (A:=kb) (z:=r.Valid) (B:=vt r.Uid++(vt r.Next++(vt r.Flags++(short r.User++(short r.Name++short r.Text))))) (by rw [hT']; simp) (by omega)
 have e2:=rd (A:=kb++vt r.Valid) (z:=r.Uid) (B:=vt r.Next++(vt r.Flags++(short r.User++(short r.Name++short r.Text)))) (by rw [hT']; simp) (by omega)
 have e3:=rd (A:=kb++vt r.Valid++vt r.Uid) (z:=r.Next) (B:=vt r.Flags++(short r.User++(short r.Name++short r.Text))) (by rw [hT']; simp) (by omega)
 have e4:=rd (A:=kb++vt r.Valid++vt r.Uid++vt r.Next) (z:=r.Flags) (B:=short r.User++(short r.Name++short r.Text)) (by rw [hT']; simp) (by omega)
 have e5:=rdS (A:=kb++vt r.Valid++vt r.Uid++vt r.Next++vt r.Flags) (u:=r.User) (B:=short r.Name++short r.Text) (by rw [hT']; simp) (by omega)
 have e6:=rdS (A:=kb++vt r.Valid++vt r.Uid++vt r.Next++vt r.Flags++short r.User) (u:=r.Name) (B:=short r.Text) (by rw [hT']; simp) (by omega)
 have e7:=rdS (A:=kb++vt r.Valid++vt r.Uid++vt r.Next++vt r.Flags++short r.User++short r.Name) (u:=r.Text) (B:=[]) (by rw [hT']; simp) (by omega)
 have hkl:kb.length=1:=by rw [← hkb]; rfl
 rw [hkl] at e1
 have ht0:t=ofI (IntKind.u8.wrap r.Kind)::t.drop 1:=by rw [hT]; rfl
 have hb:bt? t 0=some (ofI (IntKind.u8.wrap r.Kind)):=by rw [ht0]; exact bt?_cons _ _
 have hkk:w64 ((ofI (IntKind.u8.wrap r.Kind)).toNat:Int)=r.Kind:=by
  have e:IntKind.u8.wrap r.Kind=((r.Kind.toNat:Nat):Int):=by rw [Gk]; omega
  rw [e,Lu (by omega),C1 (by omega) (by omega)]
  omega
 unfold P0
 rw [if_neg (by rw [ht0]; simp),hb,ob,show (1:Int)=((1:Nat):Int) from rfl,e1,ob,if_neg (by simp)]
 dsimp only
 rw [e2,ob,if_neg (by simp)]
 dsimp only
 rw [e3,ob,if_neg (by simp)]
 dsimp only
 rw [e4,ob,if_neg (by simp)]
 dsimp only
 rw [e5,ob,if_neg (by simp)]
 dsimp only
 rw [e6,ob,if_neg (by simp)]
 dsimp only
 rw [e7,ob,if_neg (by simp)]
 dsimp only
 rw [hkk]
 have hR:({ Kind:=r.Kind,Valid:=r.Valid,Uid:=r.Uid,Next:=r.Next,Flags:=r.Flags,User:=r.User,Name:=r.Name,Text:=r.Text }:TRec)=r:=rfl
 have hend:(kb++vt r.Valid++vt r.Uid++vt r.Next++vt r.Flags++short r.User++short r.Name++short r.Text).length=t.length:=by rw [← hT']
 rw [hR,hend,if_neg (by simp),Kc ⟨by first | omega | (dsimp only; omega),by first | omega | (dsimp only; omega),by first | omega | (dsimp only; omega)⟩,ob,if_pos hk,ob,if_neg (by simp)]
noncomputable def readR (t:List UInt8):TRec×Bool:=(L6 t).getD (rec0,false)
theorem A02 {t:List UInt8} (ht:t.length≤8388608):L6 t=some (readR t)∧P0 t=some (readR t)∧((readR t).2=true→goodR t (readR t).1):=by
 obtain ⟨⟨sc,sb⟩,k1,k2,k3⟩:=A5o ht
 have e:readR t=(sc,sb):=by unfold readR; rw [k1]; rfl
 obtain ⟨⟨rc,rb⟩,h1,h2,h3⟩:=A6s ht
 refine ⟨by rw [e,k1],?_,by rw [e]; exact k2⟩
 rw [e]
 cases rb with
 | true =>
  have:=A0y ht (h2 rfl)
  rw [k1] at this; cases this
  exact h1
 | false =>
  cases sb with
  | true=>exact A64 ht (k2 rfl)
  | false =>
   simp only at h3 k3
   rw [h1,h3 trivial,k3 trivial]
def itemZ:TItem:={ Seq:=0,Rec:=rec0 }
noncomputable def frameItem (f:TFrame):TItem×Bool:=if (readR f.Body).2=true∧D5 f=true then ({ Seq:=f.Seq,Rec:=(readR f.Body).1 },true) else (itemZ,false)
theorem Xk {f:TFrame} (hb:f.Body.length≤8388608):W9 f=some (frameItem f):=by
 unfold W9 frameItem
 rw [(A02 hb).1,ob,Kb,ob]
 cases D5 f <;> cases (readR f.Body).2 <;> simp [itemZ,rec0]
theorem Xq {f:TFrame} (hb:f.Body.length≤8388608):Z2 f=some (frameItem f):=by
 unfold Z2 frameItem
 rw [(A02 hb).2.1,ob,Gg]
 cases D5 f <;> cases (readR f.Body).2 <;> simp [itemZ,rec0]
noncomputable def itI (f:TFrame):List TItem:=if (frameItem f).2 then [(frameItem f).1] else []
theorem A94 (f:TFrame):(itI f).length≤1:=by unfold itI; split <;> simp
noncomputable def segItems (l:List TFrame):List TItem:=l.flatMap itI
theorem Rg:∀ l:List TFrame,(segItems l).length≤l.length
 | []=>by simp [segItems]
 | f::l=>by
  have h1:=A94 f
  have h2:=Rg l
  unfold segItems at h2 ⊢
  rw [List.flatMap_cons,List.length_append,List.length_cons]; omega
theorem A40 {l:List TFrame} (hl:l.length≤1048576) {step:Int×List TItem→Option ((Int×List TItem) ⊕ List TItem)}
  (h1:∀ (i:Nat) (o:List TItem) (hi:i<l.length),step ((i:Int),o)=if (frameItem l[i]).2 then (app? 96 o [(frameItem l[i]).1]).bind fun v=>some (.inl (((i+1:Nat):Int),v)) else some (.inl (((i+1:Nat):Int),o)))
  (h2:∀ o,step ((l.length:Int),o)=some (.inr o)):iter step (0,[])=some (segItems l):=by
 have:=J8 (step:=step) (fun i=>((i:Int),segItems (l.take i))) l.length (r:=segItems l) ?_ ?_
 ·simpa [segItems] using this
 ·intro i hi
  have hs:=Rg (l.take i)
  rw [List.length_take] at hs
  have e:segItems (l.take (i+1))=segItems (l.take i)++itI l[i]:=by
   unfold segItems
   rw [List.take_succ_eq_append_getElem hi,List.flatMap_append]; simp
  rw [h1 i _ hi,e]
  unfold itI
  by_cases c:(frameItem l[i]).2=true
  ·rw [if_pos c,if_pos c,app?_ok (by simp; omega) (by simp; omega)]; rfl
  ·rw [if_neg c,if_neg c,List.append_nil]
 ·rw [h2,List.take_length]
noncomputable def segOf (d:TDisk) (no:Int):TSeg:={ No:=no,Gen:=segGen (segT d no),End:=((segFr (segT d no)).2:Int),Items:=segItems (segFr (segT d no)).1 }
theorem A1d {d:TDisk} (h:DkS d) (no:Int):(segFr (segT d no)).1.length≤1048576:=by
 have h1:=A6a (t:=segT d no)
 have h2:=Kv h no
 omega
theorem A89 {t:List UInt8} {f:TFrame} (hf:f∈(segFr t).1):f.Body.length≤8388608:=by
 have:=(V2 (A76 f hf)).2.2.2
 omega
theorem W2 {f:TFrame} (h:D5 f=true):D7 f=(C8 f,true):=by unfold D7; rw [if_pos h]; rfl
theorem A97 {A B:List UInt8} {f:TFrame} (h:D5 f=true):rf (A++(C8 f++B)) A.length=some (f,(A++C8 f).length):=by
 obtain ⟨⟨g1,g2⟩,⟨s1,s2⟩,b1,b2⟩:=V2 h
 obtain ⟨gn,hg⟩:∃ n:Nat,f.Gen=n:=⟨f.Gen.toNat,by omega⟩
 obtain ⟨sn,hs⟩:∃ n:Nat,f.Seq=n:=⟨f.Seq.toNat,by omega⟩
 have hF:C8 f=vt f.Gen++(vt f.Seq++(short f.Body++sealL (frameT f))):=by
  unfold C8
  generalize sealL (frameT f)=S
  unfold frameT short
  simp only [List.append_assoc]
 unfold rf
 rw [A3a (n:=gn) (r:=vt f.Seq++(short f.Body++sealL (frameT f))++B) (by rw [List.drop_left,hF,← hg]; simp only [List.append_assoc]) (by omega)]
 dsimp only
 have e2:rv (A++(C8 f++B)) (A.length+(vt (gn:Int)).length)=some (sn,A.length+(vt (gn:Int)).length+(vt (sn:Int)).length):=by
  refine A3a (r:=short f.Body++sealL (frameT f)++B) ?_ (by omega)
  rw [← List.drop_drop,List.drop_left,hF,← hg,← hs]
  simp only [List.append_assoc,List.drop_left]
 rw [e2]
 dsimp only
 have e3:rsA (A++(C8 f++B)) (A.length+(vt (gn:Int)).length+(vt (sn:Int)).length)=some (f.Body,A.length+(vt (gn:Int)).length+(vt (sn:Int)).length+(short f.Body).length):=by
  have:=A4a (A:=A++vt f.Gen++vt f.Seq) (B:=sealL (frameT f)++B) (s:=f.Body) (by omega)
  rw [hF]
  simp only [List.append_assoc,List.length_append] at this ⊢
  rw [← hg,← hs,Nat.add_assoc,this]
  congr 2; omega
 rw [e3]
 dsimp only
 have hf:({ Gen:=(gn:Int),Seq:=(sn:Int),Body:=f.Body }:TFrame)=f:=by rw [← hg,← hs]
 have hl:A.length+(vt (gn:Int)).length+(vt (sn:Int)).length+(short f.Body).length+4=(A++C8 f).length:=by
  rw [hF,← hg,← hs]
  simp only [List.length_append,Eb]; omega
 rw [hf,A2j h (by rw [hl]; simp) (by rw [hl,← List.append_assoc,List.take_left,List.drop_left]),hl]
theorem A8y {t:List UInt8} {a:Nat} {x:TFrame×Nat} (h:rf t a=some x):t.drop a=C8 x.1++t.drop x.2:=by
 have hb:=Tt h
 unfold rf at h
 split at h
 ·cases h
 ·split at h
  ·cases h
  ·split at h
   ·cases h
   ·rename_i b hb'
    unfold rfC at h
    split at h
    ·rename_i hc
     cases h
     rw [← hc.2.2]
     rw [← List.take_append_drop (b.2+4 - a) (t.drop a)]
     congr 1
     ·rw [List.drop_take]
     ·rw [List.drop_drop]; congr 1; simp only at hb; omega
    ·cases h
theorem A8x {t:List UInt8} {a:Nat} (hz:∀ b,t[a]?=some b→b=0):rf t a=none:=by
 cases h:rf t a with
 | none=>rfl
 | some x =>
  exfalso
  have hb:=Tt h
  obtain ⟨⟨g1,g2⟩,_⟩:=V2 hb.2.2
  have ht:=A8y h
  have h0:t[a]?=(t.drop a)[0]?:=by rw [List.getElem?_drop]; rfl
  rw [ht] at h0
  have e:∃ c r,vt x.1.Gen=c::r∧c≠0:=by
   unfold vt
   rw [if_pos (by omega)]
   by_cases hs:x.1.Gen.toNat≤127
   ·rw [X4 hs]
    exact ⟨_,_,rfl,A4u _ (by omega) (by omega)⟩
   ·rw [Lz (by omega)]
    refine ⟨_,_,rfl,?_⟩
    have:∀ m:Nat,m<128→ofI ((m+128:Nat):Int)≠0:=by decide
    exact this _ (Nat.mod_lt _ (by omega))
  obtain ⟨c,r,e1,e2⟩:=e
  have hF:C8 x.1=vt x.1.Gen++(vt x.1.Seq++vt x.1.Body.length++x.1.Body++sealL (frameT x.1)):=by
   unfold C8
   generalize sealL (frameT x.1)=S
   unfold frameT
   simp only [List.append_assoc]
  rw [hF,e1] at h0
  exact e2 (hz c (by rw [h0]; rfl))
theorem A1e {gen:Int} {Z:List UInt8} (hz:∀ b,Z[0]?=some b→b=0):∀ (F:List TFrame) (A:List UInt8) (n:Nat) (l:List TFrame),F.length<n→(∀ f∈F,D5 f=true∧f.Gen=gen)→scanN (A++(F.flatMap C8++Z)) gen n A.length l=(l++F,(A++F.flatMap C8).length)
 | [],A,0,l,hn,_=>by simp at hn
 | [],A,n+1,l,hn,_=>by
  rw [scanN,A8x]
  ·simp
  ·intro b hb
   refine hz b ?_
   rw [← hb,List.getElem?_append_right (Nat.le_refl _),Nat.sub_self]; rfl
 | f::F,A,0,l,hn,_=>by simp at hn
 | f::F,A,n+1,l,hn,h=>by
  have hf:=h f List.mem_cons_self
  have e:A++((f::F).flatMap C8++Z)=A++(C8 f++(F.flatMap C8++Z)):=by simp
  rw [e,scanN,A97 hf.1]
  dsimp only
  rw [if_pos hf.2]
  have ih:=A1e hz F (A++C8 f) n (l++[f]) (by simp at hn; omega) (fun g hg=>h g (List.mem_cons_of_mem _ hg))
  rw [List.append_assoc] at ih
  rw [ih]
  simp
def itF (x:TItem) (gen:Int):TFrame:={ Gen:=gen,Seq:=x.Seq,Body:=recT x.Rec }
def segF (s:TSeg):List TFrame:=hdF s.Gen::s.Items.map fun x=>itF x s.Gen
def segB (s:TSeg):List UInt8:=(segF s).flatMap C8
theorem A85 {x:TItem} {gen:Int} (h:(E4 x gen).2=true):(E4 x gen).1=itF x gen∧D5 (itF x gen)=true∧recOk x.Rec=true:=by
 unfold E4 at h ⊢
 split at h
 ·rename_i hc
  rw [if_pos hc]
  simp only [Bool.and_eq_true] at hc
  have hr:recOk x.Rec=true:=by
   have:=hc.1
   unfold recText at this
   split at this
   ·assumption
   ·cases this
  have e:(recText x.Rec).1=recT x.Rec:=by unfold recText; rw [if_pos hr]
  rw [e] at hc
  refine ⟨by simp only; rw [e]; rfl,hc.2,hr⟩
 ·cases h
theorem Qf {x:TItem} {gen:Int} (h:D5 (itF x gen)=true) (hr:recOk x.Rec=true):frameItem (itF x gen)=(x,true):=by
 have hb:=(V2 h).2.2.2
 have e:readR (itF x gen).Body=(x.Rec,true):=by
  have h1:=A0y (t:=recT x.Rec) (r:=x.Rec) (by unfold itF at hb; simp only at hb; omega) ⟨hr,rfl⟩
  unfold readR itF
  rw [h1]; rfl
 unfold frameItem
 rw [e,if_pos ⟨rfl,h⟩]; rfl
theorem A6i {s:TSeg} {t:List UInt8} {Z:List UInt8} (ht:t=segB s++Z) (hz:∀ b,Z[0]?=some b→b=0) (hg:1≤s.Gen∧s.Gen≤1000000000) (hi:∀ x∈s.Items,D5 (itF x s.Gen)=true∧recOk x.Rec=true):segGen t=s.Gen∧segFr t=(s.Items.map fun x=>itF x s.Gen,(segB s).length):=by
 have hh:D5 (hdF s.Gen)=true:=by unfold D5 hdF inR; simp; omega
 have e0:t=[]++(C8 (hdF s.Gen)++((s.Items.map fun x=>itF x s.Gen).flatMap C8++Z)):=by
  rw [ht]; unfold segB segF; simp
 have e1:rf t 0=some (hdF s.Gen,([]++C8 (hdF s.Gen)).length):=by
  rw [e0]; exact A97 (A:=[]) hh
 have hG:segGen t=s.Gen:=by
  unfold segGen
  rw [e1]
  simp [hdF]
 have hF:∀ f∈segF s,D5 f=true∧f.Gen=s.Gen:=by
  intro f hf
  rcases List.mem_cons.1 hf with e | hf
  ·rw [e]; exact ⟨hh,rfl⟩
  ·obtain ⟨x,hx,rfl⟩:=List.mem_map.1 hf
   exact ⟨(hi x hx).1,rfl⟩
 have hlen:∀ l:List TFrame,(∀ f∈l,D5 f=true∧f.Gen=s.Gen)→l.length≤(l.flatMap C8).length:=by
  intro l
  induction l with
  | nil=>intro _; simp
  | cons f l ih =>
   intro h
   have:=ih fun g hg=>h g (List.mem_cons_of_mem _ hg)
   have h4:4≤(C8 f).length:=by unfold C8; rw [List.length_append,Eb]; omega
   rw [List.flatMap_cons,List.length_append,List.length_cons]; omega
 have hl:=hlen _ hF
 have hs:scan t s.Gen=(segF s,(segB s).length):=by
  unfold scan
  have:=A1e hz (segF s) [] (t.length+1) [] (by rw [ht,List.length_append]; unfold segB; omega) hF
  rw [ht]
  rw [ht] at this
  exact this
 refine ⟨hG,?_⟩
 unfold segFr
 rw [hG,if_neg (by omega),hs]
 simp [segF]
def byteAt (d:TDisk) (p:Nat):Option UInt8:=(rsec d (p / 32))[p%32]?
theorem Lv {d:TDisk} (h:E1 d=true) {b:Nat} {T:List UInt8} {p:Nat} (hp:p<32*d.Sectors.length):byteAt (poke d b T) p=if b≤p∧p<b+T.length then T[p - b]? else byteAt d p:=by
 unfold byteAt
 rw [A72 h (by omega) (by omega)]
 by_cases c:b≤p∧p<b+T.length
 ·rw [if_pos c,if_pos (by omega)]; congr 1; omega
 ·rw [if_neg c,if_neg (by omega)]
def segAt (g:TLog) (j:Nat):List UInt8:=match g.Used[j]? with | some s=>segB s | none=>[]
structure Z (n:Nat) (g:TLog):Prop where
 ends:∀ (j:Nat) (s:TSeg),g.Used[j]?=some s→s.End=((segB s).length:Int)
 good:∀ (j:Nat) (s:TSeg),g.Used[j]?=some s→∀ x∈s.Items,D5 (itF x s.Gen)=true∧recOk x.Rec=true
 bytes:∀ j,j<n→∀ i,i<256→byteAt g.Disk (256*(j+1)+i)=some ((segAt g j).getD i 0)
theorem Wu {gen:Int} (h:1≤gen∧gen≤1000000000):hdT gen=C8 (hdF gen):=by
 have hh:D5 (hdF gen)=true:=by unfold D5 hdF inR; simp; omega
 unfold hdT
 rw [W2 hh]
theorem Z.openG {n:Nat} {S0:Nat→List UInt8} {g:TLog} (hw:W n S0 g) (hz:Z n g) (hu:g.Used.length<n):Z n (openG g):=by
 have hn:=hw.rng
 have hs:=hw.sec
 have hgen:1≤g.NextGen∧g.NextGen≤1000000000:=by rw [hw.gen]; omega
 have hT:=Wu hgen
 have hTl:=Wv g.NextGen
 have hlast:∀ (j:Nat) (s:TSeg),(V.openG g).Used[j]?=some s→(j<g.Used.length∧g.Used[j]?=some s)∨(j=g.Used.length∧s={ No:=(g.Used.length:Int),Gen:=g.NextGen,End:=((hdT g.NextGen).length:Int),Items:=[] }):=by
  intro j s h
  simp only [V.openG] at h
  by_cases c:j<g.Used.length
  ·rw [List.getElem?_append_left c] at h; exact .inl ⟨c,h⟩
  ·rw [List.getElem?_append_right (by omega)] at h
   have e:j - g.Used.length=0:=by
    by_cases e:j - g.Used.length=0
    ·exact e
    ·rw [List.getElem?_eq_none (by simp; omega)] at h; cases h
   rw [e] at h
   simp only [List.getElem?_cons_zero,qS] at h
   exact .inr ⟨by omega,h.symm⟩
 have hB:segB { No:=(g.Used.length:Int),Gen:=g.NextGen,End:=((hdT g.NextGen).length:Int),Items:=[] }=hdT g.NextGen:=by
  rw [hT]; unfold segB segF; simp
 refine ⟨?_,?_,?_⟩
 ·intro j s h
  rcases hlast j s h with ⟨_,h⟩ | ⟨_,h⟩
  ·exact hz.ends j s h
  ·rw [h,hB]
 ·intro j s h
  rcases hlast j s h with ⟨_,h⟩ | ⟨_,h⟩
  ·exact hz.good j s h
  ·rw [h]; simp
 ·intro j hj i hi
  show byteAt (poke g.Disk _ _) _=_
  rw [Lv hw.ok (by omega),hz.bytes j hj i hi]
  have hsegAt:segAt (V.openG g) j=if j=g.Used.length then hdT g.NextGen else segAt g j:=by
   unfold segAt
   by_cases c:j=g.Used.length
   ·rw [if_pos c,c]
    simp only [V.openG]
    rw [List.getElem?_append_right (Nat.le_refl _),Nat.sub_self]
    exact hB
   ·rw [if_neg c]
    simp only [V.openG]
    by_cases c2:j<g.Used.length
    ·rw [List.getElem?_append_left c2]
    ·rw [List.getElem?_eq_none (by simp; omega),List.getElem?_eq_none (by omega)]
  rw [hsegAt]
  by_cases c:j=g.Used.length
  ·rw [if_pos c]
   have h0:segAt g j=[]:=by unfold segAt; rw [List.getElem?_eq_none (by omega)]
   rw [h0]
   by_cases c2:i<(hdT g.NextGen).length
   ·rw [if_pos (by subst c; omega),qG (by subst c; omega),List.getD_eq_getElem?_getD,qG c2]
    simp only [Option.getD_some,qS]
    congr 1; subst c; omega
   ·rw [if_neg (by subst c; omega),List.getD_eq_getElem?_getD,List.getD_eq_getElem?_getD,List.getElem?_eq_none (by simp),List.getElem?_eq_none (by omega)]
  ·rw [if_neg c,if_neg (by omega)]
theorem A7j (s:TSeg) (x:TItem) (e:Int):segB { No:=s.No,Gen:=s.Gen,End:=e,Items:=s.Items++[x] }=segB s++C8 (itF x s.Gen):=by
 unfold segB segF; simp
theorem Z.appG {n:Nat} {S0:Nat→List UInt8} {g:TLog} (hw:W n S0 g) (hz:Z n g) {x:TItem} {T:List UInt8} (hT:T=C8 (itF x (V.hd g).Gen)) (hf:D5 (itF x (V.hd g).Gen)=true) (hr:recOk x.Rec=true) (hE:(V.hd g).End+(T.length:Int)≤256):Z n (appG g x T):=by
 have hn:=hw.rng
 have hs:=hw.sec
 have hl:=hw.len
 have hu:=Tp hl.1
 have hat:=A30 hl.1
 have hend:=hz.ends _ _ hat
 have hgood:=hz.good _ _ hat
 have hdl:g.Used.dropLast.length=g.Used.length - 1:=by simp
 have hlast:∀ (j:Nat) (s:TSeg),(V.appG g x T).Used[j]?=some s→(j<g.Used.length - 1∧g.Used[j]?=some s)∨(j=g.Used.length - 1∧s={ No:=(V.hd g).No,Gen:=(V.hd g).Gen,End:=(V.hd g).End+(T.length:Int),Items:=(V.hd g).Items++[x] }):=by
  intro j s h
  simp only [V.appG] at h
  by_cases c:j<g.Used.length - 1
  ·rw [List.getElem?_append_left (by omega)] at h
   refine .inl ⟨c,?_⟩
   rw [hu,List.getElem?_append_left (by omega)]; exact h
  ·rw [List.getElem?_append_right (by omega)] at h
   have e:j - g.Used.dropLast.length=0:=by
    by_cases e:j - g.Used.dropLast.length=0
    ·exact e
    ·rw [List.getElem?_eq_none (by simp at e ⊢; omega)] at h; cases h
   rw [e] at h
   simp only [List.getElem?_cons_zero,qS] at h
   exact .inr ⟨by omega,h.symm⟩
 have hB:∀ e,segB { No:=(V.hd g).No,Gen:=(V.hd g).Gen,End:=e,Items:=(V.hd g).Items++[x] }=segB (V.hd g)++T:=by
  intro e; rw [A7j,hT]
 refine ⟨?_,?_,?_⟩
 ·intro j s h
  rcases hlast j s h with ⟨_,h⟩ | ⟨_,h⟩
  ·exact hz.ends j s h
  ·rw [h,hB,List.length_append]; simp only; omega
 ·intro j s h
  rcases hlast j s h with ⟨_,h⟩ | ⟨_,h⟩
  ·exact hz.good j s h
  ·rw [h]
   intro y hy
   rcases List.mem_append.1 hy with hy | hy
   ·exact hgood y hy
   ·rw [List.mem_singleton] at hy; subst hy; exact ⟨hf,hr⟩
 ·intro j hj i hi
  show byteAt (poke g.Disk _ _) _=_
  rw [Lv hw.ok (by omega),hz.bytes j hj i hi]
  have hsegAt:segAt (V.appG g x T) j=if j=g.Used.length - 1 then segB (V.hd g)++T else segAt g j:=by
   unfold segAt
   by_cases c:j=g.Used.length - 1
   ·rw [if_pos c,c]
    simp only [V.appG]
    rw [List.getElem?_append_right (by omega),hdl,Nat.sub_self]
    exact hB _
   ·rw [if_neg c]
    simp only [V.appG]
    by_cases c2:j<g.Used.length - 1
    ·rw [List.getElem?_append_left (by omega)]
     conv=>rhs; rw [hu]
     rw [List.getElem?_append_left (by omega)]
    ·rw [List.getElem?_eq_none (by simp; omega),List.getElem?_eq_none (by omega)]
  rw [hsegAt]
  by_cases c:j=g.Used.length - 1
  ·rw [if_pos c]
   have h0:segAt g j=segB (V.hd g):=by unfold segAt; rw [c,hat]
   rw [h0]
   by_cases c1:i<(segB (V.hd g)).length
   ·rw [if_neg (by omega),List.getD_eq_getElem?_getD,List.getD_eq_getElem?_getD,List.getElem?_append_left c1]
   ·by_cases c2:i<(segB (V.hd g)).length+T.length
    ·rw [if_pos (by omega),qG (by omega),List.getD_eq_getElem?_getD,List.getElem?_append_right (by omega),qG (by omega)]
     simp only [Option.getD_some,qS]
     congr 1; omega
    ·rw [if_neg (by omega),List.getD_eq_getElem?_getD,List.getD_eq_getElem?_getD,List.getElem?_eq_none (by omega),List.getElem?_eq_none (by simp; omega)]
  ·rw [if_neg c,if_neg (by omega)]
theorem A7u {n:Nat} {S0:Nat→List UInt8} {g:TLog} (hw:W n S0 g) (hz:Z n g) {j:Nat} {s:TSeg} (hj:g.Used[j]?=some s):segT g.Disk (j:Int)=segB s++List.replicate (256 - (segB s).length) 0:=by
 have hn:=hw.rng
 have hs:=hw.sec
 have hl:=hw.len
 have hjl:=(qI hj).1
 have hu:=hw.used j s hj
 have he:=hz.ends j s hj
 unfold segT
 rw [if_pos (by unfold inR; simp; omega),Int.toNat_natCast,A55 (by omega)]
 refine List.ext_getElem? fun i=>?_
 have h32:=A2o hw.ok (8+8*j) 8 (by omega)
 by_cases c:i<256
 ·rw [A35 hw.ok (8+8*j) 8 (by omega) i (by omega)]
  have hb:=hz.bytes j (by omega) i c
  unfold byteAt at hb
  rw [show (256*(j+1)+i) / 32=8+8*j+i / 32 by omega,show (256*(j+1)+i)%32=i%32 by omega] at hb
  rw [hb]
  have h0:segAt g j=segB s:=by unfold segAt; rw [hj]
  rw [h0]
  by_cases c1:i<(segB s).length
  ·rw [List.getElem?_append_left c1,List.getD_eq_getElem?_getD,qG c1]; rfl
  ·rw [List.getElem?_append_right (by omega),List.getElem?_replicate,if_pos (by omega),List.getD_eq_getElem?_getD,List.getElem?_eq_none (by omega)]; rfl
 ·rw [List.getElem?_eq_none (by show (secT g.Disk (8+8*j) 8).length≤i; omega),List.getElem?_eq_none (by simp; omega)]
theorem A2q {n:Nat} {S0:Nat→List UInt8} {g:TLog} (hw:W n S0 g) (hz:Z n g) {j:Nat} {s:TSeg} (hj:g.Used[j]?=some s):segGen (segT g.Disk (j:Int))=s.Gen∧segFr (segT g.Disk (j:Int))=(s.Items.map fun x=>itF x s.Gen,(segB s).length):=by
 have hn:=hw.rng
 have hl:=hw.len
 have hjl:=(qI hj).1
 have hu:=hw.used j s hj
 refine A6i (A7u hw hz hj) ?_ (by omega) (hz.good j s hj)
 intro b hb
 rw [List.getElem?_replicate] at hb
 split at hb
 ·cases hb; rfl
 ·cases hb
theorem W.itemsOk {n:Nat} {S0:Nat→List UInt8} {g:TLog} (h:W n S0 g) (hm:(C2 g).length≤100):itemsOk (C2 g)=true:=by
 refine Hm.2 ⟨by omega,?_,?_⟩
 ·intro x hx
  obtain ⟨i,hi⟩:=List.getElem?_of_mem hx
  have hl:=(qI hi).1
  have:=h.its i x hi
  exact ⟨by omega,this.2.1.ok⟩
 ·intro x hx y hy e
  obtain ⟨i,hi⟩:=List.getElem?_of_mem hx
  obtain ⟨j,hj⟩:=List.getElem?_of_mem hy
  have h1:=(h.its i x hi).1
  have h2:=(h.its j y hj).1
  have:i=j:=by omega
  subst this
  rw [hi] at hj; exact Option.some.inj hj
theorem W.szI {n:Nat} {S0:Nat→List UInt8} {g:TLog} (h:W n S0 g) (hm:(C2 g).length≤100):SzI (C2 g):=⟨by omega,fun y hy=>⟨(A5c h y hy).sz⟩⟩
theorem A90 {g:TLog} {j:Nat} {s:TSeg} (hj:g.Used[j]?=some s) {x:TItem} (hx:x∈s.Items):x∈C2 g:=List.mem_flatMap.2 ⟨s,qM hj,hx⟩
theorem W.below {n:Nat} {S0:Nat→List UInt8} {g:TLog} (h:W n S0 g) {x:TItem} (hx:x∈C2 g):x.Seq<g.NextSeq∧x.Rec.Valid<g.NextValid∧1≤x.Seq:=by
 obtain ⟨i,hi⟩:=List.getElem?_of_mem hx
 have hl:=(qI hi).1
 have:=h.its i x hi
 have hs:=h.seq
 exact ⟨by omega,this.2.2,by omega⟩
theorem A2x {n:Nat} {S0:Nat→List UInt8} {g:TLog} (h:W n S0 g):w64 (Int.tdiv (w64 ((g.Disk.Sectors.length:Int) - 8)) 8)=(n:Int):=by
 have hn:=h.rng
 have hs:=h.sec
 rw [C1 (n:=(g.Disk.Sectors.length:Int) - 8) (by omega) (by omega),Int.tdiv_eq_ediv_of_nonneg (by omega),C1 (by omega) (by omega)]
 omega
theorem A31 {n:Nat} {S0:Nat→List UInt8} {g:TLog} (hw:W n S0 g) (hz:Z n g) {j:Nat} {s:TSeg} (hj:g.Used[j]?=some s):Bb g.Disk s=some true:=by
 have hD:=DkS.ofOk hw.ok
 have hu:=hw.used j s hj
 obtain ⟨r1,r2⟩:=A2q hw hz hj
 have hgood:=hz.good j s hj
 have hlen:=Xb hw.len.1
 unfold Bb
 rw [A49 hD,ob,Vv hD,ob,hu.1,r1,r2]
 dsimp only
 rw [if_neg (by simp),if_neg (by rw [hu.2.1]; simp; omega),if_neg (by rw [hz.ends j s hj]; simp),if_neg (by simp),ob,if_neg (by simp)]
 have hcnt:=A1d hD (j:Int)
 rw [r2] at hcnt
 simp only [List.length_map] at hcnt
 rw [Ay (n:=s.Items.length) hcnt]
 ·rfl
 ·intro i hi
  have hx:=hgood _ (List.getElem_mem hi)
  have hb:=(V2 hx.1).2.2.2
  unfold Dq
  simp only [List.length_map]
  rw [if_pos (dlt hi),at?_nat (by simpa using hi),ob,List.getElem_map,Xq (by omega),ob,Qf hx.1 hx.2]
  simp [at?_nat hi,C5 (show i<9223372036854775807 by omega)]
 ·unfold Dq
  simp
theorem Mz {n:Nat} {S0:Nat→List UInt8} {g:TLog} (hw:W n S0 g) (hz:Z n g) (hm:(C2 g).length≤100):Aj g=some true:=by
 have hD:=DkS.ofOk hw.ok
 have hn:=hw.rng
 have hl:=hw.len
 have hs:=hw.sec
 have a1:inR (n:Int) 5 11=true:=V7.2 (by omega)
 have a2:inR (g.Used.length:Int) 1 (n:Int)=true:=V7.2 (by omega)
 have a3:inR g.NextGen 1 1000000000=true:=V7.2 (by rw [hw.gen]; omega)
 have a4:inR g.NextSeq 1 1000000000=true:=V7.2 (by rw [hw.seq]; omega)
 have a5:inR g.NextValid 1 1000000000=true:=V7.2 (by have:=hw.valid; omega)
 have a6:inR g.Stamp 1 1000000000=true:=V7.2 (by rw [hw.stamp]; omega)
 unfold Aj Fp
 simp only [W0]
 rw [Hp hD,hw.ok,ob,if_pos rfl,if_neg (by rw [hw.cache]; simp),if_neg (by rw [hw.segs]; simp; omega),A2x hw,ob,a1,if_pos rfl,ob,if_neg (by rw [hw.segs]; simp),hw.segs,a2,ob,if_pos rfl,ob,if_neg (by simp),a3,a4,a5,a6]
 simp only [ob,if_true,Bool.false_eq_true,if_false]
 rw [Ay (n:=g.Used.length) (by omega)]
 ·simp only [ob,Sum.elim_inr]
  rw [Ju (hw.lgn (by omega)),ob,Pz (hw.szI hm),hw.itemsOk hm]; rfl
 ·intro i hi
  have hgi:=qG hi
  have hu:=hw.used i _ hgi
  have hon:=A31 hw hz hgi
  have hk:E3 (g.Used.take i) g.Used[i]=some false:=by
   rw [Eh (q:=fun y=>y.No==g.Used[i].No) (by simp; omega) (fun y _=>rfl)]
   congr 1
   rw [List.any_eq_false]
   intro y hy
   obtain ⟨k,hk⟩:=List.getElem?_of_mem hy
   have hki:k<i:=by
    have:=(qI hk).1
    simp at this; omega
   rw [List.getElem?_take_of_lt hki] at hk
   have:=hw.used k y hk
   simp; omega
  have hit:D9 g.Used[i].Items g=some false:=by
   have hlen:=A2g g.Used (List.getElem_mem hi)
   have ht:(C2 g).length=(g.Used.map fun x=>x.Items.length).sum:=by unfold C2; rw [List.length_flatMap]
   rw [Dw (q:=fun y=>decide (y.Seq≥g.NextSeq)||decide (y.Rec.Valid≥g.NextValid)) (by omega) (fun y _=>by
    unfold T1
    cases decide (y.Seq≥g.NextSeq) <;> rfl)]
   congr 1
   rw [List.any_eq_false]
   intro y hy
   have:=hw.below (A90 hgi hy)
   simp; omega
  have b1:inR g.Used[i].No 0 (w64 (g.Segs - 1))=true:=by rw [hw.segs,C1 (by omega) (by omega)]; exact V7.2 (by omega)
  unfold Ey
  simp only [W0]
  rw [if_pos (dlt hi),at?_nat hi,ob,b1,ob,if_pos rfl,if_neg (by rw [hw.gen]; simp; omega)]
  have hsub:=sub?_take (l:=g.Used) (i:=i) (by omega)
  by_cases c:i=0
  ·subst c
   rw [if_neg (by simp),hon,ob,if_pos rfl,ob,if_neg (by simp),hsub,ob,hk,ob,if_neg (by simp),hit,ob,if_neg (by simp)]
   rfl
  ·have hu':=hw.used (i - 1) _ (qG (by omega))
   rw [if_pos (by simp; omega),C1 (by omega) (by omega),show (i:Int) - 1=((i - 1:Nat):Int) by omega,at?_nat (by omega),ob,if_neg (by simp; omega),hon,ob,if_pos rfl,ob,if_neg (by simp),hsub,ob,hk,ob,if_neg (by simp),hit,ob,if_neg (by simp),C5 (by omega)]
 ·unfold Ey
  simp
theorem Vm {g:TLog} (hD:DkS g.Disk) (h:LgN g):Q4 g=some g:=by
 have hul:=h.used
 unfold Q4
 rw [Jl hD,ob]
 have:=J8 (step:=P8 g) (fun i=>((i:Int),g.Used.take i)) g.Used.length (r:=g.Used) ?_ ?_
 ·have e:iter (P8 g) (0,[])=some g.Used:=by simpa using this
  rw [e]; rfl
 ·intro i hi
  have hx:=(h.items _ (List.getElem_mem hi)).1
  unfold P8 Df
  rw [if_pos (dlt hi),at?_nat hi,ob,app?_ok (by simp; omega) (by simp; omega),ob,app?_ok (by simp; omega) (by simp; omega),ob,C5 (by omega),List.take_succ_eq_append_getElem hi]
  rfl
 ·unfold P8; simp
theorem A1v {x0 d d':TDisk} {T:List UInt8} {s t j i m:Nat} (h:Wst d (32*s+t) T j i d') (hT:T.length≤1000) (hs:s≤1000) (ht:t≤3200) (hj:j<60) (hi:i<T.length) (hk:(32*s+t+i) / 32<d.Sectors.length) (hm:m=min (32 - (32*s+t+i)%32) (T.length - i)) :
  ∃ d'',J6 (s:Int) x0 (((t+i:Nat):Int),T.drop i,d'.Sectors,d'.Cache)=some (.inl (((t+(i+m):Nat):Int),T.drop (i+m),d''.Sectors,d''.Cache))∧Wst d (32*s+t) T (j+1) (i+m) d'':=by
 obtain ⟨d'',hw,hst⟩:=h.step hj hi hk hm
 refine ⟨d'',?_,hst⟩
 have hD:=DkS.ofOk h.ok
 have hc:=h.cache
 have h32:(rsec d' ((32*s+t+i) / 32)).length=32:=Hn h.ok (by rw [h.sec]; exact hk)
 have hlen:(T.drop i).length=T.length - i:=by simp
 have e1:(t+i)%32=(32*s+t+i)%32:=by omega
 have w4:w64 ((s:Int)+w64 (((t+i) / 32:Nat):Int))=(((32*s+t+i) / 32:Nat):Int):=by rw [El (by omega),C1 (by omega) (by omega)]; omega
 have w5:w64 (32 - (((32*s+t+i)%32:Nat):Int))=((32 - (32*s+t+i)%32:Nat):Int):=by rw [C1 (by omega) (by omega)]; omega
 have hdd:({ Sectors:=d'.Sectors,Cache:=d'.Cache }:TDisk)=d':=rfl
 have hmm:(if ((32 - (32*s+t+i)%32:Nat):Int)<((T.drop i).length:Int) then ((32 - (32*s+t+i)%32:Nat):Int) else ((T.drop i).length:Int))=(m:Int):=by
  rw [hlen]
  split <;> omega
 have f1:w64 (((t+i:Nat):Int)+(m:Int))=((t+(i+m):Nat):Int):=by rw [C1 (by omega) (by omega)]; omega
 have f2:w64 ((((32*s+t+i)%32:Nat):Int)+(m:Int))=(((32*s+t+i)%32+m:Nat):Int):=by rw [C1 (by omega) (by omega)]; omega
 unfold J6
 rw [if_pos (by simp only [Bool.not_eq_true',beq_eq_false_iff_ne,ne_eq]; intro h0; have:=congrArg List.length h0; rw [hlen] at this; simp at this; omega)]
 dsimp only
 rw [A3g,A3s,w4,e1,w5,hdd,hmm,f1,f2,Fy hD,ob,Ln (by rw [h.sec]; exact hk)]
 dsimp only
 rw [if_neg (by simp),if_neg (by simp [h32]),ob,if_neg (by simp),sub?_take (by omega),ob,sub?_take (by omega),ob,cat?_ok (by simp; omega),ob,sub?_tail (by omega),ob,cat?_ok (by simp; omega),ob,A8j hD (by simp; omega) (by omega),ob,hw]
 simp only [wrR,Bool.not_true,Bool.false_eq_true,if_false]
 rw [sub?_tail (by omega),ob,List.drop_drop]
theorem Qs {x0 d:TDisk} {T:List UInt8} {s t:Nat} (hT:T.length≤1000) (hs:s≤1000) (ht:t≤3200) (hn:32*s+t+T.length≤32*d.Sectors.length):∀ (n i j:Nat) (d':TDisk),T.length≤i+n→i≤T.length→(i=T.length∨32*j≤i+31∧(i=0∨(32*s+t+i)%32=0))→Wst d (32*s+t) T j i d' →
  ∃ d1 j1,iter (J6 (s:Int) x0) (((t+i:Nat):Int),T.drop i,d'.Sectors,d'.Cache)=some (.inr (d1.Sectors,d1.Cache))∧Wst d (32*s+t) T j1 T.length d1
 | 0,i,j,d',h1,h2,_,h=>by
  have:i=T.length:=by omega
  subst this
  refine ⟨d',j,D1 ?_,h⟩
  unfold J6
  rw [if_neg (by simp)]
 | n+1,i,j,d',h1,h2,h3,h=>by
  by_cases c:i<T.length
  ·obtain ⟨d'',e,hw⟩:=A1v (x0:=x0) (m:=min (32 - (32*s+t+i)%32) (T.length - i)) h hT hs ht (by omega) c (by omega) rfl
   rw [K1 e]
   exact Qs hT hs ht hn n _ (j+1) d'' (by omega) (by omega) (by omega) hw
  ·have:i=T.length:=by omega
   subst this
   refine ⟨d',j,D1 ?_,h⟩
   unfold J6
   rw [if_neg (by simp)]
theorem A63 {d:TDisk} (h:E1 d=true) (hc:d.Cache=[]) {T:List UInt8} {s t:Nat} (hT:T.length≤1000) (hs:s<d.Sectors.length) (ht:t≤3200) (hn:32*s+t+T.length≤32*d.Sectors.length) :
  ∃ d1,V5 d (s:Int) (t:Int) T=some (d1,true)∧J5 d1=some (poke d (32*s+t) T):=by
 have hD:=DkS.ofOk h
 have h1:=hD.sec.1
 have h100:=(K8.1 h).1.2
 obtain ⟨d1,j1,e,hw⟩:=Qs (x0:=d) hT (show s≤1000 by omega) ht hn T.length 0 0 d (by omega) (by omega) (by omega) (Wst.start h hc _ T)
 refine ⟨d1,?_,by rw [A4c (DkS.ofOk hw.ok),hw.flush h]⟩
 unfold V5
 rw [Jl hD,ob,W0,ob,if_pos (by unfold inR; simp; omega),W0,ob,C1 (n:=(d.Sectors.length:Int) - 1) (by omega) (by omega)]
 rw [if_pos (by unfold inR; simp; omega),ob,if_neg (by simp),ob]
 have e':iter (J6 (s:Int) d) ((t:Int),T,d.Sectors,d.Cache)=_:=e
 rw [e']; rfl
theorem A16 {d:TDisk} (h:E1 d=true) (hc:d.Cache=[]) {T:List UInt8} {no t:Nat} (hno:no≤10) (hs:16+8*no≤d.Sectors.length) (ht:t+T.length≤256) :
  ∃ d1,K3 d (no:Int) (t:Int) T=some (d1,true)∧J5 d1=some (poke d (256*(no+1)+t) T):=by
 obtain ⟨d1,e1,e2⟩:=A63 h hc (T:=T) (s:=8+8*no) (t:=t) (by omega) (by omega) (by omega) (by omega)
 refine ⟨d1,?_,by rw [e2]; congr 2; omega⟩
 unfold K3 U5
 rw [W0,ob,if_pos (by unfold inR; simp; omega),W0,ob,if_pos (by unfold inR; simp; omega)]
 rw [if_neg (by rw [C1 (by omega) (by omega)]; simp; omega),ob,if_neg (by simp)]
 simp only [W0,ob]
 rw [if_pos (by unfold inR; simp; omega),ob,C1 (n:=(no:Int)*8) (by omega) (by omega),C1 (by omega) (by omega),show (8:Int)+(no:Int)*8=((8+8*no:Nat):Int) by omega,e1]
 rfl
theorem A4l {n:Nat} {S0:Nat→List UInt8} {g:TLog} (h:W n S0 g) (hm:(C2 g).length≤1000) {keep:Int} (hk:0≤keep):Cm g keep=some (if keep<((n - g.Used.length:Nat):Int) then (openG g,true) else (zlog,false)):=by
 have hn:=h.rng
 have hl:=h.len
 unfold Cm
 rw [A0j (by omega),ob,if_neg (by simp; omega),h.free]
 by_cases c:keep<((n - g.Used.length:Nat):Int)
 ·rw [if_neg (by simp; omega),if_neg (by rw [h.gen]; simp; omega),ob,if_neg (by simp),if_pos c]
  show (G3 (hdF g.NextGen)).bind _=_
  have ha:at? ((List.range' g.Used.length (n - g.Used.length)).map fun (k:Nat)=>(k:Int)) 0=some (g.Used.length:Int):=by
   rw [show (0:Int)=((0:Nat):Int) from rfl,at?_nat (by simp; omega)]; simp
  rw [Ex,ob,ha,ob]
  have ht:=Wv g.NextGen
  obtain ⟨d1,e1,e2⟩:=A16 h.ok h.cache (T:=hdT g.NextGen) (no:=g.Used.length) (t:=0) (by omega) (by rw [h.sec]; omega) (by omega)
  show (K3 g.Disk (g.Used.length:Int) ((0:Nat):Int) (hdT g.NextGen)).bind _=_
  rw [e1,ob,if_neg (by simp),Vm (DkS.ofOk h.ok) (h.lgn hm),ob,e2,ob,ob,app?_ok (by simp; omega) (by simp; omega),ob,C1 (n:=g.NextGen+1) (by rw [h.gen]; omega) (by rw [h.gen]; omega)]
  rfl
 ·rw [if_pos (by simp; omega),ob,if_pos rfl,if_neg c]; rfl
theorem A34 {s:TSeg} (h:s.Items.length≤1048576):M8 s s=some true:=by
 unfold M8
 simp only [bne_self_eq_false,Bool.false_eq_true,if_false,ob]
 rw [Ay (n:=s.Items.length) h]
 ·rfl
 ·intro i hi
  unfold Cx
  simp [at?_nat hi,hi,C5 (show i<9223372036854775807 by omega)]
 ·unfold Cx; simp
theorem A3e {g:TLog} (h:LgN g):Y0 g g=some true:=by
 have hu:=h.used
 unfold Y0
 simp only [bne_self_eq_false,Bool.false_eq_true,if_false,ob]
 rw [Ay (n:=g.Used.length) hu]
 ·rfl
 ·intro i hi
  unfold Ct
  rw [if_pos (dlt hi),at?_nat hi,ob,ob,A34 ((h.items _ (List.getElem_mem hi)).1),ob,if_pos rfl,C5 (by omega)]
 ·unfold Ct; simp
theorem A81:headT=hdT 1:=rfl
theorem A9n {k:Nat} {g:TLog} (h:5≤k∧k≤8) (e:fmt (k:Int)=(g,true)):Z k g:=by
 have h':5≤k∧k≤11:=by omega
 have ho:=Pi h'
 have hf:=A15 h'
 have hg:g={ log1 k with Disk:=(fixd k).1,Stamp:=1 }:=by
  unfold fmt fmtK at e
  rw [if_pos (by unfold inR; simp; omega),Int.toNat_natCast,if_pos (by rw [ho.1,hf]; rfl)] at e
  exact (congrArg Prod.fst e).symm
 have hT:headT=C8 (hdF 1):=by rw [A81]; exact Wu (by omega)
 have hl:=Qk
 have hc:=(Xa k).2
 have hnd:(newDisk (8+k*8)).Sectors.length=8+k*8:=by simp [newDisk]
 have hused:∀ (j:Nat) (s:TSeg),g.Used[j]?=some s→j=0∧s={ No:=0,Gen:=1,End:=(headT.length:Int),Items:=[] }:=by
  intro j s hs
  rw [hg] at hs
  simp only [log1] at hs
  cases j with
  | zero=>simp only [List.getElem?_cons_zero,qS] at hs; exact ⟨rfl,hs.symm⟩
  | succ j=>simp at hs
 have hB:∀ e,segB { No:=0,Gen:=1,End:=e,Items:=[] }=headT:=by
  intro e; rw [hT]; unfold segB segF; simp
 refine ⟨?_,?_,?_⟩
 ·intro j s hs
  rw [(hused j s hs).2,hB]
 ·intro j s hs
  rw [(hused j s hs).2]; simp
 ·intro j hj i hi
  have hd:g.Disk=poke (poke (newDisk (8+k*8)) 256 headT) 128 (ctOut (checkOf (log1 k))):=by
   rw [hg]; simp only; rw [hf,ho.2]
  rw [hd,Lv (A92 h') (by rw [Fu,hnd]; omega),if_neg (by omega),Lv (A2s h') (by rw [hnd]; omega)]
  have hseg:segAt g j=if j=0 then headT else []:=by
   unfold segAt
   rw [hg]
   simp only [log1]
   cases j with
   | zero=>simp only [List.getElem?_cons_zero,if_pos]; exact hB _
   | succ j=>simp
  have hzero:byteAt (newDisk (8+k*8)) (256*(j+1)+i)=some 0:=by
   unfold byteAt
   rw [A11 rfl]
   have:((newDisk (8+k*8)).Sectors[(256*(j+1)+i) / 32]?).getD []=zero32:=by
    simp only [newDisk]
    rw [List.getElem?_replicate,if_pos (by omega)]; rfl
   rw [this]
   unfold zero32
   rw [List.getElem?_replicate,if_pos (by omega)]
  rw [hseg]
  by_cases c:j=0
  ·subst c
   rw [if_pos rfl]
   by_cases c2:i<headT.length
   ·rw [if_pos (by omega),List.getD_eq_getElem?_getD,qG c2,qG (by omega)]
    simp only [Option.getD_some,qS]
    congr 1; omega
   ·rw [if_neg (by omega),hzero,List.getD_eq_getElem?_getD,List.getElem?_eq_none (by omega)]; rfl
  ·rw [if_neg c,if_neg (by omega),hzero]; rfl
theorem Ws (g:TLog):hd (openG g)={ No:=(g.Used.length:Int),Gen:=g.NextGen,End:=((hdT g.NextGen).length:Int),Items:=[] }:=A5l rfl
theorem Z.appS {n:Nat} {S0:Nat→List UInt8} {g:TLog} (hw:W n S0 g) (hz:Z n g) {x:TItem} {keep:Int} (hk:0≤keep):Z n (appS n g x keep).2:=by
 rcases Pr n g x keep with ⟨e,_⟩ | ⟨e,_,c⟩ | ⟨T,e,eT,h1,h2,c⟩ | ⟨T,e,eT,h1,h2,c,c'⟩
 ·rw [e]; exact hz
 ·rw [e]; exact hz.openG hw (by omega)
 ·rw [e]
  obtain ⟨i1,i2,i3⟩:=A85 h1
  rw [i1,W2 i2] at eT
  exact hz.appG hw eT i2 i3 c
 ·rw [e]
  obtain ⟨i1,i2,i3⟩:=A85 h1
  have hu:g.Used.length<n:=by omega
  have e4:frT (V.openG g) (E4 x (V.hd g).Gen).1=D7 (itF x (V.hd (V.openG g)).Gen):=by
   unfold frT; rw [i1]; rfl
  rw [e4] at eT h2
  have i4:D5 (itF x (V.hd (V.openG g)).Gen)=true:=by
   unfold D7 at h2
   split at h2
   ·assumption
   ·cases h2
  rw [W2 i4] at eT
  exact (hz.openG hw hu).appG (hw.openG hu) eT i4 i3 c
theorem A6o {b:List Int} (hb:b.length≤1048576):∃ g,Bw b=some g∧∃ n,(5≤n∧n≤8)∧W n (first8 n) g∧(C2 g).length≤33∧Z n g:=by
 obtain ⟨h,e⟩:=A7v hb
 unfold Bw
 rw [e,ob]
 exact Dr.get (A95 (Q:=Z) (fun k g hk e _=>A9n hk e) (fun k g x hw _ hz _ _=>hz.appS hw (by omega)) (iok0 hb)) fun g i h hg _=>⟨g,rfl,hg⟩
theorem A8a {d:TDisk} (h:DkS d) (no:Int):W3 d no=some (segOf d no):=by
 have hc:=A1d h no
 unfold W3
 rw [A56 h,ob,Vl h,ob,A40 hc]
 ·rfl
 ·intro i o hi
  unfold Dp
  rw [if_pos (dlt hi),at?_nat hi,ob,Xk (A89 (List.getElem_mem hi)),ob,C5 (by omega)]
 ·intro o; unfold Dp; simp
theorem A3d {l:List TItem} {gen:Int} (h:∀ x∈l,D5 (itF x gen)=true∧recOk x.Rec=true):segItems (l.map fun x=>itF x gen)=l:=by
 induction l with
 | nil=>rfl
 | cons x l ih =>
  have hx:=h x List.mem_cons_self
  have ih:=ih fun y hy=>h y (List.mem_cons_of_mem _ hy)
  unfold segItems at ih ⊢
  rw [List.map_cons,List.flatMap_cons,ih]
  unfold itI
  rw [Qf hx.1 hx.2]; rfl
theorem A4r {n:Nat} {S0:Nat→List UInt8} {g:TLog} (hw:W n S0 g) (hz:Z n g) {j:Nat} {s:TSeg} (hj:g.Used[j]?=some s):segOf g.Disk s.No=s:=by
 have hu:=hw.used j s hj
 obtain ⟨r1,r2⟩:=A2q hw hz hj
 unfold segOf
 rw [hu.1,r1,r2]
 dsimp only
 rw [A3d (hz.good j s hj),← hz.ends j s hj,← hu.1]
theorem A41 {n:Nat} {S0:Nat→List UInt8} {g:TLog} (hw:W n S0 g) (hz:Z n g) (hm:(C2 g).length≤100):Ep g=some true:=by
 have hD:=DkS.ofOk hw.ok
 have hn:=hw.rng
 have hl:=hw.len
 have hs:=hw.sec
 have a1:inR (n:Int) 5 11=true:=V7.2 (by omega)
 have a2:inR (g.Used.length:Int) 1 (n:Int)=true:=V7.2 (by omega)
 have a3:inR g.NextGen 1 1000000000=true:=V7.2 (by rw [hw.gen]; omega)
 have a4:inR g.NextSeq 1 1000000000=true:=V7.2 (by rw [hw.seq]; omega)
 have a5:inR g.NextValid 1 1000000000=true:=V7.2 (by have:=hw.valid; omega)
 have a6:inR g.Stamp 1 1000000000=true:=V7.2 (by rw [hw.stamp]; omega)
 unfold Ep Fr
 simp only [K6]
 rw [Ec hD,hw.ok,ob,if_pos rfl,if_neg (by rw [hw.cache]; simp),if_neg (by rw [hw.segs]; simp; omega),A2x hw,ob,a1,if_pos rfl,ob,if_neg (by rw [hw.segs]; simp),hw.segs,a2,ob,if_pos rfl,ob,if_neg (by simp),a3,a4,a5,a6]
 simp only [ob,if_true,Bool.false_eq_true,if_false]
 rw [Ay (n:=g.Used.length) (by omega)]
 ·simp only [ob,Sum.elim_inr]
  rw [Jv (hw.lgn (by omega)),ob,Ay (n:=(C2 g).length) (by omega)]
  ·simp only [ob,Sum.elim_inr]
   rw [A29 (hw.szI hm),hw.itemsOk hm]; rfl
  ·intro i hi
   have:=hw.below (List.getElem_mem hi)
   unfold Es
   rw [if_pos (dlt hi),at?_nat hi,ob,if_neg (by simp; omega),ob,if_neg (by simp; omega),ob,if_neg (by simp),C5 (by omega)]
  ·unfold Es; simp
 ·intro i hi
  have hgi:=qG hi
  have hu:=hw.used i _ hgi
  have hlgn:=hw.lgn (by omega)
  have hsame:M8 g.Used[i] g.Used[i]=some true:=A34 ((hlgn.items _ (List.getElem_mem hi)).1)
  have hseg:W3 g.Disk g.Used[i].No=some g.Used[i]:=by rw [A8a hD,A4r hw hz hgi]
  have b1:inR g.Used[i].No 0 (w64 (g.Segs - 1))=true:=by rw [hw.segs,C1 (by omega) (by omega)]; exact V7.2 (by omega)
  have hk:iter (Bu g (i:Int) g.Used[i]) 0=some (.inr ()):=by
   refine Ay (n:=i) (by omega) ?_ ?_
   ·intro k hk
    have:=hw.used k _ (qG (show k<g.Used.length by omega))
    unfold Bu
    rw [if_pos (by simpa using hk),at?_nat (by omega),ob,if_neg (by simp; omega),C5 (by omega)]
   ·unfold Bu; simp
  unfold Em
  simp only [K6]
  rw [if_pos (dlt hi),at?_nat hi,ob,b1,ob,if_pos rfl,if_neg (by simp; omega),if_neg (by rw [hw.gen]; simp; omega)]
  by_cases c:i=0
  ·subst c
   rw [if_neg (by simp),hseg,ob,hsame,ob,if_pos rfl,ob,if_neg (by simp),hk]
   rfl
  ·have hu':=hw.used (i - 1) _ (qG (by omega))
   rw [if_pos (by simp; omega),C1 (by omega) (by omega),show (i:Int) - 1=((i - 1:Nat):Int) by omega,at?_nat (by omega),ob,if_neg (by simp; omega),hseg,ob,hsame,ob,if_pos rfl,ob,if_neg (by simp),hk,C5 (by omega)]
   rfl
 ·unfold Em
  simp
theorem A4y {g:TLog} (hD:DkS g.Disk) (h:LgN g):L3 g=some g:=by
 have hul:=h.used
 unfold L3
 rw [X9 hD,ob]
 have:=J8 (step:=R7 g) (fun i=>((i:Int),g.Used.take i)) g.Used.length (r:=g.Used) ?_ ?_
 ·have e:iter (R7 g) (0,[])=some g.Used:=by simpa using this
  rw [e]; rfl
 ·intro i hi
  have hx:=(h.items _ (List.getElem_mem hi)).1
  unfold R7
  rw [if_pos (dlt hi),at?_nat hi,ob,app?_ok (by simp; omega) (by simp; omega),ob,app?_ok (by simp; omega) (by simp; omega),ob,C5 (by omega),List.take_succ_eq_append_getElem hi]
  rfl
 ·unfold R7; simp
theorem A8b {r:TRec} (h:RecD r):1≤(recT r).length∧(recT r).length≤44:=by
 obtain ⟨⟨v1,_⟩,⟨u1,_⟩,⟨n1,_⟩,⟨f1,f2⟩,_⟩:=Jn h.ok
 have hf:r.Flags≤7:=by
  have:=h.ok
  unfold recOk at this
  simp only [Bool.and_eq_true] at this
  have h3:=this.1.2
  split at h3
  ·exact (V7.1 h3).2
  ·simp at h3; omega
 have e1:=Kr (n:=r.Valid) v1 (by have:=h.valid; omega)
 have e2:=Kr (n:=r.Uid) u1 (by have:=h.uid; omega)
 have e3:=Kr (n:=r.Next) n1 (by have:=h.next; omega)
 have e4:=Kr (n:=r.Flags) f1 (by omega)
 have l1:=h.user
 have l2:=h.name
 have l3:=h.text
 have e5:=Kr (n:=(r.User.length:Int)) (by omega) (by omega)
 have e6:=Kr (n:=(r.Name.length:Int)) (by omega) (by omega)
 have e7:=Kr (n:=(r.Text.length:Int)) (by omega) (by omega)
 unfold recT short
 simp only [List.length_append,List.length_singleton,e1,e2,e3,e4,e5,e6,e7]
 omega
theorem Js {f:TFrame} (h1:0≤f.Gen∧f.Gen<128) (h2:0≤f.Seq∧f.Seq<128) (h3:f.Body.length<128):(C8 f).length=f.Body.length+7:=by
 unfold C8 frameT
 have e1:=Kr h1.1 h1.2
 have e2:=Kr h2.1 h2.2
 have e3:=Kr (n:=(f.Body.length:Int)) (by omega) (by omega)
 simp only [List.length_append,Eb,e1,e2,e3]
 omega
theorem La {x:TItem} {gen:Int} (h:RecD x.Rec) (h1:1≤gen∧gen<128) (h2:1≤x.Seq∧x.Seq<128):D5 (itF x gen)=true∧(C8 (itF x gen)).length≤51:=by
 have hl:=A8b h
 refine ⟨?_,?_⟩
 ·unfold D5 itF inR
  simp; omega
 ·rw [Js (by unfold itF; simp only; omega) (by unfold itF; simp only; omega) (by unfold itF; simp only; omega)]
  unfold itF; simp only; omega
theorem Lg {x:TItem} {gen:Int} (h:RecD x.Rec) (h1:D5 (itF x gen)=true):E4 x gen=(itF x gen,true):=by
 have e:recText x.Rec=(recT x.Rec,true):=by unfold recText; rw [if_pos h.ok]
 unfold E4
 rw [e]
 have h1':D5 { Gen:=gen,Seq:=x.Seq,Body:=recT x.Rec }=true:=h1
 simp only [h1',Bool.and_self,if_true]
 rfl
theorem A6f {n:Nat} {S0:Nat→List UInt8} {g:TLog} (hw:W n S0 g) (hm:(C2 g).length≤100) {x:TItem} (hx:x.Seq=g.NextSeq) (hr:RecD x.Rec) (keep:Int) :
  appS n g x keep=if (hd g).End+((C8 (itF x (hd g).Gen)).length:Int)>256 then (if keep<((n - g.Used.length:Nat):Int) then (true,appG (openG g) x (C8 (itF x (hd (openG g)).Gen))) else (false,g)) else (true,appG g x (C8 (itF x (hd g).Gen))):=by
 have hn:=hw.rng
 have hl:=hw.len
 obtain ⟨h1,h2,h3,h4⟩:=hw.hd
 have hs:=hw.seq
 have hg:=La (gen:=(hd g).Gen) hr (by omega) (by omega)
 unfold appS
 rw [Lg hr hg.1]
 dsimp only
 rw [W2 hg.1]
 dsimp only
 rw [if_neg (by simp),if_neg (by simp),if_neg (by omega)]
 by_cases c:(hd g).End+((C8 (itF x (hd g).Gen)).length:Int)>256
 ·rw [if_pos c,if_pos c]
  unfold openS
  by_cases c2:keep<((n - g.Used.length:Nat):Int)
  ·have hgen:(hd (openG g)).Gen=(g.Used.length:Int)+1:=by rw [Ws]; exact hw.gen
   have hend:(hd (openG g)).End=((hdT g.NextGen).length:Int):=by rw [Ws]
   have hh:(hdT g.NextGen).length=10:=by
    rw [Wu (by rw [hw.gen]; omega),Js (by unfold hdF; simp only; rw [hw.gen]; omega) (by unfold hdF; simp only; omega) (by simp [hdF])]
    rfl
   have hg2:=La (gen:=(hd (openG g)).Gen) hr (by omega) (by omega)
   have e4:frT (openG g) (itF x (hd g).Gen)=(C8 (itF x (hd (openG g)).Gen),true):=W2 hg2.1
   rw [if_pos c2,if_pos c2]
   dsimp only
   rw [if_pos rfl,e4]
   dsimp only
   rw [if_neg (by simp),if_neg (by omega)]
  ·rw [if_neg c2,if_neg c2]
   dsimp only
   rw [if_neg (by simp)]
 ·rw [if_neg c,if_neg c]
theorem Wn {n:Nat} {S0:Nat→List UInt8} {g:TLog} (hw:W n S0 g) (hz:Z n g) (hm:(C2 g).length≤50) {r:TRec} (hr:RecD r):W8 g r 1=some (if (appS n g { Seq:=g.NextSeq,Rec:=r } 1).1 then ((appS n g { Seq:=g.NextSeq,Rec:=r } 1).2,true) else (g,false)):=by
 have hD:=DkS.ofOk hw.ok
 have hseq:=hw.seq
 have hok:=(Kx hr.ok).1
 have hv:=hr.valid
 unfold W8 Bn
 rw [A4y hD (hw.lgn (by omega)),ob,A41 hw hz (by omega),ob,if_pos rfl,if_neg (by simp),A1b hw (by omega) rfl,ob,if_pos rfl]
 show ((J7 g { Seq:=g.NextSeq,Rec:=r } 1).bind _).bind _=_
 rw [Vr hw (by omega) (by simp only; omega) hr.rs (by simp only; omega) (by simp only; omega) (by omega),ob]
 cases (appS n g { Seq:=g.NextSeq,Rec:=r } 1).1
 ·rw [if_neg (by simp),ob,ob,if_neg (by simp)]
 ·rw [if_pos rfl,ob,if_pos rfl]
theorem Wa {n:Nat} {S0:Nat→List UInt8} {g:TLog} (hw:W n S0 g) (hz:Z n g) (hm:(C2 g).length≤50) {r:TRec} (hr:RecD r):W6 g r 1=some (if (appS n g { Seq:=g.NextSeq,Rec:=r } 1).1 then ((appS n g { Seq:=g.NextSeq,Rec:=r } 1).2,true) else (g,false)):=by
 have hD:=DkS.ofOk hw.ok
 have hn:=hw.rng
 have hl:=hw.len
 have hseq:=hw.seq
 have hok:=Kx hr.ok
 have hv:=hr.valid
 obtain ⟨h1,h2,h3,h4⟩:=hw.hd
 have hlast:Y7 g=some (hd g):=by
  unfold Y7
  rw [if_neg (by simp only [beq_iff_eq]; omega),C1 (by omega) (by omega),show (g.Used.length:Int) - 1=((g.Used.length - 1:Nat):Int) by omega,at?_eq (A30 hl.1)]; rfl
 have hclone:=Vm hD (hw.lgn (by omega))
 generalize hxx:({ Seq:=g.NextSeq,Rec:=r }:TItem)=x
 have hx1:x.Seq=g.NextSeq:=by rw [← hxx]
 have hx2:x.Rec=r:=by rw [← hxx]
 have hrx:RecD x.Rec:=by rw [hx2]; exact hr
 have hg:=La (x:=x) (gen:=(hd g).Gen) hrx (by omega) (by omega)
 have hmax:(if (hd g).Gen>1 then (hd g).Gen else 1)=(hd g).Gen:=by split <;> omega
 have hits:itemsOk (C2 g++[x])=true:=by
  have h0:=hw.itemsOk (by omega)
  refine Hm.2 ⟨by simp; omega,?_,?_⟩
  ·intro y hy
   rcases List.mem_append.1 hy with hy | hy
   ·exact (Hm.1 h0).2.1 y hy
   ·rw [List.mem_singleton] at hy; subst hy; exact ⟨by omega,hrx.ok⟩
  ·intro y hy z hz' e
   rcases List.mem_append.1 hy with hy | hy <;> rcases List.mem_append.1 hz' with hz' | hz'
   ·exact (Hm.1 h0).2.2 y hy z hz' e
   ·have:=hw.below hy; rw [List.mem_singleton] at hz'; subst hz'; omega
   ·have:=hw.below hz'; rw [List.mem_singleton] at hy; subst hy; omega
   ·rw [List.mem_singleton] at hy hz'; rw [hy,hz']
 have hszx:SzI (C2 g++[x]):=by
  have h0:=hw.szI (by omega)
  refine ⟨by simp; omega,fun y hy=>?_⟩
  rcases List.mem_append.1 hy with hy | hy
  ·exact h0.2 y hy
  ·rw [List.mem_singleton] at hy; subst hy; exact ⟨hrx.sz⟩
 have hf1:C8 (itF x (hd g).Gen)=(D7 (itF x (hd g).Gen)).1:=by rw [W2 hg.1]
 have fin:∀ G:TLog,W n S0 G→Z n G→(C2 G).length≤50→G.NextSeq=g.NextSeq→(hd G).End+((C8 (itF x (hd G).Gen)).length:Int)≤256 →
   ((at? G.Used (w64 ((G.Used.length:Int) - 1))).bind fun v12=>(G3 ({ Gen:=v12.Gen,Seq:=x.Seq,Body:=recT x.Rec }:TFrame)).bind fun v13=>(K3 ({ Sectors:=G.Disk.Sectors,Cache:=G.Disk.Cache }:TDisk) v12.No v12.End v13.1).bind fun v14=>(if !v14.2 then some (({ Disk:=({ Sectors:=g.Disk.Sectors,Cache:=g.Disk.Cache }:TDisk),Segs:=g.Segs,Used:=g.Used,NextGen:=g.NextGen,NextSeq:=g.NextSeq,Stamp:=g.Stamp,NextValid:=g.NextValid }:TLog),false) else (J5 v14.1).bind fun v15=>(app? 96 v12.Items [x]).bind fun v16=>(some (set' G.Used (w64 ((G.Used.length:Int) - 1)) ({ No:=v12.No,Gen:=v12.Gen,End:=w64 (v12.End+(v13.1.length:Int)),Items:=v16 }:TSeg))).bind fun v17=>some (({ Disk:=({ Sectors:=v15.Sectors,Cache:=v15.Cache }:TDisk),Segs:=G.Segs,Used:=v17,NextGen:=G.NextGen,NextSeq:=(if w64 (x.Seq+1)>G.NextSeq then w64 (x.Seq+1) else G.NextSeq),Stamp:=G.Stamp,NextValid:=(if w64 (x.Rec.Valid+1)>G.NextValid then w64 (x.Rec.Valid+1) else G.NextValid) }:TLog),true)):Option (TLog×Bool))=some (appG G x (C8 (itF x (hd G).Gen)),true):=by
  intro G hW hZ hM hQ hE
  have hL:=hW.len
  obtain ⟨k1,k2,k3,k4⟩:=hW.hd
  have hG:=La (x:=x) (gen:=(hd G).Gen) hrx (by omega) (by omega)
  have hit:=Xb hL.1
  obtain ⟨d1,e1,e2⟩:=A16 hW.ok hW.cache (T:=C8 (itF x (hd G).Gen)) (no:=G.Used.length - 1) (t:=(hd G).End.toNat) (by omega) (by rw [hW.sec]; omega) (by omega)
  have e1':K3 G.Disk (hd G).No (hd G).End (C8 (itF x (hd G).Gen))=some (d1,true):=by
   rw [← e1]; congr 1 <;> omega
  rw [C1 (n:=(G.Used.length:Int) - 1) (by omega) (by omega),show (G.Used.length:Int) - 1=((G.Used.length - 1:Nat):Int) by omega,at?_eq (A30 hL.1),ob]
  show (G3 (itF x (hd G).Gen)).bind _=_
  rw [Ex,ob,W2 hG.1]
  dsimp only
  rw [e1',ob,if_neg (by simp),e2,ob,app?_ok (by simp; omega) (by simp; omega),ob,ob,Kt,A2z hL.1]
  have hvx:x.Rec.Valid≤3∧1≤x.Rec.Valid:=by rw [hx2]; omega
  rw [C1 (n:=x.Seq+1) (by omega) (by omega),C1 (n:=x.Rec.Valid+1) (by omega) (by omega),C1 (n:=(hd G).End+_) (by omega) (by omega)]
  unfold appG
  have hvG:=hW.valid
  congr 2
  have s1:(if x.Seq+1>G.NextSeq then x.Seq+1 else G.NextSeq)=(if x.Seq≥G.NextSeq then x.Seq+1 else G.NextSeq):=by
   split <;> split <;> omega
  have s2:(if x.Rec.Valid+1>G.NextValid then x.Rec.Valid+1 else G.NextValid)=(if x.Rec.Valid≥G.NextValid then x.Rec.Valid+1 else G.NextValid):=by
   split <;> split <;> omega
  rw [s1,s2,show 256*(G.Used.length - 1+1)=256*G.Used.length by omega]
 rw [A6f hw (by omega) hx1 hrx]
 unfold W6 Bi
 rw [hxx,hclone,ob,hlast,ob,hmax,Zp hrx.rs,ob,Lg hrx hg.1]
 dsimp only
 rw [Mz hw hz (by omega),ob,if_pos rfl,if_neg (by simp),if_neg (by simp; omega),if_neg (by simp),Ju (hw.lgn (by omega)),ob,app?_ok (by simp; omega) (by simp; omega),ob,Pz hszx,hits,ob,if_pos rfl,ob,if_neg (by simp),ob,ob,Yt,ob]
 unfold frameSize
 rw [← hf1,C1 (n:=(hd g).End+_) (by omega) (by omega)]
 by_cases c:(hd g).End+((C8 (itF x (hd g).Gen)).length:Int)>256
 ·rw [if_pos (by simpa using c),if_pos c,A4l hw (by omega) (by omega),ob]
  by_cases c2:(1:Int)<((n - g.Used.length:Nat):Int)
  ·have hu:g.Used.length<n:=by omega
   have hi:C2 (openG g)=C2 g:=by unfold C2 openG; simp
   have hend:(hd (openG g)).End=((hdT g.NextGen).length:Int):=by rw [Ws]
   have hgen:(hd (openG g)).Gen=(g.Used.length:Int)+1:=by rw [Ws]; exact hw.gen
   have hh:(hdT g.NextGen).length=10:=by
    rw [Wu (by rw [hw.gen]; omega),Js (by unfold hdF; simp only; rw [hw.gen]; omega) (by unfold hdF; simp only; omega) (by simp [hdF])]
    rfl
   have hg2:=La (x:=x) (gen:=(hd (openG g)).Gen) hrx (by omega) (by omega)
   rw [if_pos c2,if_pos c2]
   dsimp only
   rw [if_neg (by simp),if_pos rfl]
   have:=fin (openG g) (hw.openG hu) (hz.openG hw hu) (by rw [hi]; exact hm) rfl (by omega)
   unfold itF at this ⊢
   dsimp only at this ⊢
   rw [this]; rfl
  ·rw [if_neg c2,if_neg c2]
   rfl
 ·rw [if_neg (by simpa using c),if_neg c,if_pos rfl]
  have:=fin g hw hz hm rfl (by omega)
  unfold itF at this ⊢
  dsimp only at this ⊢
  rw [this]; rfl
theorem Zl {l:List (List UInt8)} (h:l.length≤1048576):X6 l l=some true:=by
 unfold X6
 rw [if_neg (by simp),Ay (n:=l.length) h]
 ·rfl
 ·intro i hi
  unfold Am
  simp only [dlt hi,if_true,at?_nat hi,ob,C5 (show i<9223372036854775807 by omega),beq_self_eq_true,Bool.not_true,Bool.false_eq_true,if_false]
 ·unfold Am; simp
theorem A1g {d:TDisk} (h:DkS d):Aw d d=some true:=by
 have hc:=h.cache.1
 unfold Aw
 rw [Zl h.sec.1,ob,if_pos rfl,if_neg (by simp),ob,if_neg (by simp),Ay (n:=d.Cache.length) hc]
 ·rfl
 ·intro i hi
  unfold Bj
  simp [at?_nat hi,hi,C5 (show i<9223372036854775807 by omega)]
 ·unfold Bj; simp
theorem A83 {b:List Int} (hb:b.length≤1048576):∃ r,Cf b=some r∧RecD r:=by
 obtain ⟨h,e⟩:=A7v hb
 unfold Cf
 rw [e,ob]
 exact Dr.get (A8c (iok0 hb)) fun g i h hg _=>⟨g,rfl,hg⟩
theorem A4n {n:Nat} {S0:Nat→List UInt8} {g:TLog} (hw:W n S0 g) {x:TItem} (hx:x.Seq=g.NextSeq) (hr:RecD x.Rec) {keep:Int} (hk:0≤keep) (h:(appS n g x keep).1=true):C2 (appS n g x keep).2=C2 g++[x]:=by
 have hi:C2 (openG g)=C2 g:=by unfold C2 openG; simp
 rcases Pr n g x keep with ⟨_,e⟩ | ⟨_,e,_⟩ | ⟨T,e,_,_,_,c⟩ | ⟨T,e,_,_,_,c,c'⟩
 ·rw [e] at h; cases h
 ·rw [e] at h; cases h
 ·rw [e]; exact (hw.appG hx hr c).2
 ·rw [e]
  have:=((hw.openG (by omega)).appG (x:=x) (T:=T) hx hr c).2
  rw [hi] at this; exact this
theorem Zf {x:List Int} (_w:x.length≤maxLen∧∀ a∈x,(Lit.int .u8 a).wf=true):Cv x=some true:=by
 unfold Cv
 by_cases hb:(x.length:Int)>1048576
 ·rw [A8h hb]; rfl
 rw [A9a hb,ob,if_neg (by simp)]
 have hx:x.length≤1048576:=by omega
 obtain ⟨g,e1,n,hn,hw,hm,hz⟩:=A6o hx
 obtain ⟨r,e2,hr⟩:=A83 hx
 rw [e1,ob,e2,ob,Wa hw hz (by omega) hr,ob,Wn hw hz (by omega) hr,ob]
 have hseq:=hw.seq
 cases hc:(appS n g { Seq:=g.NextSeq,Rec:=r } 1).1
 ·rw [if_neg (by simp)]
  rw [if_neg (by simp),A3e (hw.lgn (by omega)),ob,if_pos rfl,A1g (DkS.ofOk hw.ok),ob,if_pos rfl,ob,if_neg (by simp),if_pos (by simp),ob,if_pos rfl,Mz hw hz (by omega)]
  rfl
 ·have hA:=hw.appS (x:={ Seq:=g.NextSeq,Rec:=r }) rfl hr (keep:=1) (by omega)
  have hZ:=hz.appS hw (x:={ Seq:=g.NextSeq,Rec:=r }) (keep:=1) (by omega)
  have hI:=A4n hw (x:={ Seq:=g.NextSeq,Rec:=r }) rfl hr (keep:=1) (by omega) hc
  generalize (appS n g { Seq:=g.NextSeq,Rec:=r } 1).2=a at hA hZ hI
  obtain ⟨hA,hl⟩:=hA
  have hs:=hA.seq
  have hlen:(C2 a).length=(C2 g).length+1:=by rw [hI]; simp
  rw [if_pos rfl]
  dsimp only
  rw [if_neg (by simp),A3e (hA.lgn (by omega)),ob,if_pos rfl,A1g (DkS.ofOk hA.ok),ob,if_pos rfl,ob,if_neg (by simp),if_neg (by simp),Ju (hA.lgn (by omega)),ob,Jv (hw.lgn (by omega)),ob,Mz hA hZ (by omega),ob,if_pos rfl]
  have hat:at? (C2 a) ((C2 g).length:Int)=some { Seq:=g.NextSeq,Rec:=r }:=by
   rw [hI]
   refine at?_eq ?_
   rw [List.getElem?_append_right (Nat.le_refl _),Nat.sub_self]; rfl
  have hsub:sub? (C2 a) 0 ((C2 g).length:Int)=some (C2 g):=by
   rw [sub?_take (by omega),hI,List.take_left]
  rw [if_pos (by rw [C1 (by omega) (by omega)]; simp; omega),hsub,ob,A07 (by omega),ob,if_pos rfl,hat,ob]
  dsimp only
  rw [if_pos (by simp),ob]
  dsimp only
  rw [if_pos (by simp),C1 (by omega) (by omega),show (a.NextSeq==g.NextSeq+1)=true by simp; omega]
  rfl
end Go.Proofs.YtldndhdohlfpgaaGreat.V
