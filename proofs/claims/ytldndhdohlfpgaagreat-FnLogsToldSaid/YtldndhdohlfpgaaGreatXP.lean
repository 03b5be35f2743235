/- The pure part. -/
import Derived.Test.YtldndhdohlfpgaaGreatXT
namespace Go.Proofs.YtldndhdohlfpgaaGreat.V
open Go Go.Proofs Go.RowKit
set_option maxRecDepth 100000
theorem ob {α β:Type} (a:α) (f:α→Option β):(some a).bind f=f a:=rfl
theorem J6 {σ ρ:Type} {step:σ→Option (σ ⊕ ρ)} (st:Nat→σ) (n:Nat) {r:ρ} (hs:∀ i,i<n→step (st i)=some (.inl (st (i+1)))) (he:step (st n)=some (.inr r)):iter step (st 0)=some r:=by
 have key:∀ d i,i+d=n→iter step (st i)=some r:=by
  intro d
  induction d with
  | zero => intro i hi; have : i = n := by omega
            subst this; exact D5 he
  | succ d ih=>intro i hi; rw [K5 (hs i (by omega))]; exact ih (i+1) (by omega)
 exact key n 0 (by omega)
theorem C0 {n:Int} (h:-9223372036854775808≤n) (h':n<9223372036854775808):w64 n=n:=by
 unfold w64 IntKind.wrap
 simp [IntKind.bits,IntKind.signed]
 omega
theorem Fh {n:Nat} (h:n<9223372036854775808):w64 (n:Int)=n:=C0 (by omega) (by omega)
theorem C4 {n:Nat} (h:n<9223372036854775807):w64 ((n:Int)+1)=((n+1:Nat):Int):=by rw [C0 (by omega) (by omega)]; omega
theorem Hb (n:Int):IntKind.u8.wrap n=n%256:=by
 unfold IntKind.wrap
 simp [IntKind.bits,IntKind.signed]
theorem Te (n:Int):IntKind.u32.wrap n=n%4294967296:=by
 unfold IntKind.wrap
 simp [IntKind.bits,IntKind.signed]
theorem at?_nat {α:Type} {l:List α} {i:Nat} (h:i<l.length):at? l (i:Int)=some l[i]:=by
 unfold at?
 rw [if_pos ⟨by omega,by omega⟩]
 simp [h]
theorem bt?_nat {s:List UInt8} {i:Nat} (h:i<s.length):bt? s (i:Int)=some s[i]:=by
 unfold bt?
 rw [if_pos (by omega)]
 simp [h]
theorem cat?_ok {s t:List UInt8} (h:s.length+t.length≤4611686018427387904):cat? s t=some (s++t):=by unfold cat?; rw [if_pos h]
theorem app?_ok {α:Type} {byt:Nat} {l m:List α} (h:l.length+m.length≤1099511627776) (h2:(l.length+m.length)*byt≤140737488355328):app? byt l m=some (l++m):=by unfold app?; rw [if_pos ⟨h,h2⟩]
theorem andv127 {n:Nat} (h':n<9223372036854775808):andv .i64 n 127=((n%128:Nat):Int):=by
 show IntKind.i64.wrap ((BitVec.ofInt 64 (n:Int) &&& BitVec.ofInt 64 127).toNat:Int)=_
 have e1:BitVec.ofInt 64 (n:Int)=BitVec.ofNat 64 n:=by simp
 have e2:BitVec.ofInt 64 (127:Int)=BitVec.ofNat 64 127:=by simp
 rw [e1,e2]
 have e3:(BitVec.ofNat 64 n &&& BitVec.ofNat 64 127).toNat=n%128:=by
  rw [BitVec.toNat_and]
  simp only [BitVec.toNat_ofNat]
  rw [Nat.mod_eq_of_lt (a:=n) (by omega)]
  exact Nat.and_two_pow_sub_one_eq_mod n 7
 rw [e3]
 exact Fh (by omega)
theorem orv128 {n:Nat} (h:n<128):orv .i64 n 128=((n+128:Nat):Int):=by
 show IntKind.i64.wrap ((BitVec.ofInt 64 (n:Int) ||| BitVec.ofInt 64 128).toNat:Int)=_
 have e1:BitVec.ofInt 64 (n:Int)=BitVec.ofNat 64 n:=by simp
 have e2:BitVec.ofInt 64 (128:Int)=BitVec.ofNat 64 128:=by simp
 rw [e1,e2]
 have e3:(BitVec.ofNat 64 n ||| BitVec.ofNat 64 128).toNat=n+128:=by
  rw [BitVec.toNat_or]
  simp only [BitVec.toNat_ofNat]
  rw [Nat.mod_eq_of_lt (a:=n) (by omega)]
  have:=Nat.two_pow_add_eq_or_of_lt (i:=7) (b:=n) (by omega) 1
  rw [Nat.or_comm] at this
  simp at this ⊢
  omega
 rw [e3]
 exact Fh (by omega)
theorem andv1 {n:Nat} (h':n<4294967296):andv .u32 n 1=((n%2:Nat):Int):=by
 show IntKind.u32.wrap ((BitVec.ofInt 32 (n:Int) &&& BitVec.ofInt 32 1).toNat:Int)=_
 have e1:BitVec.ofInt 32 (n:Int)=BitVec.ofNat 32 n:=by simp
 have e2:BitVec.ofInt 32 (1:Int)=BitVec.ofNat 32 1:=by simp
 rw [e1,e2]
 have e3:(BitVec.ofNat 32 n &&& BitVec.ofNat 32 1).toNat=n%2:=by
  rw [BitVec.toNat_and]
  simp only [BitVec.toNat_ofNat]
  rw [Nat.mod_eq_of_lt (a:=n) (by omega)]
  exact Nat.and_two_pow_sub_one_eq_mod n 1
 rw [e3,Te]
 omega
theorem shrv7 (n:Int):shrv .i64 n 7=n / 128:=by
 unfold shrv
 rw [Int.fdiv_eq_ediv_of_nonneg _ (by decide)]
 rfl
theorem shrv1 (n:Int):shrv .u32 n 1=n / 2:=by
 unfold shrv
 rw [Int.fdiv_eq_ediv_of_nonneg _ (by decide)]
 rfl
def vtl (n:Nat):List Int:=if h:127<n then ((n%128+128:Nat):Int)::vtl (n / 128) else [(n:Int)]
 termination_by n
 decreasing_by omega
theorem Ml {n:Nat} (h:127<n):vtl n=((n%128+128:Nat):Int)::vtl (n / 128):=by rw [vtl,dif_pos h]
theorem Ap {n:Nat} (h:n≤127):vtl n=[(n:Int)]:=by rw [vtl,dif_neg (by omega)]
theorem A6n:∀ (k n:Nat),n<128 ^ k→(vtl n).length≤k+1
 | 0,n,h=>by rw [Ap (by simp at h; omega)]; simp
 | k+1,n,h=>by
  by_cases hb:127<n
  ·rw [Ml hb]
   have:=A6n k (n / 128) (by rw [Nat.pow_succ] at h; exact Nat.div_lt_of_lt_mul (by rw [Nat.mul_comm]; exact h))
   simp; omega
  ·rw [Ap (by omega)]; simp
theorem A7b {n:Nat} (h:n<9223372036854775808):(vtl n).length≤11:=A6n 10 n (Nat.lt_trans h (by decide))
theorem A46 {step:Int×List Int→Option ((Int×List Int) ⊕ (Int×List Int))}
  (hbig:∀ (n:Nat) out,127<n→n<9223372036854775808→out.length≤1000→step ((n:Int),out)=some (.inl (((n / 128:Nat):Int),out++[((n%128+128:Nat):Int)])))
  (hsmall:∀ (n:Int) out,n≤127→step (n,out)=some (.inr (n,out))) :
  ∀ (n:Nat) (out:List Int),n<9223372036854775808→out.length+11≤1000→∃ (m:Nat) (o:List Int),iter step ((n:Int),out)=some ((m:Int),o)∧m≤127∧o++[(m:Int)]=out++vtl n∧o.length≤1000:=by
 have key:∀ (k n:Nat) (out:List Int),n<128 ^ k→n<9223372036854775808→out.length+k≤1000→∃ (m:Nat) (o:List Int),iter step ((n:Int),out)=some ((m:Int),o)∧m≤127∧o++[(m:Int)]=out++vtl n∧o.length≤1000:=by
  intro k
  induction k with
  | zero =>
   intro n out hk hn ho
   have h1:n≤127:=by simp at hk; omega
   exact ⟨n,out,D5 (hsmall n out (by omega)),h1,by rw [Ap h1],by omega⟩
  | succ k ih =>
   intro n out hk hn ho
   by_cases hb:127<n
   ·obtain ⟨m,o,h1,h2,h3,h4⟩:=ih (n / 128) (out++[((n%128+128:Nat):Int)]) (by rw [Nat.pow_succ] at hk; exact Nat.div_lt_of_lt_mul (by rw [Nat.mul_comm]; exact hk)) (by omega) (by simp; omega)
    refine ⟨m,o,?_,h2,?_,h4⟩
    ·rw [K5 (hbig n out hb hn (by omega))]; exact h1
    ·rw [h3,Ml hb]; simp
   ·exact ⟨n,out,D5 (hsmall n out (by omega)),by omega,by rw [Ap (by omega)],by omega⟩
 intro n out hn ho
 exact key 11 n out (Nat.lt_trans hn (by decide)) hn ho
def vt (n:Int):List UInt8:=if 0≤n then (vtl n.toNat).map ofI else [ofI (n%256)]
theorem T2 {n:Int} (h:-9223372036854775808≤n) (h':n<9223372036854775808):E1 n=some (vt n):=by
 have hsmall:∀ (n:Int) out,n≤127→X4 (n,out)=some (.inr (n,out)):=by
  intro n out hn
  unfold X4
  simp [show ¬ n>127 by omega]
 unfold E1 vt
 by_cases h0:0≤n
 ·obtain ⟨m,rfl⟩:∃ m:Nat,n=m:=⟨n.toNat,by omega⟩
  obtain ⟨m',o,h1,h2,h3,h4⟩:=A46 (step:=X4) (by
   intro n out hb hn ho
   unfold X4
   have e1:w64 (Int.tmod (n:Int) 128+128)=((n%128+128:Nat):Int):=by
    rw [Int.tmod_eq_emod_of_nonneg (by omega),C0 (by omega) (by omega)]; omega
   have e2:w64 (Int.tdiv (n:Int) 128)=((n / 128:Nat):Int):=by
    rw [Int.tdiv_eq_ediv_of_nonneg (by omega),C0 (by omega) (by omega)]; omega
   have e3:IntKind.u8.wrap ((n%128+128:Nat):Int)=((n%128+128:Nat):Int):=by rw [Hb]; omega
   simp only [show decide ((n:Int)>127)=true from by simp; omega,if_true,e1,e2,e3]
   rw [app?_ok (by simp; omega) (by simp; omega)]
   rfl) hsmall m [] (by omega) (by simp)
  rw [if_pos h0,h1]
  simp only [ob]
  rw [app?_ok (by simp; omega) (by simp; omega)]
  simp only [ob,Hb]
  rw [show ((m':Int)%256)=m' by omega,h3]
  simp
 ·rw [if_neg h0,D5 (hsmall n [] (by omega))]
  simp only [ob]
  rw [app?_ok (by simp) (by simp)]
  simp [Hb]
theorem Lm {n:Int} (h:-9223372036854775808≤n) (h':n<9223372036854775808):M5 n=some (vt n):=by
 have hsmall:∀ (n:Int) out,n≤127→U8 (n,out)=some (.inr (n,out)):=by
  intro n out hn
  unfold U8
  simp [show ¬ n>127 by omega]
 unfold M5 vt
 by_cases h0:0≤n
 ·obtain ⟨m,rfl⟩:∃ m:Nat,n=m:=⟨n.toNat,by omega⟩
  obtain ⟨m',o,h1,h2,h3,h4⟩:=A46 (step:=U8) (by
   intro n out hb hn ho
   unfold U8
   have e1:orv .i64 (andv .i64 (n:Int) 127) 128=((n%128+128:Nat):Int):=by
    rw [andv127 hn,orv128 (by omega)]
   have e2:shrv .i64 (n:Int) 7=((n / 128:Nat):Int):=by rw [shrv7]; omega
   have e3:IntKind.u8.wrap ((n%128+128:Nat):Int)=((n%128+128:Nat):Int):=by rw [Hb]; omega
   simp only [show decide ((n:Int)>127)=true from by simp; omega,if_true,e1,e2,e3]
   rw [app?_ok (by simp; omega) (by simp; omega)]
   rfl) hsmall m [] (by omega) (by simp)
  rw [if_pos h0,h1]
  simp only [ob]
  rw [app?_ok (by simp; omega) (by simp; omega)]
  simp only [ob,Hb]
  rw [show ((m':Int)%256)=m' by omega,h3]
  simp
 ·rw [if_neg h0,D5 (hsmall n [] (by omega))]
  simp only [ob]
  rw [app?_ok (by simp) (by simp)]
  simp [Hb]
theorem J7 {n:Int} (h':n<9223372036854775808):(vt n).length≤11:=by
 unfold vt
 split
 ·simp; exact A7b (by omega)
 ·simp
def sumBit (n:Nat):Nat:=if n%2=1 then (xorv .u32 ((n / 2:Nat):Int) 3558460437).toNat else n / 2
theorem Hl (x y:Int):0≤xorv .u32 x y∧xorv .u32 x y<4294967296:=by
 unfold xorv
 rw [Te]
 omega
theorem A7c {n:Nat} (h:n<4294967296):sumBit n<4294967296:=by
 unfold sumBit
 have:=Hl ((n / 2:Nat):Int) 3558460437
 split <;> omega
def iterK {α:Type} (f:α→α):Nat→α→α
 | 0,a=>a
 | k+1,a=>f (iterK f k a)
theorem A4e (k:Nat) {n:Nat} (h:n<4294967296):iterK sumBit k n<4294967296:=by
 induction k with
 | zero=>exact h
 | succ k ih=>exact A7c ih
theorem A72 {n:Nat} (h:n<4294967296):iter Ax ((n:Int),0)=some ((iterK sumBit 8 n:Nat):Int):=by
 refine J6 (fun k=>(((iterK sumBit k n:Nat):Int),(k:Int))) 8 ?_ ?_
 ·intro k hk
  have hl:=A4e k h
  unfold Ax
  have e0:w64 ((k:Int)+1)=((k+1:Nat):Int):=C4 (by omega)
  generalize hm:iterK sumBit k n=m at hl
  have e1:IntKind.u32.wrap (Int.tdiv (m:Int) 2)=((m / 2:Nat):Int):=by
   rw [Te,Int.tdiv_eq_ediv_of_nonneg (by omega)]; omega
  have e2:Int.tmod (m:Int) 2=((m%2:Nat):Int):=by rw [Int.tmod_eq_emod_of_nonneg (by omega)]; omega
  simp only [show decide ((k:Int)<8)=true from by simp; omega,if_true,e0,e1,e2]
  have e3:iterK sumBit (k+1) n=sumBit m:=by simp [iterK,hm]
  rw [e3]
  unfold sumBit
  by_cases hb:m%2=1
  ·have:=Hl ((m / 2:Nat):Int) 3558460437
   simp only [hb,if_true]
   rw [if_pos (by simp)]
   congr 3
  ·rw [if_neg (by simp; omega),if_neg hb]
 ·unfold Ax
  simp
theorem A7f {n:Nat} (h:n<4294967296):iter Z5 ((n:Int),0)=some ((iterK sumBit 8 n:Nat):Int):=by
 refine J6 (fun k=>(((iterK sumBit k n:Nat):Int),(k:Int))) 8 ?_ ?_
 ·intro k hk
  have hl:=A4e k h
  unfold Z5
  have e0:w64 ((k:Int)+1)=((k+1:Nat):Int):=C4 (by omega)
  generalize hm:iterK sumBit k n=m at hl
  have e1:shrv .u32 (m:Int) 1=((m / 2:Nat):Int):=by rw [shrv1]; omega
  have e2:andv .u32 (m:Int) 1=((m%2:Nat):Int):=andv1 hl
  simp only [show decide ((k:Int)<8)=true from by simp; omega,if_true,e0,e1,e2]
  have e3:iterK sumBit (k+1) n=sumBit m:=by simp [iterK,hm]
  rw [e3]
  unfold sumBit
  by_cases hb:m%2=1
  ·have:=Hl ((m / 2:Nat):Int) 3558460437
   simp only [hb,if_true]
   rw [if_pos (by simp)]
   congr 3
  ·rw [if_neg (by simp; omega),if_neg hb]
 ·unfold Z5
  simp
def sumB (n:Nat) (c:UInt8):Nat:=iterK sumBit 8 (xorv .u32 (n:Int) (c.toNat:Int)).toNat
def sumL (n:Nat) (s:List UInt8):Nat:=s.foldl sumB n
theorem A4u {step:List UInt8→Int×Int→Option ((Int×Int) ⊕ Int)} {s:List UInt8} (hs:s.length<9223372036854775807) {n:Nat}
  (h1:∀ (m i:Nat) (h:i<s.length),step s ((m:Int),(i:Int))=some (.inl ((sumB m s[i]:Nat),((i+1:Nat):Int))))
  (h2:∀ m:Nat,step s ((m:Int),(s.length:Int))=some (.inr (m:Int))):iter (step s) ((n:Int),0)=some ((sumL n s:Nat):Int):=by
 refine J6 (fun i=>(((sumL n (s.take i):Nat):Int),(i:Int))) s.length ?_ ?_
 ·intro i hi
  have e:sumL n (s.take (i+1))=sumB (sumL n (s.take i)) s[i]:=by
   unfold sumL
   rw [List.take_succ_eq_append_getElem hi,List.foldl_append]
   rfl
  rw [h1 _ i hi,e]
 ·rw [List.take_length]; exact h2 _
theorem A8g (c:UInt8):IntKind.u32.wrap (c.toNat:Int)=c.toNat:=by
 rw [Te]
 have:=c.toNat_lt
 omega
theorem A8t {s:List UInt8} (hs:s.length<9223372036854775807) (n:Nat):Ct (n:Int) s=some ((sumL n s:Nat):Int):=by
 unfold Ct
 rw [A4u (step:=Av) hs]
 ·rfl
 ·intro m i hi
  unfold Av
  simp only [show decide ((i:Int)<(s.length:Int))=true from by simp; omega,if_true,bt?_nat hi,ob,A8g,C4 (show i<9223372036854775807 by omega)]
  have hx:=Hl (m:Int) ((s[i]).toNat:Int)
  have:xorv .u32 (m:Int) ((s[i]).toNat:Int)=((xorv .u32 (m:Int) ((s[i]).toNat:Int)).toNat:Int):=by omega
  rw [this,A72 (by omega)]
  rfl
 ·intro m
  unfold Av
  simp
theorem A8v {s:List UInt8} (hs:s.length<9223372036854775807) (n:Nat):Cr (n:Int) s=some ((sumL n s:Nat):Int):=by
 unfold Cr
 rw [A4u (step:=Aw) hs]
 ·rfl
 ·intro m i hi
  unfold Aw
  simp only [show decide ((i:Int)<(s.length:Int))=true from by simp; omega,if_true,bt?_nat hi,ob,A8g,C4 (show i<9223372036854775807 by omega)]
  have hx:=Hl (m:Int) ((s[i]).toNat:Int)
  have:xorv .u32 (m:Int) ((s[i]).toNat:Int)=((xorv .u32 (m:Int) ((s[i]).toNat:Int)).toNat:Int):=by omega
  rw [this,A7f (by omega)]
  rfl
 ·intro m
  unfold Aw
  simp
def four (n:Int):List UInt8:=[IntKind.u8.wrap (shrv .u32 n 24),IntKind.u8.wrap (shrv .u32 n 16),IntKind.u8.wrap (shrv .u32 n 8),IntKind.u8.wrap n].map ofI
def sealL (s:List UInt8):List UInt8:=four (sumL 4294967295 s:Nat)
theorem Dg (s:List UInt8):(sealL s).length=4:=rfl
theorem A5c {s:List UInt8} (hs:s.length<9223372036854775807):Fe s=some ((sumL 4294967295 s:Nat):Int):=by
 unfold Fe
 have:=A8t hs 4294967295
 rw [show (4294967295:Int)=((4294967295:Nat):Int) from rfl,this]; rfl
theorem A5x {s:List UInt8} (hs:s.length<9223372036854775807):Ez s=some ((sumL 4294967295 s:Nat):Int):=by
 unfold Ez
 have:=A8v hs 4294967295
 rw [show (4294967295:Int)=((4294967295:Nat):Int) from rfl,this]; rfl
theorem A7u (n:Int):Fd n=some (four n):=rfl
theorem A7x {s:List UInt8} (hs:s.length<9223372036854775807):Gk s=some (sealL s):=by
 unfold Gk
 rw [A5x hs]; rfl
def sealed (s:List UInt8):List UInt8×Bool:=if 20000<s.length then ([],false) else (s++sealL s,true)
theorem Wc {s:List UInt8} (hs:s.length<9223372036854775807):Br s=some (sealed s):=by
 unfold Br sealed
 by_cases h:20000<s.length
 ·rw [if_pos (by simp; omega),if_pos h]
 ·rw [if_neg (by simp; omega),if_neg h,A5c hs]
  simp only [ob,A7u]
  rw [cat?_ok (by show s.length+4≤_; omega)]
  rfl
theorem A3s {s:List UInt8} (hs:s.length<9223372036854775807):Dw s=some (sealed s):=by
 unfold Dw sealed
 by_cases h:20000<s.length
 ·rw [if_pos (by simp; omega),if_pos h]
 ·rw [if_neg (by simp; omega),if_neg h,A7x hs]
  simp only [ob]
  rw [cat?_ok (by show s.length+4≤_; omega)]
  rfl
def inR (n lo hi:Int):Bool:=decide (lo≤n)&&decide (n≤hi)
theorem L1 (n lo hi:Int):B9 n lo hi=some (inR n lo hi):=by
 unfold B9 inR
 by_cases h:lo≤n <;> simp [h]
theorem T9 (n lo hi:Int):E3 n lo hi=some (inR n lo hi):=by
 unfold E3 inR
 by_cases h:lo≤n <;> simp [h]
def lowB (c:UInt8):Bool:=decide (97≤c.toNat)&&decide (c.toNat≤122)
def wordOk (s:List UInt8):Bool:=s.all lowB&&inR s.length 1 8
theorem Lr {σ ρ:Type} {step:σ→Option (σ ⊕ ρ)} (st:Nat→σ) (n:Nat) (p:Nat→Bool) {bad good:ρ} (h1:∀ i,i<n→p i=true→step (st i)=some (.inl (st (i+1)))) (h2:∀ i,i<n→p i=false→step (st i)=some (.inr bad)) (he:step (st n)=some (.inr good)) :
  iter step (st 0)=some (if (List.range n).all p then good else bad):=by
 have key:∀ d i,i+d=n→iter step (st i)=some (if ((List.range n).drop i).all p then good else bad):=by
  intro d
  induction d with
  | zero =>
   intro i hi
   have:i=n:=by omega
   subst this
   rw [D5 he,List.drop_eq_nil_of_le (by simp)]; simp
  | succ d ih =>
   intro i hi
   have hd:(List.range n).drop i=i::(List.range n).drop (i+1):=by
    rw [List.drop_eq_getElem_cons (by simp; omega)]; simp
   rw [hd]
   cases hp:p i with
   | true=>rw [K5 (h1 i (by omega) hp),ih (i+1) (by omega)]; simp [hp]
   | false=>rw [D5 (h2 i (by omega) hp)]; simp [hp]
 simpa using key n 0 (by omega)
theorem A1r {α:Type} (l:List α) (p:α→Bool):(List.range l.length).all (fun i=>match l[i]? with | some x=>p x | none=>true)=l.all p:=by
 rw [Bool.eq_iff_iff,List.all_eq_true,List.all_eq_true]
 constructor
 ·intro h x hx
  obtain ⟨i,hi⟩:=List.getElem?_of_mem hx
  have:=h i (List.mem_range.2 (qI hi).1)
  simpa [hi] using this
 ·intro h i hi
  have hi':=List.mem_range.1 hi
  rw [qG hi']
  exact h _ (List.getElem_mem hi')
theorem A1v {s:List UInt8} (hs:s.length<9223372036854775807):Bt s=some (wordOk s):=by
 have hl:iter (W9 s) 0=some (if s.all lowB then .inr () else .inl false):=by
  rw [← A1r]
  refine Lr (fun i=>(i:Int)) s.length _ ?_ ?_ ?_
  ·intro i hi hp
   rw [qG hi] at hp
   simp only [lowB,Bool.and_eq_true,decide_eq_true_eq] at hp
   unfold W9
   simp only [show decide ((i:Int)<(s.length:Int))=true from by simp; omega,if_true,bt?_nat hi,ob]
   rw [if_neg (by simp; omega),if_neg (by simp; omega)]
   simp [C4 (show i<9223372036854775807 by omega)]
  ·intro i hi hp
   rw [qG hi] at hp
   simp only [lowB,Bool.and_eq_false_iff,decide_eq_false_iff_not] at hp
   unfold W9
   simp only [show decide ((i:Int)<(s.length:Int))=true from by simp; omega,if_true,bt?_nat hi,ob]
   by_cases h:(s[i]).toNat<97
   ·rw [if_pos (by simp; omega)]; rfl
   ·rw [if_neg (by simp; omega),if_pos (by simp; omega)]; rfl
  ·unfold W9
   simp
 unfold Bt
 rw [hl]
 unfold wordOk
 cases s.all lowB <;> simp [L1]
theorem A1m {s:List UInt8} (hs:s.length<9223372036854775807):Bo s=some (wordOk s):=by
 have hl:iter (W8 s) 0=some (if s.all lowB then .inr () else .inl false):=by
  rw [← A1r]
  refine Lr (fun i=>(i:Int)) s.length _ ?_ ?_ ?_
  ·intro i hi hp
   rw [qG hi] at hp
   simp only [lowB,Bool.and_eq_true,decide_eq_true_eq] at hp
   unfold W8
   simp only [show decide ((i:Int)<(s.length:Int))=true from by simp; omega,if_true,bt?_nat hi,ob]
   rw [if_neg (by simp; omega),if_neg (by simp; omega)]
   simp [C4 (show i<9223372036854775807 by omega)]
  ·intro i hi hp
   rw [qG hi] at hp
   simp only [lowB,Bool.and_eq_false_iff,decide_eq_false_iff_not] at hp
   unfold W8
   simp only [show decide ((i:Int)<(s.length:Int))=true from by simp; omega,if_true,bt?_nat hi,ob]
   by_cases h:(s[i]).toNat<97
   ·rw [if_pos (by simp; omega)]; rfl
   ·rw [if_neg (by simp; omega),if_pos (by simp; omega)]; rfl
  ·unfold W8
   simp
 unfold Bo
 rw [T9,ob,hl]
 unfold wordOk
 cases s.all lowB <;> cases inR (s.length:Int) 1 8 <;> simp
theorem Ew {α:Type} {l:List α} {i:Nat} {x:α}:set' l (i:Int) x=l.set i x:=by simp [set']
theorem at?_eq {α:Type} {l:List α} {i:Nat} {x:α} (h:l[i]?=some x):at? l (i:Int)=some x:=by
 obtain ⟨h1,rfl⟩:=qI h
 exact at?_nat h1
theorem dlt {i:Nat} {n:Nat} (h:i<n):decide ((i:Int)<(n:Int))=true:=by simpa using h
theorem A6i {α:Type} {l:List α} {z:α} {step:Int×List α→Option ((Int×List α) ⊕ List α)} (hl:l.length<9223372036854775807)
  (h1:∀ (i:Nat) (h:i<l.length) (m:List α),m.length=l.length→step ((i:Int),m)=some (.inl (((i+1:Nat):Int),m.set i l[i])))
  (h2:∀ m:List α,step ((l.length:Int),m)=some (.inr m)):iter step (0,List.replicate l.length z)=some l:=by
 have:=J6 (step:=step) (fun i=>((i:Int),l.take i++List.replicate (l.length - i) z)) l.length (r:=l) ?_ ?_
 ·simpa using this
 ·intro i hi
  rw [h1 i hi _ (by simp; omega)]
  have e:(l.take i++List.replicate (l.length - i) z).set i l[i]=l.take (i+1)++List.replicate (l.length - (i+1)) z:=by
   have e1:l.length - i=(l.length - (i+1))+1:=by omega
   have e2:(l.take i).length=i:=by simp; omega
   rw [e1,List.replicate_succ,List.set_append_right _ _ (by omega),e2,Nat.sub_self,List.set_cons_zero,List.take_succ_eq_append_getElem hi,List.append_assoc]
   rfl
  rw [e]
 ·simp [h2]
theorem mk?_ok {α:Type} {byt:Nat} {z:α} {n:Nat} (h:n≤1099511627776) (h2:n*byt≤140737488355328):mk? byt z (n:Int)=some (List.replicate n z):=by
 unfold mk?
 have h3:((n*byt:Nat):Int)≤140737488355328:=by omega
 rw [if_pos ⟨by omega,by rw [Int.mul_comm]; rw [Int.natCast_mul] at h3; exact h3,by omega⟩]; simp
theorem Ka {α ρ:Type} {l:List α} {k:Nat} (hk:k≤l.length) {q:α→Bool} {step:Int→Option (Int ⊕ ρ)} {bad good:ρ} (h1:∀ (i:Nat) (h:i<l.length),i<k→step (i:Int)=if q l[i] then some (.inr bad) else some (.inl ((i+1:Nat):Int))) (h2:step (k:Int)=some (.inr good)):iter step 0=some (if (l.take k).any q then bad else good):=by
 have key:∀ d i,i+d=k→iter step (i:Int)=some (if ((l.take k).drop i).any q then bad else good):=by
  intro d
  induction d with
  | zero => intro i hi; have : i = k := by omega
            subst this; rw [D5 h2,List.drop_eq_nil_of_le (by simp; omega)]; simp
  | succ d ih =>
   intro i hi
   have hd:(l.take k).drop i=l[i]::(l.take k).drop (i+1):=by
    rw [List.drop_eq_getElem_cons (by simp; omega)]; simp
   rw [hd,List.any_cons]
   have hs:=h1 i (by omega) (by omega)
   cases hq:q l[i] with
   | true=>rw [hq] at hs; rw [D5 hs]; simp
   | false=>rw [hq] at hs; rw [K5 hs,ih (i+1) (by omega)]; simp
 simpa using key k 0 (by omega)
theorem Js {α:Type} {l:List α} {q:α→Bool} {step:Int→Option (Int ⊕ (Int ⊕ Unit))} (h1:∀ (i:Nat) (h:i<l.length),step (i:Int)=if q l[i] then some (.inr (.inl (i:Int))) else some (.inl ((i+1:Nat):Int))) (h2:step (l.length:Int)=some (.inr (.inr ()))):iter step 0=some (match l.findIdx? q with | some i=>.inl (i:Int) | none=>.inr ()):=by
 have key:∀ d i,i+d=l.length→iter step (i:Int)=some (match (l.drop i).findIdx? q with | some j=>.inl ((i+j:Nat):Int) | none=>.inr ()):=by
  intro d
  induction d with
  | zero => intro i hi; have : i = l.length := by omega
            subst this; rw [D5 h2,List.drop_eq_nil_of_le (by simp)]; simp
  | succ d ih =>
   intro i hi
   have hs:=h1 i (by omega)
   rw [List.drop_eq_getElem_cons (by omega),List.findIdx?_cons]
   cases hq:q l[i] with
   | true=>rw [hq] at hs; rw [D5 hs]; simp
   | false =>
    rw [hq] at hs; rw [K5 hs,ih (i+1) (by omega)]
    cases (l.drop (i+1)).findIdx? q with
    | none=>simp
    | some j=>simp; omega
 have:=key l.length 0 (by omega)
 simp only [List.drop_zero,Nat.zero_add] at this
 exact this
def idxI:Option Nat→Int
 | some i=>i
 | none=>-1
theorem Mu {α:Type} {l:List α} {q:α→Bool}:decide (idxI (l.findIdx? q)≥0)=l.any q:=by
 rw [← List.findIdx?_isSome]
 cases l.findIdx? q <;> simp [idxI]
theorem sub?_take {α:Type} {l:List α} {i:Nat} (h:i≤l.length):sub? l 0 (i:Int)=some (l.take i):=by
 unfold sub?
 simp
 omega
structure Xp (x:TRec):Prop where
 sUser:x.User.length≤1048576
 sName:x.Name.length≤1048576
 sText:x.Text.length≤1048576
structure Rx (x:TItem):Prop where
 sRec:Xp x.Rec
theorem Es {x0:List TSeg} {x1:Int} {q:TSeg→Bool} (hl:x0.length≤9223372036854775806) (hq:∀ y∈x0,T7 y x1=some (q y)):G3 x0 x1=some (idxI (x0.findIdx? q)):=by
 unfold G3
 rw [Js (l:=x0) (q:=q) ?_ ?_]
 ·cases x0.findIdx? q <;> rfl
 ·intro i hi
  unfold J5
  simp only [dlt hi,if_true,at?_nat hi,ob,hq _ (List.getElem_mem hi),C4 (show i<9223372036854775807 by omega)]
 ·unfold J5
  simp
theorem Dt {x0:List TSeg} {x1:Int} {q:TSeg→Bool} (hl:x0.length≤9223372036854775806) (hq:∀ y∈x0,T7 y x1=some (q y)):F3 x0 x1=some (x0.any q):=by
 unfold F3
 rw [Es hl hq,ob,Mu]
theorem Eg {x0:List (List UInt8)} {q:(List UInt8)→Bool} (hl:x0.length≤9223372036854775806) (hq:∀ y∈x0,W7 y=some (q y)):F7 x0=some (idxI (x0.findIdx? q)):=by
 unfold F7
 rw [Js (l:=x0) (q:=q) ?_ ?_]
 ·cases x0.findIdx? q <;> rfl
 ·intro i hi
  unfold H8
  simp only [dlt hi,if_true,at?_nat hi,ob,hq _ (List.getElem_mem hi),C4 (show i<9223372036854775807 by omega)]
 ·unfold H8
  simp
theorem Di {x0:List (List UInt8)} {q:(List UInt8)→Bool} (hl:x0.length≤9223372036854775806) (hq:∀ y∈x0,W7 y=some (q y)):E9 x0=some (x0.any q):=by
 unfold E9
 rw [Eg hl hq,ob,Mu]
theorem Ep {x0:List TWrite} {x1:TDisk} {q:TWrite→Bool} (hl:x0.length≤9223372036854775806) (hq:∀ y∈x0,R8 y x1=some (q y)):G4 x0 x1=some (idxI (x0.findIdx? q)):=by
 unfold G4
 rw [Js (l:=x0) (q:=q) ?_ ?_]
 ·cases x0.findIdx? q <;> rfl
 ·intro i hi
  unfold J4
  simp only [dlt hi,if_true,at?_nat hi,ob,hq _ (List.getElem_mem hi),C4 (show i<9223372036854775807 by omega)]
 ·unfold J4
  simp
theorem Dq {x0:List TWrite} {x1:TDisk} {q:TWrite→Bool} (hl:x0.length≤9223372036854775806) (hq:∀ y∈x0,R8 y x1=some (q y)):F1 x0 x1=some (x0.any q):=by
 unfold F1
 rw [Ep hl hq,ob,Mu]
theorem Fn {x0:List TSeg} {x1:TSeg} {q:TSeg→Bool} (hl:x0.length≤9223372036854775806) (hq:∀ y∈x0,Ay y x1=some (q y)):H9 x0 x1=some (idxI (x0.findIdx? q)):=by
 unfold H9
 rw [Js (l:=x0) (q:=q) ?_ ?_]
 ·cases x0.findIdx? q <;> rfl
 ·intro i hi
  unfold K3
  simp only [dlt hi,if_true,at?_nat hi,ob,hq _ (List.getElem_mem hi),C4 (show i<9223372036854775807 by omega)]
 ·unfold K3
  simp
theorem W4 {x0:List TSeg} {x1:TSeg} {q:TSeg→Bool} (hl:x0.length≤9223372036854775806) (hq:∀ y∈x0,Ay y x1=some (q y)):D4 x0 x1=some (x0.any q):=by
 unfold D4
 rw [Fn hl hq,ob,Mu]
theorem Fj {x0:List TItem} {x1:TLog} {q:TItem→Bool} (hl:x0.length≤9223372036854775806) (hq:∀ y∈x0,P2 y x1=some (q y)):H5 x0 x1=some (idxI (x0.findIdx? q)):=by
 unfold H5
 rw [Js (l:=x0) (q:=q) ?_ ?_]
 ·cases x0.findIdx? q <;> rfl
 ·intro i hi
  unfold K0
  simp only [dlt hi,if_true,at?_nat hi,ob,hq _ (List.getElem_mem hi),C4 (show i<9223372036854775807 by omega)]
 ·unfold K0
  simp
theorem W0 {x0:List TItem} {x1:TLog} {q:TItem→Bool} (hl:x0.length≤9223372036854775806) (hq:∀ y∈x0,P2 y x1=some (q y)):D2 x0 x1=some (x0.any q):=by
 unfold D2
 rw [Fj hl hq,ob,Mu]
theorem Et {x0:List TItem} {x1:TItem} {q:TItem→Bool} (hl:x0.length≤9223372036854775806) (hq:∀ y∈x0,V9 y x1=some (q y)):G0 x0 x1=some (idxI (x0.findIdx? q)):=by
 unfold G0
 rw [Js (l:=x0) (q:=q) ?_ ?_]
 ·cases x0.findIdx? q <;> rfl
 ·intro i hi
  unfold J3
  simp only [dlt hi,if_true,at?_nat hi,ob,hq _ (List.getElem_mem hi),C4 (show i<9223372036854775807 by omega)]
 ·unfold J3
  simp
theorem Dp {x0:List TItem} {x1:TItem} {q:TItem→Bool} (hl:x0.length≤9223372036854775806) (hq:∀ y∈x0,V9 y x1=some (q y)):F4 x0 x1=some (x0.any q):=by
 unfold F4
 rw [Et hl hq,ob,Mu]
def hit (a:Int) (l:List TWrite):Option TWrite:=l.foldl (fun o w=>if w.At==a then some w else o) none
theorem Pv (a:Int) (l:List TWrite) (w:TWrite):hit a (l++[w])=if w.At==a then some w else hit a l:=by
 unfold hit
 rw [List.foldl_append]; rfl
theorem A6j {a:Int} {l:List TWrite} {w:TWrite} (h:hit a l=some w):w∈l:=by
 have key:∀ (l:List TWrite) (o:Option TWrite),l.foldl (fun o w=>if w.At==a then some w else o) o=some w→w∈l∨o=some w:=by
  intro l
  induction l with
  | nil=>intro o h; exact .inr h
  | cons x l ih =>
   intro o h
   rcases ih _ h with h1 | h1
   ·exact .inl (List.mem_cons_of_mem _ h1)
   ·dsimp only at h1
    split at h1
    ·cases h1; exact .inl List.mem_cons_self
    ·exact .inr h1
 rcases key l none h with h1 | h1
 ·exact h1
 ·cases h1
def secV (o:Option TWrite) (z:List UInt8):List UInt8:=match o with | some w=>w.Text | none=>z
def rsec (d:TDisk) (a:Nat):List UInt8:=secV (hit (a:Int) d.Cache) ((d.Sectors[a]?).getD [])
structure DkS (d:TDisk):Prop where
 sec:d.Sectors.length≤1048576∧∀ y∈d.Sectors,y.length≤1048576
 cache:d.Cache.length≤1048576∧∀ y∈d.Cache,y.Text.length≤1048576
theorem A0j {d:TDisk} (h:DkS d) (a:Nat):(rsec d a).length≤1048576:=by
 unfold rsec secV
 split
 ·rename_i w hw; exact h.cache.2 w (A6j hw)
 ·by_cases ha:a<d.Sectors.length
  ·rw [qG ha]; exact h.sec.2 _ (List.getElem_mem ha)
  ·rw [List.getElem?_eq_none (by omega)]; simp
def readS (d:TDisk) (x:Int):List UInt8×Bool:=if inR x 0 ((d.Sectors.length:Int) - 1) then (rsec d x.toNat,true) else ([],false)
theorem Ed {d:TDisk} (h:DkS d) (x:Int):K4 d x=some (readS d x):=by
 have hs:=h.sec.1
 have hc:=h.cache.1
 unfold K4 readS
 rw [C0 (n:=(d.Sectors.length:Int) - 1) (by omega) (by omega),L1,ob]
 cases hr:inR x 0 ((d.Sectors.length:Int) - 1) with
 | false=>rfl
 | true =>
  unfold inR at hr
  simp only [Bool.and_eq_true,decide_eq_true_eq] at hr
  obtain ⟨a,rfl⟩:∃ a:Nat,x=a:=⟨x.toNat,by omega⟩
  have ha:a<d.Sectors.length:=by omega
  have key:∀ n:Nat,n≤d.Cache.length→iter (M7 d (a:Int)) ((n:Int) - 1)=some (match hit (a:Int) (d.Cache.take n) with | some w=>.inl (w.Text,true) | none=>.inr ()):=by
   intro n
   induction n with
   | zero =>
    intro _
    refine D5 ?_
    unfold M7
    simp [hit]
   | succ n ih =>
    intro hn
    have hn':n<d.Cache.length:=by omega
    have e0:(((n+1:Nat):Int) - 1)=(n:Int):=by omega
    rw [e0,List.take_succ_eq_append_getElem hn',Pv]
    by_cases c:d.Cache[n].At=(a:Int)
    ·refine D5 ?_
     unfold M7
     rw [if_pos (by simp),at?_nat hn',ob,if_pos (by simpa using c),if_pos (by simpa using c)]
     rfl
    ·rw [K5 (s':=((n:Int) - 1)),ih (by omega),if_neg (by simpa using c)]
     unfold M7
     rw [if_pos (by simp),at?_nat hn',ob,if_neg (by simpa using c),C0 (by omega) (by omega)]
  rw [if_pos rfl,C0 (n:=(d.Cache.length:Int) - 1) (by omega) (by omega),key _ (Nat.le_refl _),List.take_length,Int.toNat_natCast]
  unfold rsec secV
  cases hit (a:Int) d.Cache with
  | some w=>rfl
  | none=>simp [at?_nat ha,ha]
theorem Gn {d:TDisk} (h:DkS d) (x:Int):R9 d x=some (readS d x):=by
 have hs:=h.sec.1
 have hc:=h.cache.1
 unfold R9 readS
 rw [C0 (n:=(d.Sectors.length:Int) - 1) (by omega) (by omega),T9,ob]
 cases hr:inR x 0 ((d.Sectors.length:Int) - 1) with
 | false=>rfl
 | true =>
  unfold inR at hr
  simp only [Bool.and_eq_true,decide_eq_true_eq] at hr
  obtain ⟨a,rfl⟩:∃ a:Nat,x=a:=⟨x.toNat,by omega⟩
  have ha:a<d.Sectors.length:=by omega
  have key:=J6 (step:=T6 d (a:Int)) (fun i=>(secV (hit (a:Int) (d.Cache.take i)) d.Sectors[a],(i:Int))) d.Cache.length (r:=secV (hit (a:Int) d.Cache) d.Sectors[a]) ?_ ?_
  ·rw [if_pos rfl,at?_nat ha,ob]
   rw [show ((secV (hit (a:Int) (d.Cache.take 0)) d.Sectors[a],((0:Nat):Int)):List UInt8×Int)=(d.Sectors[a],0) from rfl] at key
   rw [key,ob,if_pos rfl,Int.toNat_natCast]
   unfold rsec
   rw [qG ha]; rfl
  ·intro i hi
   rw [List.take_succ_eq_append_getElem hi,Pv]
   unfold T6
   rw [if_pos (dlt hi),at?_nat hi,ob]
   by_cases c:d.Cache[i].At=(a:Int)
   ·rw [if_pos (by simpa using c),if_pos (by simpa using c),C4 (by omega)]; rfl
   ·rw [if_neg (by simpa using c),if_neg (by simpa using c),C4 (by omega)]
  ·unfold T6
   rw [List.take_length]; simp
def secT (d:TDisk) (f:Nat):Nat→List UInt8
 | 0=>[]
 | i+1=>secT d f i++rsec d (f+i)
theorem Ti {d:TDisk} (h:DkS d) (f:Nat):∀ n,(secT d f n).length≤1048576*n
 | 0=>by simp [secT]
 | n+1=>by
  have h1:=Ti h f n
  have h2:=A0j h (f+n)
  rw [secT,List.length_append]; omega
def sectorT (d:TDisk) (f n:Nat):List UInt8×Bool:=if f+n≤d.Sectors.length then (secT d f n,true) else ([],false)
theorem Me {d:TDisk} {a:Nat} (h:a<d.Sectors.length):readS d (a:Int)=(rsec d a,true):=by
 unfold readS
 rw [if_pos (by unfold inR; simp; omega)]; rfl
theorem Vc {d:TDisk} {a:Nat} (h:d.Sectors.length≤a):readS d (a:Int)=([],false):=by
 unfold readS
 rw [if_neg (by unfold inR; simp; omega)]
theorem Wh {d:TDisk} (h:DkS d) {f n:Nat} (h0:0<n) {step:List UInt8×Int→Option ((List UInt8×Int) ⊕ ((List UInt8×Bool) ⊕ List UInt8))}
  (h1:∀ (i:Nat) (o:List UInt8),i<n→f+i<d.Sectors.length→o.length≤1048576*i→step (o,(i:Int))=some (.inl (o++rsec d (f+i),((i+1:Nat):Int))))
  (h2:∀ (i:Nat) (o:List UInt8),i<n→d.Sectors.length≤f+i→step (o,(i:Int))=some (.inr (.inl ([],false))))
  (h3:∀ o,step (o,(n:Int))=some (.inr (.inr o))):(iter step ([],0)).bind (Sum.elim (fun r=>some r) (fun y=>some (y,true)))=some (sectorT d f n):=by
 unfold sectorT
 by_cases c:f+n≤d.Sectors.length
 ·have:=J6 (step:=step) (fun i=>(secT d f i,(i:Int))) n (r:=.inr (secT d f n)) ?_ (h3 _)
  ·rw [show ((secT d f 0,((0:Nat):Int)):List UInt8×Int)=([],0) from rfl] at this
   rw [this,if_pos c]; rfl
  ·intro i hi
   rw [h1 i _ hi (by omega) (Ti h f i)]; rfl
 ·have:=J6 (step:=step) (fun i=>(secT d f i,(i:Int))) (d.Sectors.length - f) (r:=.inl ([],false)) ?_ (h2 _ _ (by omega) (by omega))
  ·rw [show ((secT d f 0,((0:Nat):Int)):List UInt8×Int)=([],0) from rfl] at this
   rw [this,if_neg c]; rfl
  ·intro i hi
   rw [h1 i _ (by omega) (by omega) (Ti h f i)]; rfl
theorem Ws {d:TDisk} (h:DkS d) {f n:Nat} (hf:f≤1000) (h0:0<n) (hn:n≤100):Y2 d (f:Int) (n:Int)=some (sectorT d f n):=by
 unfold Y2
 rw [L1,ob,if_pos (by unfold inR; simp; omega)]
 have e:∀ i:Nat,i<n→w64 ((f:Int)+(i:Int))=((f+i:Nat):Int):=fun i hi=>by rw [C0 (by omega) (by omega)]; omega
 refine Wh h h0 ?_ ?_ ?_
 ·intro i o hi hb ho
  have hr:=A0j h (f+i)
  unfold T3
  rw [if_pos (by simpa using hi),if_neg (by simp),if_neg (by simp; omega),ob,if_neg (by simp),e i hi,Ed h,ob,Me hb]
  dsimp only
  rw [if_neg (by simp),cat?_ok (by omega),ob,C4 (by omega)]
 ·intro i o hi hb
  unfold T3
  rw [if_pos (by simpa using hi),if_neg (by simp)]
  by_cases c:(f:Int)>(d.Sectors.length:Int)
  ·rw [if_pos (by simpa using c),ob,if_pos rfl]
  ·rw [if_neg (by simpa using c),ob,if_neg (by simp),e i hi,Ed h,ob,Vc hb]
   rfl
 ·intro o
  unfold T3
  simp
theorem Xj {d:TDisk} (h:DkS d) {f n:Nat} (hf:f≤1000) (h0:0<n) (hn:n≤100):Y3 d (f:Int) (n:Int)=some (sectorT d f n):=by
 unfold Y3
 rw [T9,ob,if_pos (by unfold inR; simp; omega)]
 have e:∀ i:Nat,i<n→w64 ((f:Int)+(i:Int))=((f+i:Nat):Int):=fun i hi=>by rw [C0 (by omega) (by omega)]; omega
 refine Wh h h0 ?_ ?_ ?_
 ·intro i o hi hb ho
  have hr:=A0j h (f+i)
  unfold T8
  rw [if_pos (by simpa using hi),e i hi,Gn h,ob,Me hb]
  dsimp only
  rw [if_neg (by simp),cat?_ok (by omega),ob,C4 (by omega)]
 ·intro i o hi hb
  unfold T8
  rw [if_pos (by simpa using hi),e i hi,Gn h,ob,Vc hb]
  rfl
 ·intro o
  unfold T8
  simp
theorem Z4 {d:TDisk} (h:DkS d):D7 d=some d:=by
 have h1:=h.sec.1
 have h2:=h.cache.1
 unfold D7
 rw [app?_ok (by simp; omega) (by simp; omega),ob,app?_ok (by simp; omega) (by simp; omega),ob]
 rfl
theorem Jy {d:TDisk} (h:DkS d):J1 d=some d:=by
 have h1:=h.sec.1
 have h2:=h.cache.1
 unfold J1 Bv Cn
 rw [app?_ok (by simp; omega) (by simp; omega),ob,app?_ok (by simp; omega) (by simp; omega),ob]
 rfl
def wOk (n:Nat) (w:TWrite):Bool:=inR w.At 0 ((n:Int) - 1)&&w.Text.length==32
def E0 (d:TDisk):Bool:=inR (d.Sectors.length:Int) 1 100&&(decide (d.Cache.length≤60)&&(d.Sectors.all (fun s=>s.length==32)&&d.Cache.all (wOk d.Sectors.length)))
theorem L4 {d:TDisk}:E0 d=true↔(1≤d.Sectors.length∧d.Sectors.length≤100)∧d.Cache.length≤60∧(∀ s∈d.Sectors,s.length=32)∧∀ w∈d.Cache,(0≤w.At∧w.At≤(d.Sectors.length:Int) - 1)∧w.Text.length=32:=by
 unfold E0 wOk inR
 simp only [Bool.and_eq_true,decide_eq_true_eq,List.all_eq_true,beq_iff_eq]
 constructor
 ·rintro ⟨h1,h2,h3,h4⟩
  exact ⟨by omega,h2,h3,h4⟩
 ·rintro ⟨h1,h2,h3,h4⟩
  exact ⟨by omega,h2,h3,h4⟩
theorem Wa {α:Type} (l:List α) (p:α→Bool):l.any (fun x=>!p x)=!(l.all p):=by
 rw [List.all_eq_not_any_not,Bool.not_not]
theorem Eo {d:TDisk} (h:DkS d):Q0 d=some (E0 d):=by
 have h1:=h.sec.1
 have h2:=h.cache.1
 have a1:=Ka (l:=d.Sectors) (k:=d.Sectors.length) (by omega) (q:=fun s=>!(s.length==32)) (step:=Bk d) (bad:=.inl false) (good:=.inr ()) (by
  intro i hi _
  unfold Bk
  simp only [dlt hi,if_true,at?_nat hi,ob,C4 (show i<9223372036854775807 by omega)]
  by_cases c:d.Sectors[i].length=32
  ·rw [if_neg (by simp [c]),if_neg (by simp [c])]
  ·rw [if_pos (by simp; omega),if_pos (by simpa using c)]) (by unfold Bk; simp)
 have a2:=Ka (l:=d.Cache) (k:=d.Cache.length) (by omega) (q:=fun w=>!(wOk d.Sectors.length w)) (step:=Bj d) (bad:=.inl false) (good:=.inr ()) (by
  intro i hi _
  unfold Bj wOk
  simp only [dlt hi,if_true,at?_nat hi,ob,L1,C0 (n:=(d.Sectors.length:Int) - 1) (by omega) (by omega),C4 (show i<9223372036854775807 by omega)]
  cases inR d.Cache[i].At 0 ((d.Sectors.length:Int) - 1)
  ·simp
  ·by_cases c:d.Cache[i].Text.length=32
   ·simp [c]
   ·have c':¬ ((d.Cache[i].Text.length:Int)=32):=by omega
    simp [c,c']) (by unfold Bj; simp)
 rw [List.take_length,Wa] at a1 a2
 unfold Q0 E0
 rw [L1,ob]
 cases inR (d.Sectors.length:Int) 1 100 with
 | false=>rfl
 | true =>
  rw [if_pos rfl]
  by_cases c:d.Cache.length≤60
  ·rw [if_neg (by simp; omega),ob,if_neg (by simp),a1]
   cases d.Sectors.all (fun s=>s.length==32)
   ·simp
   ·simp only [Bool.not_true,Bool.false_eq_true,if_false,ob,Sum.elim_inr,a2]
    cases d.Cache.all (wOk d.Sectors.length) <;> simp [c]
  ·rw [if_pos (by simp; omega),ob,if_pos rfl]
   simp [c]
theorem Gg {d:TDisk} (h:DkS d):U1 d=some (E0 d):=by
 have h1:=h.sec.1
 have h2:=h.cache.1
 have a1:=Di (x0:=d.Sectors) (q:=fun s=>!(s.length==32)) (by omega) (fun s _=>by
  unfold W7
  by_cases c:s.length=32
  ·simp [c]
  ·have c':¬ ((s.length:Int)=32):=by omega
   rw [show ((s.length:Int) != 32)=true by simpa using c',show (s.length==32)=false by simpa using c]; rfl)
 have a2:=Dq (x0:=d.Cache) (x1:=d) (q:=fun w=>!(wOk d.Sectors.length w)) (by omega) (fun w _=>by
  unfold R8 wOk
  rw [T9,ob,C0 (n:=(d.Sectors.length:Int) - 1) (by omega) (by omega)]
  cases inR w.At 0 ((d.Sectors.length:Int) - 1)
  ·simp
  ·by_cases c:w.Text.length=32
   ·simp [c]
   ·have c':¬ ((w.Text.length:Int)=32):=by omega
    rw [if_pos rfl,show ((w.Text.length:Int) != 32)=true by simpa using c',show (w.Text.length==32)=false by simpa using c]; rfl)
 rw [Wa] at a1 a2
 unfold U1 E0
 rw [T9,ob]
 cases inR (d.Sectors.length:Int) 1 100 with
 | false=>rfl
 | true =>
  rw [if_pos rfl]
  by_cases c:d.Cache.length≤60
  ·rw [if_neg (by simp; omega),ob,if_neg (by simp),a1,ob]
   cases d.Sectors.all (fun s=>s.length==32)
   ·simp
   ·simp only [Bool.not_true,Bool.false_eq_true,if_false,a2,ob]
    cases d.Cache.all (wOk d.Sectors.length) <;> simp [c]
  ·rw [if_pos (by simp; omega),ob,if_pos rfl]
   simp [c]
def wr (d:TDisk) (k:Int) (t:List UInt8):Option TDisk:=if E0 d&&(inR k 0 ((d.Sectors.length:Int) - 1)&&(t.length==32&&decide (d.Cache.length<60))) then some { Sectors:=d.Sectors,Cache:=d.Cache++[{ At:=k,Text:=t }] } else none
def wrR (d:TDisk) (o:Option TDisk):TDisk×Bool:=match o with
 | some d'=>(d',true)
 | none=>(d,false)
theorem A8k {d d':TDisk} {k:Int} {t:List UInt8} (h:wr d k t=some d'):E0 d'=true∧d'.Sectors=d.Sectors:=by
 unfold wr at h
 split at h
 ·rename_i hc
  cases h
  simp only [Bool.and_eq_true,decide_eq_true_eq,beq_iff_eq] at hc
  obtain ⟨h1,h2,h3,h4⟩:=hc
  obtain ⟨g1,g2,g3,g4⟩:=L4.1 h1
  unfold inR at h2
  simp only [Bool.and_eq_true,decide_eq_true_eq] at h2
  refine ⟨L4.2 ⟨g1,by simp; omega,g3,?_⟩,rfl⟩
  intro w hw
  rcases List.mem_append.1 hw with hw | hw
  ·exact g4 w hw
  ·rw [List.mem_singleton] at hw; subst hw
   exact ⟨h2,h3⟩
 ·cases h
theorem DkS.ofOk {d:TDisk} (h:E0 d=true):DkS d:=by
 obtain ⟨h1,h2,h3,h4⟩:=L4.1 h
 exact ⟨⟨by omega,fun y hy=>by rw [h3 y hy]; omega⟩,by omega,fun y hy=>by rw [(h4 y hy).2]; omega⟩
theorem A2g {d:TDisk} (h:DkS d) (k:Int) (t:List UInt8):G8 d k t=some (wrR d (wr d k t)):=by
 have h1:=h.sec.1
 have h2:=h.cache.1
 unfold G8 wr
 rw [Z4 h,ob,Eo h,ob]
 cases E0 d with
 | false=>rfl
 | true =>
  rw [if_pos rfl,L1,ob,C0 (n:=(d.Sectors.length:Int) - 1) (by omega) (by omega)]
  cases inR k 0 ((d.Sectors.length:Int) - 1) with
  | false=>rfl
  | true =>
   rw [if_pos rfl]
   by_cases c:t.length=32
   ·rw [if_neg (by simp [c])]
    by_cases e:d.Cache.length<60
    ·rw [if_neg (by simp; omega),ob,if_neg (by simp),app?_ok (by simp; omega) (by simp; omega)]
     simp [c,e,wrR]
    ·rw [if_pos (by simp; omega),ob,if_pos rfl]
     simp [e,wrR]
   ·rw [if_pos (by simp; omega),ob,if_pos rfl]
    simp [c,wrR]
theorem Aa7 {d:TDisk} (h:DkS d) {k:Int} {t:List UInt8} (ht:t.length≤1048576) (hc:d.Cache.length≤1000):V1 d k t=some (wrR d (wr d k t)):=by
 have h1:=h.sec.1
 unfold V1 wr
 rw [Jy h,ob,app?_ok (by simp; omega) (by simp; omega),ob,Gg h,ob]
 cases hd:E0 d with
 | false=>rfl
 | true =>
  have h':DkS { Sectors:=d.Sectors,Cache:=d.Cache++[{ At:=k,Text:=t }] }:=by
   refine ⟨h.sec,by simp; omega,?_⟩
   intro y hy
   rcases List.mem_append.1 hy with hy | hy
   ·exact h.cache.2 y hy
   ·rw [List.mem_singleton] at hy; subst hy; exact ht
  obtain ⟨g1,g2,g3,g4⟩:=L4.1 hd
  rw [if_pos rfl,Gg h',ob]
  have e:E0 { Sectors:=d.Sectors,Cache:=d.Cache++[{ At:=k,Text:=t }] }=(inR k 0 ((d.Sectors.length:Int) - 1)&&(t.length==32&&decide (d.Cache.length<60))):=by
   rw [Bool.eq_iff_iff,L4]
   unfold inR
   simp only [Bool.and_eq_true,decide_eq_true_eq,beq_iff_eq,List.length_append,List.length_singleton]
   constructor
   ·rintro ⟨_,k2,_,k4⟩
    have:=k4 _ (List.mem_append_right _ (List.mem_singleton.2 rfl))
    exact ⟨this.1,this.2,by omega⟩
   ·rintro ⟨k1,k2,k3⟩
    refine ⟨g1,by omega,g3,?_⟩
    intro w hw
    rcases List.mem_append.1 hw with hw | hw
    ·exact g4 w hw
    ·rw [List.mem_singleton] at hw; subst hw; exact ⟨k1,k2⟩
  rw [e]
  cases (inR k 0 ((d.Sectors.length:Int) - 1)&&(t.length==32&&decide (d.Cache.length<60))) with
  | false=>simp [Jy h,wrR]
  | true=>simp [wrR]
def setW (s:List (List UInt8)) (w:TWrite):List (List UInt8):=s.set w.At.toNat w.Text
def flush (d:TDisk):TDisk:=if E0 d then { Sectors:=d.Cache.foldl setW d.Sectors,Cache:=[] } else d
theorem Ry:∀ (l:List TWrite) (s:List (List UInt8)),(l.foldl setW s).length=s.length
 | [],s=>rfl
 | w::l,s=>by rw [List.foldl_cons,Ry l]; simp [setW]
theorem A50:∀ (l:List TWrite) (s:List (List UInt8)),(∀ w∈l,w.Text.length=32)→(∀ x∈s,x.length=32)→∀ x∈l.foldl setW s,x.length=32
 | [],s,_,h,x,hx=>h x hx
 | w::l,s,hl,h,x,hx=>by
  rw [List.foldl_cons] at hx
  refine A50 l _ (fun w hw=>hl w (List.mem_cons_of_mem _ hw)) ?_ x hx
  intro y hy
  unfold setW at hy
  rcases List.mem_or_eq_of_mem_set hy with hy | hy
  ·exact h y hy
  ·rw [hy]; exact hl w List.mem_cons_self
theorem A9s {d:TDisk} (h:E0 d=true):E0 (flush d)=true:=by
 obtain ⟨h1,h2,h3,h4⟩:=L4.1 h
 unfold flush
 rw [if_pos h]
 refine L4.2 ⟨by rw [Ry]; exact h1,by simp,A50 _ _ (fun w hw=>(h4 w hw).2) h3,by simp⟩
theorem Xy {d:TDisk} (h:E0 d=true) {step:Int×List (List UInt8)→Option ((Int×List (List UInt8)) ⊕ List (List UInt8))}
  (h1:∀ (i:Nat) (o:List (List UInt8)) (hi:i<d.Cache.length),o.length=d.Sectors.length→step ((i:Int),o)=some (.inl (((i+1:Nat):Int),setW o d.Cache[i])))
  (h2:∀ o,step ((d.Cache.length:Int),o)=some (.inr o)):iter step (0,d.Sectors)=some (d.Cache.foldl setW d.Sectors):=by
 have:=J6 (step:=step) (fun i=>((i:Int),(d.Cache.take i).foldl setW d.Sectors)) d.Cache.length (r:=d.Cache.foldl setW d.Sectors) ?_ ?_
 ·simpa using this
 ·intro i hi
  rw [h1 i _ hi (Ry _ _),List.take_succ_eq_append_getElem hi,List.foldl_append]; rfl
 ·rw [h2,List.take_length]
theorem Pu {d:TDisk} (h:DkS d):F5 d=some (flush d):=by
 have h2:=h.cache.1
 unfold F5 flush
 rw [Z4 h,ob,Eo h,ob]
 by_cases c:E0 d=true
 ·rw [if_pos c,if_pos c,Xy c]
  ·rfl
  ·intro i o hi ho
   have hw:=(L4.1 c).2.2.2 _ (List.getElem_mem hi)
   obtain ⟨n,hn⟩:∃ n:Nat,d.Cache[i].At=n:=⟨d.Cache[i].At.toNat,by omega⟩
   unfold Bc setW
   rw [if_pos (dlt hi),at?_nat hi,ob,ob,hn,at?_nat (show n<o.length by omega),ob,ob,Ew,C4 (by omega),Int.toNat_natCast]
  ·intro o; unfold Bc; simp
 ·rw [if_neg c,if_neg c]
theorem A5n {d:TDisk} (h:DkS d):K1 d=some (flush d):=by
 have h2:=h.cache.1
 unfold K1 flush
 rw [Jy h,ob,Gg h,ob]
 by_cases c:E0 d=true
 ·rw [if_pos c,if_pos c,Xy c]
  ·rfl
  ·intro i o hi ho
   have hw:=(L4.1 c).2.2.2 _ (List.getElem_mem hi)
   obtain ⟨n,hn⟩:∃ n:Nat,d.Cache[i].At=n:=⟨d.Cache[i].At.toNat,by omega⟩
   unfold Bd setW
   rw [if_pos (dlt hi),at?_nat hi,ob,hn,at?_nat (show n<o.length by omega),ob,ob,Ew,C4 (by omega),Int.toNat_natCast]
  ·intro o; unfold Bd; simp
 ·rw [if_neg c,if_neg c]
def lastG (l:List TRef):Nat→Int
 | 0=>0
 | i+1=>match l[i]? with | some r=>r.Gen | none=>0
theorem A56 {l:List TRef} {i:Nat} (h:i<l.length):lastG l (i+1)=l[i].Gen:=by simp [lastG,h]
def anyNo (l:List TRef) (n:Int):Bool:=l.any fun q=>q.No==n
def okS (l:List TRef) (ng:Int) (i:Nat):Bool:=match l[i]? with
 | some r=>inR r.No 0 10&&inR r.Gen 1 (w64 (ng - 1))&&(i==0||decide (lastG l i<r.Gen))&&!anyNo (l.take i) r.No
 | none=>true
theorem Df {n lo hi:Int}:inR n lo hi=true↔lo≤n∧n≤hi:=by unfold inR; simp
def stamps (c:TCheck):Bool:=inR c.Stamp 1 1000000000&&inR c.NextGen 1 1000000000&&inR c.NextSeq 1 1000000000&&inR c.NextValid 1 1000000000
def checkOk (c:TCheck):Bool:=stamps c&&inR c.Refs.length 1 11&&(List.range c.Refs.length).all (okS c.Refs c.NextGen)
theorem A31 {c:TCheck} (h:c.Refs.length≤1048576):Cq c=some (checkOk c):=by
 have hl:iter (Ag c) 0=some (if (List.range c.Refs.length).all (okS c.Refs c.NextGen) then .inr () else .inl false):=by
  refine Lr (fun i=>(i:Int)) c.Refs.length _ ?_ ?_ ?_
  all_goals first
   | (unfold Ag; simp; done)
   | skip
  all_goals
   intro i hi hp
   have inner:iter (Z9 c (i:Int) c.Refs[i]) 0=some (if anyNo (c.Refs.take i) c.Refs[i].No then .inl false else .inr ()):=by
    refine Ka (by omega) ?_ ?_
    ·intro j hj hji
     unfold Z9
     simp only [dlt hji,if_true,at?_nat hj,ob,C4 (show j<9223372036854775807 by omega)]
    ·unfold Z9
     simp
   have hprev:(if decide ((i:Int)>0) then (at? c.Refs (w64 ((i:Int) - 1))).bind fun v13=>(if decide (v13.Gen≥c.Refs[i].Gen) then some true else some false) else some false)=some (!(i==0||decide (lastG c.Refs i<c.Refs[i].Gen))):=by
    cases i with
    | zero=>simp
    | succ j =>
     have e:w64 (((j+1:Nat):Int) - 1)=(j:Int):=by rw [C0 (by omega) (by omega)]; omega
     rw [if_pos (by simp),e,at?_nat (show j<c.Refs.length by omega),A56 (by omega)]
     simp only [ob]
     by_cases hc:c.Refs[j].Gen<c.Refs[j+1].Gen
     ·rw [if_neg (by simpa using hc)]; simp [hc]
     ·rw [if_pos (by simp; omega)]; simp [hc]
   unfold okS at hp
   rw [qG hi] at hp
   dsimp only at hp
   unfold Ag
   simp only [dlt hi,if_true,at?_nat hi,ob,L1,inner,hprev]
   generalize inR c.Refs[i].No 0 10=b1 at hp ⊢
   generalize inR c.Refs[i].Gen 1 (w64 (c.NextGen - 1))=b2 at hp ⊢
   generalize (i==0||decide (lastG c.Refs i<c.Refs[i].Gen))=b3 at hp ⊢
   generalize anyNo (c.Refs.take i) c.Refs[i].No=b4 at hp ⊢
   revert hp
   cases b1 <;> cases b2 <;> cases b3 <;> cases b4 <;> simp [C4 (show i<9223372036854775807 by omega)]
 unfold Cq checkOk stamps
 simp only [L1,hl,ob]
 cases inR c.Stamp 1 1000000000 <;> cases inR c.NextGen 1 1000000000 <;> cases inR c.NextSeq 1 1000000000 <;> cases inR c.NextValid 1 1000000000 <;> cases inR (c.Refs.length:Int) 1 11 <;> cases (List.range c.Refs.length).all (okS c.Refs c.NextGen) <;> simp
structure RecS (x:TRec):Prop where
 user:x.User.length≤1048576
 name:x.Name.length≤1048576
 text:x.Text.length≤1048576
def recOk (x:TRec):Bool:=inR x.Kind 1 5&&inR x.Valid 1 9999 &&
 (if x.Kind=1 then wordOk x.User&&wordOk x.Name&&inR x.Next 1 10000 else x.User==[]&&x.Name==[]&&x.Next==0) &&
 (if x.Kind=3∨x.Kind=4∨x.Kind=5 then inR x.Uid 1 9999 else x.Uid==0) &&
 (if x.Kind=3∨x.Kind=4 then inR x.Flags 0 7 else x.Flags==0) &&
 (if x.Kind=3 then decide (x.Text.length≤100) else x.Text==[])
theorem kinds {n:Int}:inR n 1 5=true→n=1∨n=2∨n=3∨n=4∨n=5:=by
 unfold inR
 intro h
 simp only [Bool.and_eq_true,decide_eq_true_eq] at h
 omega
theorem A8u {n:Int}:inR n 1 5=false→n≠1∧n≠2∧n≠3∧n≠4∧n≠5:=by
 unfold inR
 intro h
 simp only [Bool.and_eq_false_iff,decide_eq_false_iff_not] at h
 omega
theorem iteS {α:Type} {p:Prop} [Decidable p] {a b:α}:(if p then some a else some b)=some (if p then a else b):=by split <;> rfl
theorem Yw {x:TRec} (h:RecS x):Cz x=some (recOk x):=by
 have h1:=A1v (s:=x.User) (by have:=h.user; omega)
 have h2:=A1v (s:=x.Name) (by have:=h.name; omega)
 unfold Cz recOk
 simp only [L1,h1,h2,ob]
 cases hk:inR x.Kind 1 5 with
 | false=>simp
 | true =>
  cases hv:inR x.Valid 1 9999 with
  | false=>simp
  | true =>
   rcases kinds hk with k | k | k | k | k <;> simp [k,iteS] <;> grind
theorem Kl {x:TRec} (h:RecS x):Bh x=some (recOk x):=by
 have h1:=A1m (s:=x.User) (by have:=h.user; omega)
 have h2:=A1m (s:=x.Name) (by have:=h.name; omega)
 unfold Bh recOk
 simp only [T9,h1,h2,ob]
 cases hv:inR x.Valid 1 9999 with
 | false=>simp
 | true =>
  cases hk:inR x.Kind 1 5 with
  | false =>
   obtain ⟨k1,k2,k3,k4,k5⟩:=A8u hk
   simp [k1,k2,k3,k4,k5]
  | true =>
   rcases kinds hk with k | k | k | k | k <;> simp [k,iteS] <;> grind
theorem Mr {x:TRec} (h:recOk x=true):(0≤x.Valid∧x.Valid≤10000)∧(0≤x.Uid∧x.Uid≤10000)∧(0≤x.Next∧x.Next≤10000)∧(0≤x.Flags∧x.Flags≤10000)∧1≤x.Kind∧x.Kind≤5:=by
 unfold recOk inR at h
 grind
def short (s:List UInt8):List UInt8:=vt s.length++s
def recT (x:TRec):List UInt8:=[ofI (IntKind.u8.wrap x.Kind)]++vt x.Valid++vt x.Uid++vt x.Next++vt x.Flags++short x.User++short x.Name++short x.Text
def recText (x:TRec):List UInt8×Bool:=if recOk x then (recT x,true) else ([],false)
theorem Kc {s:List UInt8} (h:s.length≤1048576):(short s).length≤s.length+11:=by
 unfold short
 have:=J7 (n:=s.length) (by omega)
 simp; omega
theorem Kk {s:List UInt8} (h:s.length≤1048576):M8 s=some (short s):=by
 unfold M8
 have:=J7 (n:=s.length) (by omega)
 rw [T2 (by omega) (by omega),ob,cat?_ok (by omega)]
 rfl
theorem Kp {x:TRec} (h:RecS x):Aq x=some (recText x):=by
 unfold Aq recText
 rw [Yw h,ob]
 cases hk:recOk x with
 | false=>rfl
 | true =>
  obtain ⟨r1,r2,r3,r4,_⟩:=Mr hk
  have l1:=J7 (n:=x.Valid) (by omega)
  have l2:=J7 (n:=x.Uid) (by omega)
  have l3:=J7 (n:=x.Next) (by omega)
  have l4:=J7 (n:=x.Flags) (by omega)
  have l5:=Kc h.user
  have l6:=Kc h.name
  have l7:=Kc h.text
  have b1:=h.user
  have b2:=h.name
  have b3:=h.text
  simp only [if_true]
  rw [T2 (by omega) (by omega),ob,cat?_ok (by simp; omega),ob,
   T2 (by omega) (by omega),ob,cat?_ok (by simp; omega),ob,
   T2 (by omega) (by omega),ob,cat?_ok (by simp; omega),ob,
   T2 (by omega) (by omega),ob,cat?_ok (by simp; omega),ob,
   Kk h.user,ob,cat?_ok (by simp; omega),ob,
   Kk h.name,ob,cat?_ok (by simp; omega),ob,
   Kk h.text,ob,cat?_ok (by simp; omega),ob]
  rfl
theorem at?_lit {α:Type} {l:List α} {i:Int} {x:α} (h0:0≤i) (h:l[i.toNat]?=some x):at? l i=some x:=by
 unfold at?
 have:=(qI h).1
 rw [if_pos ⟨h0,by omega⟩]
 exact h
theorem A2t {x:TRec} (h:RecS x):Cw x=some (recText x):=by
 unfold Cw recText
 rw [Kl h,ob]
 cases hk:recOk x with
 | false=>rfl
 | true =>
  obtain ⟨r1,r2,r3,r4,_⟩:=Mr hk
  have l1:=J7 (n:=x.Valid) (by omega)
  have l2:=J7 (n:=x.Uid) (by omega)
  have l3:=J7 (n:=x.Next) (by omega)
  have l4:=J7 (n:=x.Flags) (by omega)
  have b1:=h.user
  have b2:=h.name
  have b3:=h.text
  have l5:=J7 (n:=x.User.length) (by omega)
  have l6:=J7 (n:=x.Name.length) (by omega)
  have l7:=J7 (n:=x.Text.length) (by omega)
  simp only [if_true]
  have s1:∀ (i:Nat) (n:Int) (out:List UInt8),[x.Valid,x.Uid,x.Next,x.Flags][i]?=some n→out.length≤1000→Ar x (out,(i:Int))=some (.inl (out++vt n,((i+1:Nat):Int))):=by
   intro i n out hi ho
   have hl:=(qI hi).1
   simp at hl
   have hn:0≤n∧n≤10000:=by
    rcases i with _ | _ | _ | _ | i <;> simp at hi <;> first | omega | skip
   have:=J7 (n:=n) (by omega)
   unfold Ar; dsimp only
   rw [if_pos (by simp; omega),at?_lit (by simp) (by simpa using hi),ob,Lm (by omega) (by omega),ob,cat?_ok (by omega),ob,C4 (by omega)]
  have s2:∀ (i:Nat) (s out:List UInt8),[x.User,x.Name,x.Text][i]?=some s→out.length≤10000000→Az x (out,(i:Int))=some (.inl (out++short s,((i+1:Nat):Int))):=by
   intro i s out hi ho
   have hl:=(qI hi).1
   simp at hl
   have hn:s.length≤1048576:=by
    rcases i with _ | _ | _ | i <;> simp at hi <;> first | (subst hi; omega) | skip
   have:=J7 (n:=s.length) (by omega)
   unfold Az; dsimp only
   rw [if_pos (by simp; omega),at?_lit (by simp) (by simpa using hi),ob,Lm (by omega) (by omega),ob,cat?_ok (by omega),ob,cat?_ok (by simp; omega),ob,C4 (by omega)]
   rfl
  have z:(0:Int)=((0:Nat):Int):=rfl
  rw [z,K5 (s1 0 x.Valid _ rfl (by simp)),K5 (s1 1 x.Uid _ rfl (by simp; omega)),K5 (s1 2 x.Next _ rfl (by simp; omega)),K5 (s1 3 x.Flags _ rfl (by simp; omega)),
   D5 (r:=_) (by unfold Ar; rw [if_neg (by simp)]),ob]
  have l8:(short x.User).length≤x.User.length+11:=Kc h.user
  have l9:(short x.Name).length≤x.Name.length+11:=Kc h.name
  rw [K5 (s2 0 x.User _ rfl (by simp; omega)),K5 (s2 1 x.Name _ rfl (by simp; omega)),K5 (s2 2 x.Text _ rfl (by simp; omega)),
   D5 (r:=_) (by unfold Az; rw [if_neg (by simp)]),ob]
  rfl
def ctHead (c:TCheck):List UInt8:=vt c.Stamp++vt c.NextGen++vt c.NextSeq++vt c.NextValid++vt c.Refs.length
def refT (r:TRef):List UInt8:=vt r.No++vt r.Gen
def ctBody (c:TCheck):List UInt8:=ctHead c++c.Refs.flatMap refT
def ctOut (c:TCheck):List UInt8:=short (ctBody c++sealL (ctBody c))
def checkText (c:TCheck):List UInt8×Bool:=if checkOk c then (if 128<(ctOut c).length then ([],false) else (ctOut c,true)) else ([],false)
theorem Jb {c:TCheck} (h:checkOk c=true):((1≤c.Stamp∧c.Stamp≤1000000000)∧(1≤c.NextGen∧c.NextGen≤1000000000)∧(1≤c.NextSeq∧c.NextSeq≤1000000000)∧(1≤c.NextValid∧c.NextValid≤1000000000))∧(1≤c.Refs.length∧c.Refs.length≤11)∧∀ r∈c.Refs,(0≤r.No∧r.No≤10)∧1≤r.Gen∧r.Gen≤1000000000:=by
 unfold checkOk stamps at h
 simp only [Bool.and_eq_true,Df] at h
 obtain ⟨⟨⟨⟨⟨h1,h2⟩,h3⟩,h4⟩,h5⟩,h6⟩:=h
 refine ⟨⟨h1,h2,h3,h4⟩,by omega,?_⟩
 intro r hr
 obtain ⟨i,hi⟩:=List.getElem?_of_mem hr
 have h7:=List.all_eq_true.1 h6 i (List.mem_range.2 (qI hi).1)
 unfold okS at h7
 rw [hi] at h7
 simp only [Bool.and_eq_true,Df] at h7
 rw [C0 (by omega) (by omega)] at h7
 obtain ⟨⟨⟨a,b⟩,_⟩,_⟩:=h7
 omega
theorem A4x {r:TRef} (h:(0≤r.No∧r.No≤10)∧1≤r.Gen∧r.Gen≤1000000000):(refT r).length≤22:=by
 have l1:=J7 (n:=r.No) (by omega)
 have l2:=J7 (n:=r.Gen) (by omega)
 unfold refT
 simp; omega
theorem A5e {α:Type} {f:α→List UInt8} {k:Nat}:∀ (l:List α),(∀ x∈l,(f x).length≤k)→(l.flatMap f).length≤k*l.length
 | [],_=>by simp
 | x::l,h=>by
  have h1:=A5e l (fun y hy=>h y (by simp [hy]))
  have h2:=h x (by simp)
  simp only [List.flatMap_cons,List.length_append,List.length_cons,Nat.mul_succ]
  omega
theorem Yf {c:TCheck} (h:checkOk c=true):(ctHead c).length≤55:=by
 obtain ⟨⟨h1,h2,h3,h4⟩,h5,_⟩:=Jb h
 have l1:=J7 (n:=c.Stamp) (by omega)
 have l2:=J7 (n:=c.NextGen) (by omega)
 have l3:=J7 (n:=c.NextSeq) (by omega)
 have l4:=J7 (n:=c.NextValid) (by omega)
 have l5:=J7 (n:=c.Refs.length) (by omega)
 unfold ctHead
 simp; omega
theorem A58 {c:TCheck} (h:checkOk c=true):(ctBody c).length≤297:=by
 have h1:=Yf h
 obtain ⟨_,h5,h6⟩:=Jb h
 have h2:=A5e (f:=refT) (k:=22) c.Refs (fun r hr=>A4x (h6 r hr))
 unfold ctBody
 simp only [List.length_append]
 omega
theorem A9f {α:Type} {l:List α} {f:α→List UInt8} {step:List UInt8×Int→Option ((List UInt8×Int) ⊕ List UInt8)} {y:List UInt8} {b:Nat}
  (hb:∀ i,i≤l.length→(y++(l.take i).flatMap f).length≤b)
  (h1:∀ (i:Nat) (h:i<l.length) (a:List UInt8),a.length≤b→step (a,(i:Int))=some (.inl (a++f l[i],((i+1:Nat):Int))))
  (h2:∀ a,step (a,(l.length:Int))=some (.inr a)):iter step (y,0)=some (y++l.flatMap f):=by
 have:=J6 (step:=step) (fun i=>(y++(l.take i).flatMap f,(i:Int))) l.length (r:=y++l.flatMap f) ?_ ?_
 ·simpa using this
 ·intro i hi
  rw [h1 i hi _ (hb i (by omega)),List.take_succ_eq_append_getElem hi,List.flatMap_append,List.append_assoc]
  simp
 ·rw [h2]; simp
theorem Yc {c:TCheck} (h:c.Refs.length≤1048576):Ac c=some (checkText c):=by
 unfold Ac checkText
 rw [A31 h,ob]
 cases hk:checkOk c with
 | false=>rfl
 | true =>
  obtain ⟨⟨h1,h2,h3,h4⟩,h5,h6⟩:=Jb hk
  have l1:=J7 (n:=c.Stamp) (by omega)
  have l2:=J7 (n:=c.NextGen) (by omega)
  have l3:=J7 (n:=c.NextSeq) (by omega)
  have l4:=J7 (n:=c.NextValid) (by omega)
  have l5:=J7 (n:=c.Refs.length) (by omega)
  have lb:=A58 hk
  have hl:iter (V5 c) (ctHead c,0)=some (ctBody c):=by
   refine A9f (l:=c.Refs) (f:=refT) (b:=297) ?_ ?_ ?_
   ·intro i hi
    have h7:=A5e (f:=refT) (k:=22) (c.Refs.take i) (fun r hr=>A4x (h6 r (List.mem_of_mem_take hr)))
    have h8:=Yf hk
    simp only [List.length_append,List.length_take] at h7 ⊢
    omega
   ·intro i hi a ha
    have hr:=h6 _ (List.getElem_mem hi)
    have q1:=J7 (n:=c.Refs[i].No) (by omega)
    have q2:=J7 (n:=c.Refs[i].Gen) (by omega)
    unfold V5
    simp only [dlt hi,if_true,at?_nat hi,ob,C4 (show i<9223372036854775807 by omega)]
    rw [T2 (by omega) (by omega),ob,cat?_ok (by omega),ob,T2 (by omega) (by omega),ob,cat?_ok (by simp; omega),ob]
    simp [refT]
   ·intro a
    unfold V5
    simp
  simp only [if_true]
  rw [T2 (by omega) (by omega),ob,T2 (by omega) (by omega),ob,cat?_ok (by omega),ob,T2 (by omega) (by omega),ob,cat?_ok (by simp; omega),ob,T2 (by omega) (by omega),ob,cat?_ok (by simp; omega),ob,T2 (by omega) (by omega),ob,cat?_ok (by simp; omega),ob]
  rw [show vt c.Stamp++vt c.NextGen++vt c.NextSeq++vt c.NextValid++vt c.Refs.length=ctHead c from rfl,hl,ob,Wc (by omega),ob]
  unfold sealed
  rw [if_neg (by omega)]
  simp only []
  rw [Kk (by rw [List.length_append,Dg]; omega),ob]
  show _=some (if 128<(ctOut c).length then ([],false) else (ctOut c,true))
  unfold ctOut
  by_cases hc:128<(short (ctBody c++sealL (ctBody c))).length
  ·have hc':(128:Int)<((short (ctBody c++sealL (ctBody c))).length:Int):=by omega
   rw [if_pos hc]; simp [hc']
  ·have hc':¬ (128:Int)<((short (ctBody c++sealL (ctBody c))).length:Int):=by omega
   rw [if_neg hc]; simp [hc']
theorem Um (b:UInt8):ofI (b.toNat:Int)=b:=by
 simp [ofI]
theorem Ms {n:Nat} (h:n<256):(ofI (n:Int)).toNat=n:=by
 simp [ofI]; omega
def dig:Nat→List UInt8→Option (Nat×Nat)
 | 0,_=>none
 | _+1,[]=>none
 | f+1,b::r=>if b.toNat<128 then some (b.toNat,1) else match dig f r with
  | some x=>some (b.toNat - 128+128*x.1,x.2+1)
  | none=>none
theorem Re:∀ {f:Nat} {r:List UInt8} {x:Nat×Nat},dig f r=some x→1≤x.2∧x.2≤r.length∧x.2≤f∧x.1<128 ^ x.2
 | 0,_,_,h=>by simp [dig] at h
 | _+1,[],_,h=>by simp [dig] at h
 | f+1,b::r,x,h=>by
  simp only [dig] at h
  split at h
  ·cases h; simp; omega
  ·split at h
   ·rename_i y hy
    cases h
    obtain ⟨h1,h2,h3,h4⟩:=Re hy
    have:=b.toNat_lt
    refine ⟨by simp,by simpa using h2,by simpa using h3,?_⟩
    show _<128 ^ (y.2+1)
    rw [Nat.pow_succ]
    simp only []
    omega
   ·cases h
theorem A4o:∀ {f:Nat} {r:List UInt8} {x:Nat×Nat},dig f r=some x→x.1=0→r[x.2 - 1]?=some 0
 | 0,_,_,h,_=>by simp [dig] at h
 | _+1,[],_,h,_=>by simp [dig] at h
 | f+1,b::r,x,h,h0=>by
  simp only [dig] at h
  split at h
  ·cases h
   simp only at h0
   simp
   exact UInt8.toNat_inj.1 h0
  ·split at h
   ·rename_i y hy
    cases h
    obtain ⟨h1,_⟩:=Re hy
    have:=A4o hy (by simp only at h0; omega)
    obtain ⟨c,hc⟩:∃ c,y.2=c+1:=⟨y.2 - 1,by omega⟩
    simp only [hc,Nat.add_sub_cancel] at this ⊢
    simpa using this
   ·cases h
theorem A26:∀ {f:Nat} {r:List UInt8} {x:Nat×Nat},dig f r=some x→((vtl x.1).map ofI=r.take x.2↔¬ (1<x.2∧r[x.2 - 1]?=some 0))
 | 0,_,_,h=>by simp [dig] at h
 | _+1,[],_,h=>by simp [dig] at h
 | f+1,b::r,x,h=>by
  simp only [dig] at h
  split at h
  ·cases h
   rw [Ap (by simp only; omega)]
   simp [Um]
  ·split at h
   ·rename_i hb y hy
    cases h
    have hl:=b.toNat_lt
    obtain ⟨h1,h2,_⟩:=Re hy
    have ih:=A26 hy
    obtain ⟨c,hc⟩:∃ c,y.2=c+1:=⟨y.2 - 1,by omega⟩
    simp only []
    by_cases h0:y.1=0
    ·have hz:=A4o hy h0
     rw [hc] at hz
     simp only [Nat.add_sub_cancel] at hz
     rw [h0,Ap (by omega)]
     constructor
     ·intro e
      have:=congrArg List.length e
      rw [List.length_take] at this
      simp only [List.length_map,List.length_cons,List.length_nil] at this
      omega
     ·intro e
      refine absurd ⟨by omega,?_⟩ e
      simp only [Nat.add_sub_cancel,hc]
      simpa using hz
    ·have e1:(b.toNat - 128+128*y.1)%128=b.toNat - 128:=by omega
     have e2:(b.toNat - 128+128*y.1) / 128=y.1:=by omega
     rw [Ml (by omega),e1,e2]
     have e3:ofI ((b.toNat - 128+128:Nat):Int)=b:=by
      rw [show b.toNat - 128+128=b.toNat by omega]; exact Um b
     simp only [List.map_cons,e3,List.take_succ_cons,List.cons.injEq,true_and,ih,Nat.add_sub_cancel]
     rw [hc]
     simp only [Nat.add_sub_cancel,List.getElem?_cons_succ]
     constructor
     ·intro hh he
      cases c with
      | zero =>
       cases f with
       | zero=>simp [dig] at hy
       | succ f =>
        cases r with
        | nil=>simp at h2; omega
        | cons b2 r =>
         simp at he
         subst he
         simp [dig] at hy
         rw [← hy] at h0
         exact h0 rfl
      | succ c=>exact hh ⟨by omega,he.2⟩
     ·intro hh he
      exact hh ⟨by omega,he.2⟩
   ·cases h
theorem A41:∀ (k n:Nat),n<128 ^ (k+1)→(vtl n).length≤k+1
 | 0,n,h=>by rw [Ap (by simp at h; omega)]; simp
 | k+1,n,h=>by
  by_cases hb:127<n
  ·rw [Ml hb]
   have:=A41 k (n / 128) (by rw [Nat.pow_succ] at h; exact Nat.div_lt_of_lt_mul (by rw [Nat.mul_comm]; exact h))
   simp; omega
  ·rw [Ap (by omega)]; simp
theorem A6k:∀ (f n:Nat) (r:List UInt8),(vtl n).length≤f→dig f ((vtl n).map ofI++r)=some (n,(vtl n).length)
 | 0,n,r,h=>by
  exfalso
  unfold vtl at h
  split at h <;> simp at h
 | f+1,n,r,h=>by
  by_cases hb:127<n
  ·rw [Ml hb] at h ⊢
   have ih:=A6k f (n / 128) r (by simpa using h)
   simp only [List.map_cons,List.cons_append,dig,Ms (show n%128+128<256 by omega)]
   rw [if_neg (by omega),ih]
   simp; omega
  ·rw [Ap (by omega)]
   simp only [List.map_cons,List.map_nil,List.cons_append,dig,Ms (show n<256 by omega)]
   rw [if_pos (by omega)]
   simp
theorem A5j (n:Nat):vt (n:Int)=(vtl n).map ofI:=by
 unfold vt; rw [if_pos (by omega)]; simp
def rv (t:List UInt8) (a:Nat):Option (Nat×Nat):=match dig 5 (t.drop a) with
 | some x=>if x.1≤1000000000∧vt (x.1:Int)=(t.drop a).take x.2 then some (x.1,a+x.2) else none
 | none=>none
def rvR (o:Option (Nat×Nat)):Int×Int×Bool:=match o with
 | some x=>((x.1:Int),(x.2:Int),true)
 | none=>(0,0,false)
theorem A3w {t:List UInt8} {a n:Nat} {r:List UInt8} (h:t.drop a=vt (n:Int)++r) (hn:n≤1000000000):rv t a=some (n,a+(vt (n:Int)).length):=by
 have hl:(vtl n).length≤5:=A41 4 n (by omega)
 unfold rv
 rw [h,A5j,A6k 5 n r hl]
 simp [hn,A5j]
theorem Qb {t:List UInt8} {a:Nat} {x:Nat×Nat} (h:rv t a=some x):a<x.2∧x.2≤t.length∧x.1≤1000000000:=by
 unfold rv at h
 split at h
 ·rename_i y hy
  split at h
  ·rename_i hc
   cases h
   obtain ⟨h1,h2,_⟩:=Re hy
   simp at h2
   exact ⟨by simp only; omega,by simp only; omega,hc.1⟩
  ·cases h
 ·cases h
theorem andv127' (b:UInt8):andv .i64 (b.toNat:Int) 127=((b.toNat%128:Nat):Int):=andv127 (by have:=b.toNat_lt; omega)
theorem A9y {a x j:Nat} (ha:a<2 ^ j) (h:a+x*2 ^ j<9223372036854775808):orv .i64 (a:Int) ((x*2 ^ j:Nat):Int)=((a+x*2 ^ j:Nat):Int):=by
 show IntKind.i64.wrap ((BitVec.ofInt 64 (a:Int) ||| BitVec.ofInt 64 ((x*2 ^ j:Nat):Int)).toNat:Int)=_
 have e1:BitVec.ofInt 64 (a:Int)=BitVec.ofNat 64 a:=by simp
 have e2:BitVec.ofInt 64 ((x*2 ^ j:Nat):Int)=BitVec.ofNat 64 (x*2 ^ j):=BitVec.ofInt_natCast ..
 rw [e1,e2]
 have e3:(BitVec.ofNat 64 a ||| BitVec.ofNat 64 (x*2 ^ j)).toNat=a+x*2 ^ j:=by
  rw [BitVec.toNat_or]
  simp only [BitVec.toNat_ofNat]
  rw [Nat.mod_eq_of_lt (a:=a) (by omega),Nat.mod_eq_of_lt (a:=x*2 ^ j) (by omega),Nat.or_comm,Nat.mul_comm x,← Nat.two_pow_add_eq_or_of_lt ha]
  omega
 rw [e3]
 exact Fh (by omega)
theorem p128 (k:Nat):128 ^ k=2 ^ (7*k):=by rw [Nat.pow_mul]
theorem Rr {t:List UInt8} {a:Nat} (ht:t.length≤4611686018427387904) (ha:a≤t.length):∀ (f k acc:Nat),f+k=5→acc<128 ^ k →
  (iter (P7 t (a:Int)) ((acc:Int),(k:Int))).bind (Sum.elim (fun r=>some r) (fun _=>some (0,0,false)))=some (match dig f (t.drop (a+k)) with
   | none=>(0,0,false)
   | some x=>if 1000000000<acc+x.1*128 ^ k∨((t.drop (a+k))[x.2 - 1]?=some 0∧1<k+x.2) then (0,0,false) else (((acc+x.1*128 ^ k:Nat):Int),((a+k+x.2:Nat):Int),true))
 | 0,k,acc,hk,_=>by
  have:k=5:=by omega
  subst this
  rw [D5 (r:=.inr ()) (by unfold P7; simp)]
  simp [dig]
 | f+1,k,acc,hk,hacc=>by
  have ew:w64 ((a:Int)+(k:Int))=((a+k:Nat):Int):=by rw [C0 (by omega) (by omega)]; omega
  by_cases hlt:a+k<t.length
  ·have hd:t.drop (a+k)=t[a+k]::t.drop (a+k+1):=List.drop_eq_getElem_cons hlt
   have hb:=(t[a+k]).toNat_lt
   generalize hbv:t[a+k]=b at hd hb
   have e7:w64 (7*(k:Int))=((7*k:Nat):Int):=by rw [C0 (by omega) (by omega)]; omega
   have hpk:128 ^ k≤128 ^ 4:=Nat.pow_le_pow_right (by omega) (by omega)
   have hpp:(b.toNat%128)*128 ^ k≤127*128 ^ 4:=Nat.mul_le_mul (by omega) hpk
   have es:shl? .i64 ((b.toNat%128:Nat):Int) ((7*k:Nat):Int)=some (((b.toNat%128)*2 ^ (7*k):Nat):Int):=by
    unfold shl?
    rw [if_neg (by omega)]
    have hm:min ((7*k:Nat):Int).toNat IntKind.i64.bits=7*k:=by
     simp [IntKind.bits]; omega
    rw [hm]
    have:((b.toNat%128:Nat):Int)*2 ^ (7*k)=(((b.toNat%128)*2 ^ (7*k):Nat):Int):=by simp
    rw [this]
    exact congrArg some (Fh (by rw [← p128]; omega))
   have eo:orv .i64 (acc:Int) (((b.toNat%128)*2 ^ (7*k):Nat):Int)=((acc+(b.toNat%128)*128 ^ k:Nat):Int):=by
    rw [A9y (by rw [← p128]; exact hacc) (by rw [← p128]; omega),p128]
   have eb:w64 ((b.toNat:Nat):Int)=(b.toNat:Int):=Fh (by omega)
   have hst:P7 t (a:Int) ((acc:Int),(k:Int))=if 127<b.toNat then some (.inl (((acc+(b.toNat%128)*128 ^ k:Nat):Int),((k+1:Nat):Int))) else if (b.toNat=0∧0<k)∨1000000000<acc+(b.toNat%128)*128 ^ k then some (.inr (.inl (0,0,false))) else some (.inr (.inl (((acc+(b.toNat%128)*128 ^ k:Nat):Int),((a+k+1:Nat):Int),true))):=by
    unfold P7
    simp only [show decide ((k:Int)<5)=true from by simp; omega,if_true,ew,show decide (((a+k:Nat):Int)<(t.length:Int))=true from by simp; omega,ob,bt?_nat hlt,hbv,eb,andv127',e7,es,eo,C4 (show k<9223372036854775807 by omega),C4 (show a+k<9223372036854775807 by omega)]
    by_cases g1:127<b.toNat
    ·rw [if_pos g1,if_pos (by simp; omega)]
    ·rw [if_neg g1,if_neg (by simp; omega)]
     generalize acc+b.toNat%128*128 ^ k=M
     by_cases g2:b.toNat=0 <;> by_cases g3:0<k <;> by_cases g4:1000000000<M
     all_goals
      have g4':decide ((M:Int)>1000000000)=decide (1000000000<M):=by
       rw [decide_eq_decide]; omega
      rw [g4']
      have g2':((b.toNat:Int)==0)=decide (b.toNat=0):=by
       rw [Bool.eq_iff_iff]; simp
      rw [g2']
      simp [g2,g3,g4]
   by_cases g1:127<b.toNat
   ·rw [if_pos g1] at hst
    have hq:(b.toNat%128)*128 ^ k≤127*128 ^ k:=Nat.mul_le_mul_right _ (by omega)
    rw [K5 hst,Rr ht ha f (k+1) _ (by omega) (by rw [Nat.pow_succ]; omega),hd]
    simp only [dig,if_neg (show ¬ b.toNat<128 by omega)]
    have ed:t.drop (a+(k+1))=t.drop (a+k+1):=by rw [Nat.add_assoc]
    rw [ed]
    cases hdg:dig f (t.drop (a+k+1)) with
    | none=>rfl
    | some x =>
     obtain ⟨h1,_⟩:=Re hdg
     obtain ⟨c,hc⟩:∃ c,x.2=c+1:=⟨x.2 - 1,by omega⟩
     have ev:acc+b.toNat%128*128 ^ k+x.1*128 ^ (k+1)=acc+(b.toNat - 128+128*x.1)*128 ^ k:=by
      rw [show b.toNat%128=b.toNat - 128 by omega,Nat.pow_succ,Nat.add_mul]
      rw [show 128*x.1*128 ^ k=x.1*(128 ^ k*128) by rw [Nat.mul_comm 128,Nat.mul_assoc,Nat.mul_comm 128]]
      omega
     have ei:(b::t.drop (a+k+1))[x.2+1 - 1]?=(t.drop (a+k+1))[x.2 - 1]?:=by
      rw [hc]; simp
     have e4:a+(k+1)+x.2=a+k+(x.2+1):=by omega
     have e5:k+1+x.2=k+(x.2+1):=by omega
     simp only [ev,ei,e4,e5]
   ·rw [if_neg g1] at hst
    rw [hd]
    simp only [dig,if_pos (show b.toNat<128 by omega)]
    have em:b.toNat%128=b.toNat:=by omega
    rw [em] at hst
    have hz:(some b=some (0:UInt8))↔b.toNat=0:=by
     rw [Option.some_inj]
     exact ⟨fun h=>by rw [h]; rfl,fun h=>UInt8.toNat_inj.1 (by simpa using h)⟩
    by_cases g2:(b.toNat=0∧0<k)∨1000000000<acc+b.toNat*128 ^ k
    ·rw [if_pos g2] at hst
     rw [D5 hst,if_pos]
     ·rfl
     ·rcases g2 with g | g
      ·exact .inr ⟨by simpa using hz.2 g.1,by omega⟩
      ·exact .inl g
    ·rw [if_neg g2] at hst
     rw [D5 hst,if_neg]
     ·rfl
     ·rintro (g | g)
      ·exact g2 (.inr g)
      ·exact g2 (.inl ⟨hz.1 (by simpa using g.1),by omega⟩)
  ·rw [D5 (r:=.inr ()) (by unfold P7; simp only [ew]; rw [show decide (((a+k:Nat):Int)<(t.length:Int))=false from by simp; omega]; simp)]
   rw [List.drop_eq_nil_of_le (by omega)]
   simp [dig]
theorem Rq {t:List UInt8} {a:Nat} (ht:t.length≤4611686018427387904) (ha:a≤t.length):∀ (f k acc:Nat),f+k=5→acc<128 ^ k →
  (iter (P4 t (a:Int)) ((acc:Int),((128 ^ k:Nat):Int),((a+k:Nat):Int))).bind (Sum.elim (fun r=>some r) (fun _=>some (0,0,false)))=some (match dig f (t.drop (a+k)) with
   | none=>(0,0,false)
   | some x=>if 1000000000<acc+x.1*128 ^ k∨vt ((acc+x.1*128 ^ k:Nat):Int)≠(t.drop a).take (k+x.2) then (0,0,false) else (((acc+x.1*128 ^ k:Nat):Int),((a+k+x.2:Nat):Int),true))
 | 0,k,acc,hk,_=>by
  have:k=5:=by omega
  subst this
  have ew:w64 ((a:Int)+5)=((a+5:Nat):Int):=by rw [C0 (by omega) (by omega)]; omega
  rw [D5 (r:=.inr ()) (by
   unfold P4
   simp only [ew]
   rw [show decide (((a+5:Nat):Int)<((a+5:Nat):Int))=false from by simp]
   cases decide (((a+5:Nat):Int)<(t.length:Int)) <;> simp)]
  simp [dig]
 | f+1,k,acc,hk,hacc=>by
  have ew:w64 ((a:Int)+5)=((a+5:Nat):Int):=by rw [C0 (by omega) (by omega)]; omega
  by_cases hlt:a+k<t.length
  ·have hd:t.drop (a+k)=t[a+k]::t.drop (a+k+1):=List.drop_eq_getElem_cons hlt
   have hb:=(t[a+k]).toNat_lt
   generalize hbv:t[a+k]=b at hd hb
   have hpk:128 ^ k≤128 ^ 4:=Nat.pow_le_pow_right (by omega) (by omega)
   have hpp:(b.toNat%128)*128 ^ k≤127*128 ^ 4:=Nat.mul_le_mul (by omega) hpk
   have hq:(b.toNat%128)*128 ^ k≤127*128 ^ k:=Nat.mul_le_mul_right _ (by omega)
   have eb:w64 ((b.toNat:Nat):Int)=(b.toNat:Int):=Fh (by omega)
   have em:w64 (Int.tmod (b.toNat:Int) 128*((128 ^ k:Nat):Int))=(((b.toNat%128)*128 ^ k:Nat):Int):=by
    rw [Int.tmod_eq_emod_of_nonneg (by omega)]
    have:((b.toNat:Int)%128)*((128 ^ k:Nat):Int)=(((b.toNat%128)*128 ^ k:Nat):Int):=by simp
    rw [this]
    exact Fh (by omega)
   have ea:w64 ((acc:Int)+(((b.toNat%128)*128 ^ k:Nat):Int))=((acc+(b.toNat%128)*128 ^ k:Nat):Int):=by
    rw [← Int.natCast_add]; exact Fh (by omega)
   have e128:w64 (((128 ^ k:Nat):Int)*128)=((128 ^ (k+1):Nat):Int):=by
    rw [show ((128 ^ k:Nat):Int)*128=((128 ^ (k+1):Nat):Int) by rw [Nat.pow_succ]; simp]
    exact Fh (by rw [Nat.pow_succ]; omega)
   have hsub:sub? t (a:Int) ((a+k+1:Nat):Int)=some ((t.drop a).take (k+1)):=by
    unfold sub?
    rw [if_pos (by omega)]
    have e1:((a+k+1:Nat):Int).toNat=a+(k+1):=by omega
    have e2:(a:Int).toNat=a:=by omega
    rw [e1,e2,List.drop_take]
    congr 2
    omega
   have hst:P4 t (a:Int) ((acc:Int),((128 ^ k:Nat):Int),((a+k:Nat):Int))=if 127<b.toNat then some (.inl (((acc+(b.toNat%128)*128 ^ k:Nat):Int),((128 ^ (k+1):Nat):Int),((a+k+1:Nat):Int))) else if 1000000000<acc+(b.toNat%128)*128 ^ k∨vt ((acc+(b.toNat%128)*128 ^ k:Nat):Int)≠(t.drop a).take (k+1) then some (.inr (.inl (0,0,false))) else some (.inr (.inl (((acc+(b.toNat%128)*128 ^ k:Nat):Int),((a+k+1:Nat):Int),true))):=by
    unfold P4
    simp only [show decide (((a+k:Nat):Int)<(t.length:Int))=true from by simp; omega,if_true,ew,show decide (((a+k:Nat):Int)<((a+5:Nat):Int))=true from by simp; omega,ob,bt?_nat hlt,hbv,eb,em,ea,e128,hsub,C4 (show a+k<9223372036854775807 by omega)]
    rw [T2 (by omega) (by omega),ob]
    generalize acc+b.toNat%128*128 ^ k=M
    by_cases g1:127<b.toNat
    ·rw [if_pos g1,if_neg (by simp; omega)]
    ·rw [if_neg g1,if_pos (by simp; omega)]
     have g4':decide ((M:Int)>1000000000)=decide (1000000000<M):=by
      rw [decide_eq_decide]; omega
     rw [g4']
     by_cases g3:1000000000<M <;> by_cases g4:vt (M:Int)=(t.drop a).take (k+1) <;> simp [g3,g4]
   by_cases g1:127<b.toNat
   ·rw [if_pos g1] at hst
    have ih:=Rq ht ha f (k+1) (acc+(b.toNat%128)*128 ^ k) (by omega) (by rw [Nat.pow_succ]; omega)
    rw [show a+(k+1)=a+k+1 by omega] at ih
    rw [K5 hst,ih,hd]
    simp only [dig,if_neg (show ¬ b.toNat<128 by omega)]
    cases hdg:dig f (t.drop (a+k+1)) with
    | none=>rfl
    | some x =>
     have ev:acc+b.toNat%128*128 ^ k+x.1*128 ^ (k+1)=acc+(b.toNat - 128+128*x.1)*128 ^ k:=by
      rw [show b.toNat%128=b.toNat - 128 by omega,Nat.pow_succ,Nat.add_mul]
      rw [show 128*x.1*128 ^ k=x.1*(128 ^ k*128) by rw [Nat.mul_comm 128,Nat.mul_assoc,Nat.mul_comm 128]]
      omega
     have e4:a+k+1+x.2=a+k+(x.2+1):=by omega
     have e5:k+1+x.2=k+(x.2+1):=by omega
     simp only [ev,e4,e5]
   ·rw [if_neg g1] at hst
    rw [hd]
    simp only [dig,if_pos (show b.toNat<128 by omega)]
    have em:b.toNat%128=b.toNat:=by omega
    rw [em] at hst
    by_cases g2:1000000000<acc+b.toNat*128 ^ k∨vt ((acc+b.toNat*128 ^ k:Nat):Int)≠(t.drop a).take (k+1)
    ·rw [if_pos g2] at hst
     rw [D5 hst,if_pos g2]; rfl
    ·rw [if_neg g2] at hst
     rw [D5 hst,if_neg g2]; rfl
  ·rw [D5 (r:=.inr ()) (by unfold P4; rw [show decide (((a+k:Nat):Int)<(t.length:Int))=false from by simp; omega]; simp)]
   rw [List.drop_eq_nil_of_le (by omega)]
   simp [dig]
theorem A2f {t:List UInt8} {a:Nat} (h:t.length<a):rv t a=none:=by
 unfold rv
 rw [List.drop_eq_nil_of_le (by omega)]
 simp [dig]
theorem Ru {t:List UInt8} (ht:t.length≤4611686018427387904) (a:Nat):Q5 t (a:Int)=some (rvR (rv t a)):=by
 unfold Q5
 rw [L1,ob]
 by_cases ha:a≤t.length
 ·rw [if_pos (by unfold inR; simp; omega)]
  have:=Rq ht ha 5 0 0 (by omega) (by simp)
  simp only [Nat.pow_zero,Nat.mul_one,Nat.zero_add,Nat.add_zero] at this
  rw [show ((0:Nat):Int)=0 from rfl,show ((1:Nat):Int)=1 from rfl] at this
  rw [this]
  unfold rv rvR
  cases hd:dig 5 (t.drop a) with
  | none=>rfl
  | some x =>
   simp only []
   by_cases g1:1000000000<x.1
   ·rw [if_pos (.inl g1),if_neg (by omega)]
   ·by_cases g2:vt (x.1:Int)=(t.drop a).take x.2
    ·rw [if_neg (by rintro (g | g); exact g1 g; exact g g2),if_pos ⟨by omega,g2⟩]
    ·rw [if_pos (.inr g2),if_neg (fun g=>g2 g.2)]
 ·rw [if_neg (by unfold inR; simp; omega),A2f (by omega)]; rfl
theorem Hd {t:List UInt8} (ht:t.length≤4611686018427387904) (a:Nat):J9 t (a:Int)=some (rvR (rv t a)):=by
 unfold J9
 rw [T9,ob]
 by_cases ha:a≤t.length
 ·rw [if_pos (by unfold inR; simp; omega)]
  have:=Rr ht ha 5 0 0 (by omega) (by simp)
  simp only [Nat.pow_zero,Nat.mul_one,Nat.zero_add,Nat.add_zero] at this
  rw [show ((0:Nat):Int)=0 from rfl] at this
  rw [this]
  unfold rv rvR
  cases hd:dig 5 (t.drop a) with
  | none=>rfl
  | some x =>
   have hc:=A26 hd
   rw [← A5j] at hc
   simp only []
   by_cases g1:1000000000<x.1
   ·rw [if_pos (.inl g1),if_neg (by omega)]
   ·by_cases g2:vt (x.1:Int)=(t.drop a).take x.2
    ·have:=hc.1 g2
     rw [if_neg (by rintro (g | g); exact g1 g; exact this ⟨g.2,g.1⟩),if_pos ⟨by omega,g2⟩]
    ·rw [if_pos,if_neg (fun g=>g2 g.2)]
     refine .inr ?_
     have:¬ ¬ (1<x.2∧(t.drop a)[x.2 - 1]?=some 0):=fun h=>g2 (hc.2 h)
     have:=Classical.not_not.1 this
     exact ⟨this.2,this.1⟩
 ·rw [if_neg (by unfold inR; simp; omega),A2f (by omega)]; rfl
def rs (t:List UInt8):Option (List UInt8×Nat):=match rv t 0 with
 | some x=>if x.1≤20000∧x.2+x.1≤t.length then some ((t.drop x.2).take x.1,x.2+x.1) else none
 | none=>none
def rsR (o:Option (List UInt8×Nat)):List UInt8×Int×Bool:=match o with
 | some x=>(x.1,(x.2:Int),true)
 | none=>([],0,false)
theorem sub?_mid {α:Type} {l:List α} {i n:Nat} (h:i+n≤l.length):sub? l (i:Int) ((i+n:Nat):Int)=some ((l.drop i).take n):=by
 unfold sub?
 rw [if_pos (by omega)]
 have e1:((i+n:Nat):Int).toNat=i+n:=by omega
 have e2:(i:Int).toNat=i:=by omega
 rw [e1,e2,List.drop_take]
 congr 2
 omega
theorem A9w {t:List UInt8} (ht:t.length≤8388608) {n p:Nat} (h2:p≤t.length) (h3:n≤1000000000):((if !true then some true else (if decide ((n:Int)>20000) then some true else (if decide ((n:Int)>(w64 ((t.length:Int) - (p:Int)))) then some true else some false))):Option Bool).bind (fun y2=>(if y2 then some (([]:List UInt8),(0:Int),false) else (sub? t (p:Int) (w64 ((p:Int)+(n:Int)))).bind fun v3=>some (v3,w64 ((p:Int)+(n:Int)),true)))=some (rsR (if n≤20000∧p+n≤t.length then some ((t.drop p).take n,p+n) else none)):=by
 have e1:w64 ((t.length:Int) - (p:Int))=(t.length:Int) - p:=C0 (by omega) (by omega)
 have e2:w64 ((p:Int)+(n:Int))=((p+n:Nat):Int):=by rw [C0 (by omega) (by omega)]; omega
 rw [e1,e2]
 by_cases g1:20000<n
 ·rw [if_neg (by simp),if_pos (by simp <;> omega),if_neg (by omega)]; rfl
 ·rw [if_neg (by simp),if_neg (by simp <;> omega)]
  by_cases g2:p+n≤t.length
  ·rw [if_neg (by simp <;> omega),if_pos ⟨by omega,g2⟩,ob,if_neg (by simp),sub?_mid g2]; rfl
  ·rw [if_pos (by simp <;> omega),if_neg (by omega)]; rfl
def us (s:List UInt8):Option (List UInt8):=if 4≤s.length∧s.length≤20004∧s.drop (s.length - 4)=sealL (s.take (s.length - 4)) then some (s.take (s.length - 4)) else none
theorem sub?_tail {α:Type} {l:List α} {i:Nat} (h:i≤l.length):sub? l (i:Int) (l.length:Int)=some (l.drop i):=by
 unfold sub?
 rw [if_pos (by omega)]
 simp
def chunk (T:List UInt8) (j:Nat):List UInt8:=(T.drop (32*j)).take 32
theorem Tu (T:List UInt8) (j:Nat):(chunk T j).length=min 32 (T.length - 32*j):=by simp [chunk]
theorem A71 {T:List UInt8} {j:Nat} (hj:32*j<T.length):sub? T ((32*j:Nat):Int) ((32*j+(chunk T j).length:Nat):Int)=some (chunk T j):=by
 have hl:=Tu T j
 rw [sub?_mid (by omega)]
 congr 1
 rw [hl]
 unfold chunk
 by_cases c:32≤T.length - 32*j
 ·rw [Nat.min_eq_left c]
 ·rw [Nat.min_eq_right (by omega),List.take_of_length_le (by simp),List.take_of_length_le (by simp; omega)]
def wb1 (s:Nat) (T:List UInt8) (j:Nat) (d:TDisk):Option TDisk:=if s+j<d.Sectors.length∧(rsec d (s+j)).length=32 then wr d ((s+j:Nat):Int) (chunk T j++(rsec d (s+j)).drop (chunk T j).length) else none
def wbN (s:Nat) (T:List UInt8):Nat→Nat→TDisk→Option TDisk
 | 0,_,d=>some d
 | n+1,j,d=>if 32*j<T.length then (match wb1 s T j d with | some d'=>wbN s T n (j+1) d' | none=>none) else some d
theorem A8y {s:Nat} {T:List UInt8} {j:Nat} {d d':TDisk} (h:wb1 s T j d=some d'):E0 d'=true:=by
 unfold wb1 at h
 split at h
 ·exact (A8k h).1
 ·cases h
theorem A9h {s:Nat} {T:List UInt8}:∀ {n j:Nat} {d d':TDisk},E0 d=true→wbN s T n j d=some d'→E0 d'=true
 | 0,j,d,d',hd,h=>by simp only [wbN,qS] at h; subst h; exact hd
 | n+1,j,d,d',hd,h=>by
  rw [wbN] at h
  split at h
  ·split at h
   ·rename_i d1 h1
    exact A9h (A8y h1) h
   ·cases h
  ·cases h; exact hd
theorem A2v {x0 d:TDisk} {T:List UInt8} {s j:Nat} (hx:DkS x0) (hd:E0 d=true) (hT:T.length≤100000) (hs:s≤1000) (hj:32*j<T.length) :
  D8 x0 (s:Int) 0 T (((32*j:Nat):Int),d.Sectors,d.Cache)=some (match wb1 s T j d with | some d'=>.inl (((32*j+(chunk T j).length:Nat):Int),d'.Sectors,d'.Cache) | none=>.inr (.inl (x0,false))):=by
 have hD:=DkS.ofOk hd
 have hl:=Tu T j
 have w0:w64 (0+((32*j:Nat):Int))=((32*j:Nat):Int):=by rw [C0 (by omega) (by omega)]; omega
 have t0:Int.tmod ((32*j:Nat):Int) 32=0:=by rw [Int.tmod_eq_emod_of_nonneg (by omega)]; omega
 have t1:Int.tdiv ((32*j:Nat):Int) 32=(j:Int):=by rw [Int.tdiv_eq_ediv_of_nonneg (by omega)]; omega
 have w1:w64 (32 - 0)=32:=by rw [C0 (by omega) (by omega)]; rfl
 have w2:w64 ((T.length:Int) - ((32*j:Nat):Int))=(T.length:Int) - ((32*j:Nat):Int):=C0 (by omega) (by omega)
 have w3:w64 (j:Int)=j:=C0 (by omega) (by omega)
 have w4:w64 ((s:Int)+(j:Int))=((s+j:Nat):Int):=by rw [C0 (by omega) (by omega)]; omega
 have hdd:({ Sectors:=d.Sectors,Cache:=d.Cache }:TDisk)=d:=rfl
 have fin:∀ m:Int,m=((chunk T j).length:Int) →
   ((K4 d ((s+j:Nat):Int)).bind fun v8=>((if !v8.2 then some true else (if ((v8.1.length:Int) != 32) then some true else some false)):Option Bool).bind (fun y9=>(if y9 then (D7 x0).bind fun v17=>some (.inr (.inl (({ Sectors:=v17.Sectors,Cache:=v17.Cache }:TDisk),false))) else (sub? v8.1 0 0).bind fun v10=>(sub? T ((32*j:Nat):Int) (w64 (((32*j:Nat):Int)+m))).bind fun v11=>(cat? v10 v11).bind fun v12=>(sub? v8.1 (w64 (0+m)) (v8.1.length:Int)).bind fun v13=>(cat? v12 v13).bind fun v14=>(G8 d ((s+j:Nat):Int) v14).bind fun v15=>(if !v15.2 then (D7 x0).bind fun v16=>some (.inr (.inl (({ Sectors:=v16.Sectors,Cache:=v16.Cache }:TDisk),false))) else some (.inl (w64 (((32*j:Nat):Int)+m),v15.1.Sectors,v15.1.Cache))))):Option ((Int×(List (List UInt8))×(List TWrite)) ⊕ ((TDisk×Bool) ⊕ ((List (List UInt8))×(List TWrite)))))=some (match wb1 s T j d with | some d'=>.inl (((32*j+(chunk T j).length:Nat):Int),d'.Sectors,d'.Cache) | none=>.inr (.inl (x0,false))):=by
  rintro _ rfl
  have f1:w64 (((32*j:Nat):Int)+((chunk T j).length:Int))=((32*j+(chunk T j).length:Nat):Int):=by rw [C0 (by omega) (by omega)]; omega
  have f2:w64 (0+((chunk T j).length:Int))=((chunk T j).length:Int):=by rw [C0 (by omega) (by omega)]; omega
  rw [Ed hD,ob,f1,f2]
  unfold wb1
  by_cases c1:s+j<d.Sectors.length
  ·rw [Me c1]
   dsimp only
   by_cases c2:(rsec d (s+j)).length=32
   ·rw [if_neg (by simp),if_neg (by simp [c2]),ob,if_neg (by simp),if_pos ⟨c1,c2⟩]
    have g1:sub? (rsec d (s+j)) 0 0=some []:=by unfold sub?; simp
    rw [g1,ob,A71 hj,ob,cat?_ok (by simp; omega),ob,List.nil_append,sub?_tail (by omega),ob,cat?_ok (by simp; omega),ob,A2g hD,ob]
    cases wr d ((s+j:Nat):Int) (chunk T j++(rsec d (s+j)).drop (chunk T j).length) with
    | none=>simp [wrR,Z4 hx]
    | some d'=>simp [wrR]
   ·rw [if_neg (by simp),if_pos (by simp; omega),ob,if_pos rfl,Z4 hx,ob,if_neg (fun h=>c2 h.2)]
  ·rw [Vc (by omega)]
   dsimp only
   rw [if_pos (by simp),ob,if_pos rfl,Z4 hx,ob,if_neg (fun h=>c1 h.1)]
 unfold D8
 rw [if_pos (by simp; omega),w0,t0,t1,w1,w2,w3,w4]
 dsimp only
 rw [hdd]
 by_cases c:(32:Int)>(T.length:Int) - ((32*j:Nat):Int)
 ·rw [if_pos (by simpa using c)]
  exact fin _ (by omega)
 ·rw [if_neg (by simpa using c)]
  exact fin _ (by omega)
theorem Qw {x0:TDisk} {T:List UInt8} {s:Nat} (hx:DkS x0) (hT:T.length≤100000) (hs:s≤1000):∀ (n j:Nat) (d:TDisk),T.length≤32*(j+n)→E0 d=true →
  iter (D8 x0 (s:Int) 0 T) (((min (32*j) T.length:Nat):Int),d.Sectors,d.Cache)=some (match wbN s T n j d with | some d'=>.inr (d'.Sectors,d'.Cache) | none=>.inl (x0,false))
 | 0,j,d,hn,hd=>by
  rw [wbN,Nat.min_eq_right (by omega)]
  refine D5 ?_
  unfold D8
  rw [if_neg (by simp)]
 | n+1,j,d,hn,hd=>by
  rw [wbN]
  by_cases c:32*j<T.length
  ·rw [if_pos c,Nat.min_eq_left (by omega)]
   have hst:=A2v (x0:=x0) (s:=s) hx hd hT hs c
   cases h1:wb1 s T j d with
   | none =>
    rw [h1] at hst
    exact D5 hst
   | some d' =>
    rw [h1] at hst
    rw [K5 hst]
    have hl:=Tu T j
    have e:32*j+(chunk T j).length=min (32*(j+1)) T.length:=by omega
    rw [e]
    exact Qw hx hT hs n (j+1) d' (by omega) (A8y h1)
  ·rw [if_neg c,Nat.min_eq_right (by omega)]
   refine D5 ?_
   unfold D8
   rw [if_neg (by simp)]
def writeB (d:TDisk) (s:Nat) (T:List UInt8):TDisk×Bool:=if s<d.Sectors.length then wrR d (wbN s T (T.length+1) 0 d) else (d,false)
theorem A22 {d:TDisk} (h:E0 d=true) (s:Nat) (T:List UInt8):E0 (writeB d s T).1=true:=by
 unfold writeB
 split
 ·cases hw:wbN s T (T.length+1) 0 d with
  | none=>exact h
  | some d'=>exact A9h h hw
 ·exact h
theorem Lj {d:TDisk} (h:E0 d=true) {s:Nat} (hs:s≤1000) {T:List UInt8} (hT:T.length≤100000):J2 d (s:Int) 0 T=some (writeB d s T):=by
 have hD:=DkS.ofOk h
 have h1:=hD.sec.1
 unfold J2 writeB
 rw [Z4 hD,ob,L1,ob,if_pos (by unfold inR; simp),L1,ob,C0 (n:=(d.Sectors.length:Int) - 1) (by omega) (by omega),Eo hD,h]
 by_cases c:s<d.Sectors.length
 ·rw [if_pos (by unfold inR; simp; omega),ob,if_pos rfl,ob,if_neg (by simp),if_pos c]
  have:=Qw hD hT hs (T.length+1) 0 d (by omega) h
  rw [show ((min (32*0) T.length:Nat):Int)=0 by simp] at this
  rw [this,ob]
  cases wbN s T (T.length+1) 0 d <;> rfl
 ·rw [if_neg (by unfold inR; simp; omega),ob,if_pos rfl,if_neg c]
theorem A0q (a:Int):∀ (l:List TWrite) (o:Option TWrite) (z:List UInt8),secV (l.foldl (fun o w=>if w.At==a then some w else o) o) z=secV (hit a l) (secV o z)
 | [],o,z=>rfl
 | x::l,o,z=>by
  unfold hit
  rw [List.foldl_cons,List.foldl_cons,A0q a l,A0q a l (if x.At==a then some x else none)]
  cases x.At==a <;> rfl
theorem A4i:∀ (l:List TWrite) (s:List (List UInt8)),(∀ w∈l,0≤w.At)→∀ a,a<s.length→(l.foldl setW s)[a]?=some (secV (hit (a:Int) l) ((s[a]?).getD []))
 | [],s,_,a,ha=>by simp [hit,secV,ha]
 | w::l,s,h,a,ha=>by
  rw [List.foldl_cons,A4i l _ (fun w hw=>h w (List.mem_cons_of_mem _ hw)) a (by simp [setW]; exact ha)]
  have e:hit (a:Int) (w::l)=l.foldl (fun o w=>if w.At==(a:Int) then some w else o) (if w.At==(a:Int) then some w else none):=rfl
  rw [e,A0q]
  have h0:=h w List.mem_cons_self
  congr 2
  unfold setW
  by_cases c:w.At=(a:Int)
  ·rw [if_pos (by simpa using c),show w.At.toNat=a by omega,List.getElem?_set_self ha]; rfl
  ·rw [if_neg (by simpa using c),List.getElem?_set_ne (by omega)]; rfl
theorem Ja {d:TDisk} (h:E0 d=true) {a:Nat} (ha:a<d.Sectors.length):(rsec d a).length=32:=by
 obtain ⟨_,_,h3,h4⟩:=L4.1 h
 unfold rsec secV
 split
 ·rename_i w hw; exact (h4 w (A6j hw)).2
 ·rw [qG ha]; exact h3 _ (List.getElem_mem ha)
theorem A6x {d:TDisk} (h:E0 d=true):(flush d).Sectors.length=d.Sectors.length:=by
 unfold flush; rw [if_pos h]; exact Ry _ _
theorem A84 {d:TDisk} (h:E0 d=true) {a:Nat} (ha:a<d.Sectors.length):(flush d).Sectors[a]?=some (rsec d a):=by
 unfold flush; rw [if_pos h]
 exact A4i _ _ (fun w hw=>((L4.1 h).2.2.2 w hw).1.1) a ha
theorem A21 {d:TDisk} (hc:d.Cache=[]) (a:Nat):rsec d a=(d.Sectors[a]?).getD []:=by unfold rsec; rw [hc]; rfl
def poke (d:TDisk) (b:Nat) (T:List UInt8):TDisk:={ Sectors:=(List.range d.Sectors.length).map fun a=>(List.range 32).map fun q=>if b≤32*a+q∧32*a+q<b+T.length then T.getD (32*a+q - b) 0 else (rsec d a).getD q 0,Cache:=[] }
theorem Ev (d:TDisk) (b:Nat) (T:List UInt8):(poke d b T).Sectors.length=d.Sectors.length:=by simp [poke]
theorem Tn {d:TDisk} (h:E0 d=true) (b:Nat) (T:List UInt8):E0 (poke d b T)=true:=by
 rw [L4] at h ⊢
 refine ⟨by rw [Ev]; exact h.1,by simp [poke],?_,by simp [poke]⟩
 intro s hs
 simp only [poke,List.mem_map] at hs
 obtain ⟨a,_,rfl⟩:=hs
 simp
theorem A3z {d:TDisk} {b:Nat} {T:List UInt8} {a:Nat} (ha:a<d.Sectors.length):rsec (poke d b T) a=(List.range 32).map fun q=>if b≤32*a+q∧32*a+q<b+T.length then T.getD (32*a+q - b) 0 else (rsec d a).getD q 0:=by
 rw [A21 rfl]
 simp [poke,ha]
theorem A2c {d:TDisk} (h:E0 d=true) {b:Nat} {T:List UInt8} {a:Nat} (ha:a<d.Sectors.length) (hb:32*a+32≤b∨b+T.length≤32*a):rsec (poke d b T) a=rsec d a:=by
 have h32:=Ja h ha
 rw [A3z ha]
 refine List.ext_getElem? fun q=>?_
 by_cases hq:q<32
 ·rw [List.getElem?_map,List.getElem?_range hq,Option.map_some,if_neg (by omega),List.getD_eq_getElem?_getD,qG (by omega)]; rfl
 ·rw [List.getElem?_eq_none (by simp; omega),List.getElem?_eq_none (by omega)]
theorem A9g (s:List (List UInt8)) (c:List TWrite) (k a:Nat) (t:List UInt8):rsec { Sectors:=s,Cache:=c++[{ At:=(k:Int),Text:=t }] } a=if k=a then t else rsec { Sectors:=s,Cache:=c } a:=by
 unfold rsec
 simp only
 rw [Pv]
 by_cases e:k=a
 ·rw [if_pos e,if_pos (by simp [e])]; rfl
 ·rw [if_neg e,if_neg (by simp; omega)]
structure Wst (d:TDisk) (b:Nat) (T:List UInt8) (j i:Nat) (d':TDisk):Prop where
 ok:E0 d'=true
 sec:d'.Sectors=d.Sectors
 cache:d'.Cache.length=j
 ge:∀ w∈d'.Cache,(b:Int)<32*w.At+32
 le:∀ w∈d'.Cache,32*w.At<(b+T.length:Nat)
 get:∀ a q,a<d.Sectors.length→q<32→(rsec d' a)[q]?=if b≤32*a+q∧32*a+q<b+i then T[32*a+q - b]? else (rsec d a)[q]?
theorem Wst.flush {d d':TDisk} {b j:Nat} {T:List UInt8} (h:Wst d b T j T.length d') (hd:E0 d=true):flush d'=poke d b T:=by
 have hc:(V.flush d').Cache=[]:=by unfold V.flush; rw [if_pos h.ok]
 have hs:(V.flush d').Sectors=(poke d b T).Sectors:=by
  refine List.ext_getElem? fun a=>?_
  by_cases ha:a<d.Sectors.length
  ·have h32:(rsec d' a).length=32:=Ja h.ok (by rw [h.sec]; exact ha)
   have h32':=Ja hd ha
   rw [A84 h.ok (by rw [h.sec]; exact ha)]
   simp only [poke,List.getElem?_map,List.getElem?_range ha,Option.map_some]
   congr 1
   refine List.ext_getElem? fun q=>?_
   by_cases hq:q<32
   ·rw [h.get a q ha hq,List.getElem?_map,List.getElem?_range hq,Option.map_some]
    split
    ·rw [List.getD_eq_getElem?_getD,qG (by omega)]; rfl
    ·rw [List.getD_eq_getElem?_getD,qG (by omega)]; rfl
   ·rw [List.getElem?_eq_none (by omega),List.getElem?_eq_none (by simp; omega)]
  ·rw [List.getElem?_eq_none (by rw [A6x h.ok,h.sec]; omega),List.getElem?_eq_none (by rw [Ev]; omega)]
 cases hf:V.flush d' with
 | mk s c =>
  rw [hf] at hc hs
  simp only at hc hs
  rw [hc,hs]; rfl
theorem Wst.step {d d':TDisk} {b j i m:Nat} {T:List UInt8} (h:Wst d b T j i d') (hj:j<60) (hi:i<T.length) (hk:(b+i) / 32<d.Sectors.length) (hm:m=min (32 - (b+i)%32) (T.length - i)) :
  ∃ d'',wr d' (((b+i) / 32:Nat):Int) ((rsec d' ((b+i) / 32)).take ((b+i)%32)++(T.drop i).take m++(rsec d' ((b+i) / 32)).drop ((b+i)%32+m))=some d''∧Wst d b T (j+1) (i+m) d'':=by
 have h32:(rsec d' ((b+i) / 32)).length=32:=Ja h.ok (by rw [h.sec]; exact hk)
 have hl:((rsec d' ((b+i) / 32)).take ((b+i)%32)++(T.drop i).take m++(rsec d' ((b+i) / 32)).drop ((b+i)%32+m)).length=32:=by
  simp [h32]; omega
 generalize ht:(rsec d' ((b+i) / 32)).take ((b+i)%32)++(T.drop i).take m++(rsec d' ((b+i) / 32)).drop ((b+i)%32+m)=t at hl
 have hw:wr d' (((b+i) / 32:Nat):Int) t=some { Sectors:=d'.Sectors,Cache:=d'.Cache++[{ At:=(((b+i) / 32:Nat):Int),Text:=t }] }:=by
  unfold wr
  rw [if_pos]
  simp only [h.ok,Bool.true_and,Bool.and_eq_true,decide_eq_true_eq,hl,h.sec,h.cache,inR,beq_self_eq_true,true_and]
  omega
 refine ⟨_,hw,(A8k hw).1,h.sec,by simp [h.cache],?_,?_,?_⟩
 ·intro w hw
  rcases List.mem_append.1 hw with hw | hw
  ·exact h.ge w hw
  ·rw [List.mem_singleton] at hw; subst hw; simp only; omega
 ·intro w hw
  rcases List.mem_append.1 hw with hw | hw
  ·exact h.le w hw
  ·rw [List.mem_singleton] at hw; subst hw; simp only; omega
 ·intro a q ha hq
  rw [A9g]
  by_cases c:(b+i) / 32=a
  ·rw [if_pos c]
   subst c
   have g:=h.get _ q hk hq
   rw [← ht]
   by_cases c1:q<(b+i)%32
   ·rw [List.append_assoc,List.getElem?_append_left (by simp [h32]; omega),List.getElem?_take_of_lt c1,g]
    by_cases c2:b≤32*((b+i) / 32)+q
    ·rw [if_pos ⟨c2,by omega⟩,if_pos ⟨c2,by omega⟩]
    ·rw [if_neg (by omega),if_neg (by omega)]
   ·by_cases c2:q<(b+i)%32+m
    ·rw [List.append_assoc,List.getElem?_append_right (by simp [h32]; omega),List.getElem?_append_left (by simp [h32]; omega),List.getElem?_take_of_lt (by simp [h32]; omega),List.getElem?_drop,if_pos (by omega)]
     congr 1
     simp [h32]; omega
    ·rw [List.getElem?_append_right (by simp [h32]; omega),List.getElem?_drop]
     have e:(b+i)%32+m+(q - ((rsec d' ((b+i) / 32)).take ((b+i)%32)++(T.drop i).take m).length)=q:=by simp [h32]; omega
     rw [e,g,if_neg (by omega),if_neg (by omega)]
  ·have g:=h.get a q ha hq
   rw [if_neg c]
   show (rsec d' a)[q]?=_
   rw [g]
   by_cases c2:b≤32*a+q∧32*a+q<b+i
   ·rw [if_pos c2,if_pos ⟨c2.1,by omega⟩]
   ·rw [if_neg c2,if_neg (by omega)]
theorem A3q (n:Nat):Int.tmod (n:Int) 32=((n%32:Nat):Int):=by rw [Int.tmod_eq_emod_of_nonneg (by omega)]; omega
theorem A4g (n:Nat):Int.tdiv (n:Int) 32=((n / 32:Nat):Int):=by rw [Int.tdiv_eq_ediv_of_nonneg (by omega)]; omega
theorem A3d {x0 d d':TDisk} {T:List UInt8} {s t j i m:Nat} (h:Wst d (32*s+t) T j i d') (hT:T.length≤1000) (hs:s≤1000) (ht:t≤3200) (hj:j<60) (hi:i<T.length) (hk:(32*s+t+i) / 32<d.Sectors.length) (hm:m=min (32 - (32*s+t+i)%32) (T.length - i)) :
  ∃ d'',D8 x0 (s:Int) (t:Int) T ((i:Int),d'.Sectors,d'.Cache)=some (.inl (((i+m:Nat):Int),d''.Sectors,d''.Cache))∧Wst d (32*s+t) T (j+1) (i+m) d'':=by
 obtain ⟨d'',hw,hst⟩:=h.step hj hi hk hm
 refine ⟨d'',?_,hst⟩
 have hD:=DkS.ofOk h.ok
 have h32:(rsec d' ((32*s+t+i) / 32)).length=32:=Ja h.ok (by rw [h.sec]; exact hk)
 have w0:w64 ((t:Int)+(i:Int))=((t+i:Nat):Int):=by rw [C0 (by omega) (by omega)]; omega
 have e1:(t+i)%32=(32*s+t+i)%32:=by omega
 have w4:w64 ((s:Int)+w64 (((t+i) / 32:Nat):Int))=(((32*s+t+i) / 32:Nat):Int):=by rw [Fh (by omega),C0 (by omega) (by omega)]; omega
 have w5:w64 (32 - (((32*s+t+i)%32:Nat):Int))=((32 - (32*s+t+i)%32:Nat):Int):=by rw [C0 (by omega) (by omega)]; omega
 have w6:w64 ((T.length:Int) - (i:Int))=((T.length - i:Nat):Int):=by rw [C0 (by omega) (by omega)]; omega
 have hdd:({ Sectors:=d'.Sectors,Cache:=d'.Cache }:TDisk)=d':=rfl
 have fin:∀ n:Int,n=(m:Int) →
   ((K4 d' (((32*s+t+i) / 32:Nat):Int)).bind fun v8=>((if !v8.2 then some true else (if ((v8.1.length:Int) != 32) then some true else some false)):Option Bool).bind (fun y9=>(if y9 then (D7 x0).bind fun v17=>some (.inr (.inl (({ Sectors:=v17.Sectors,Cache:=v17.Cache }:TDisk),false))) else (sub? v8.1 0 (((32*s+t+i)%32:Nat):Int)).bind fun v10=>(sub? T (i:Int) (w64 ((i:Int)+n))).bind fun v11=>(cat? v10 v11).bind fun v12=>(sub? v8.1 (w64 ((((32*s+t+i)%32:Nat):Int)+n)) (v8.1.length:Int)).bind fun v13=>(cat? v12 v13).bind fun v14=>(G8 d' (((32*s+t+i) / 32:Nat):Int) v14).bind fun v15=>(if !v15.2 then (D7 x0).bind fun v16=>some (.inr (.inl (({ Sectors:=v16.Sectors,Cache:=v16.Cache }:TDisk),false))) else some (.inl (w64 ((i:Int)+n),v15.1.Sectors,v15.1.Cache))))):Option ((Int×(List (List UInt8))×(List TWrite)) ⊕ ((TDisk×Bool) ⊕ ((List (List UInt8))×(List TWrite)))))=some (.inl (((i+m:Nat):Int),d''.Sectors,d''.Cache)):=by
  rintro _ rfl
  have f1:w64 ((i:Int)+(m:Int))=((i+m:Nat):Int):=by rw [C0 (by omega) (by omega)]; omega
  have f2:w64 ((((32*s+t+i)%32:Nat):Int)+(m:Int))=(((32*s+t+i)%32+m:Nat):Int):=by rw [C0 (by omega) (by omega)]; omega
  rw [Ed hD,ob,f1,f2,Me (by rw [h.sec]; exact hk)]
  dsimp only
  rw [if_neg (by simp),if_neg (by simp [h32]),ob,if_neg (by simp),sub?_take (by omega),ob,sub?_mid (by omega),ob,cat?_ok (by simp; omega),ob,sub?_tail (by omega),ob,cat?_ok (by simp; omega),ob,A2g hD,ob,hw]
  rfl
 unfold D8
 rw [if_pos (by simp; omega)]
 dsimp only
 rw [w0,A3q,A4g,w4,e1,w5,w6,hdd]
 by_cases c:T.length - i<32 - (32*s+t+i)%32
 ·rw [if_pos (by simp; omega)]
  exact fin _ (by omega)
 ·rw [if_neg (by simp; omega)]
  exact fin _ (by omega)
theorem Qz {x0 d:TDisk} {T:List UInt8} {s t:Nat} (hT:T.length≤1000) (hs:s≤1000) (ht:t≤3200) (hn:32*s+t+T.length≤32*d.Sectors.length):∀ (n i j:Nat) (d':TDisk),T.length≤i+n→i≤T.length→(i=T.length∨32*j≤i+31∧(i=0∨(32*s+t+i)%32=0))→Wst d (32*s+t) T j i d' →
  ∃ d1 j1,iter (D8 x0 (s:Int) (t:Int) T) ((i:Int),d'.Sectors,d'.Cache)=some (.inr (d1.Sectors,d1.Cache))∧Wst d (32*s+t) T j1 T.length d1
 | 0,i,j,d',h1,h2,_,h=>by
  have:i=T.length:=by omega
  subst this
  refine ⟨d',j,D5 ?_,h⟩
  unfold D8
  rw [if_neg (by simp)]
 | n+1,i,j,d',h1,h2,h3,h=>by
  by_cases c:i<T.length
  ·obtain ⟨d'',e,hw⟩:=A3d (x0:=x0) (m:=min (32 - (32*s+t+i)%32) (T.length - i)) h hT hs ht (by omega) c (by omega) rfl
   rw [K5 e]
   exact Qz hT hs ht hn n _ (j+1) d'' (by omega) (by omega) (by omega) hw
  ·have:i=T.length:=by omega
   subst this
   refine ⟨d',j,D5 ?_,h⟩
   unfold D8
   rw [if_neg (by simp)]
theorem Wst.start {d:TDisk} (h:E0 d=true) (hc:d.Cache=[]) (b:Nat) (T:List UInt8):Wst d b T 0 0 d:=by
 refine ⟨h,rfl,by rw [hc]; rfl,by rw [hc]; simp,by rw [hc]; simp,?_⟩
 intro a q _ _
 rw [if_neg (by omega)]
theorem Xu {d:TDisk} (h:E0 d=true) (hc:d.Cache=[]) {T:List UInt8} {s t:Nat} (hT:T.length≤1000) (hs:s<d.Sectors.length) (ht:t≤3200) (hn:32*s+t+T.length≤32*d.Sectors.length) :
  ∃ d1 j,J2 d (s:Int) (t:Int) T=some (d1,true)∧Wst d (32*s+t) T j T.length d1:=by
 have hD:=DkS.ofOk h
 have h1:=hD.sec.1
 have h100:=(L4.1 h).1.2
 obtain ⟨d1,j1,e,hw⟩:=Qz (x0:=d) hT (show s≤1000 by omega) ht hn T.length 0 0 d (by omega) (by omega) (by omega) (Wst.start h hc _ T)
 refine ⟨d1,j1,?_,hw⟩
 unfold J2
 rw [Z4 hD,ob,L1,ob,if_pos (by unfold inR; simp; omega),L1,ob,C0 (n:=(d.Sectors.length:Int) - 1) (by omega) (by omega),Eo hD,h]
 rw [if_pos (by unfold inR; simp; omega),ob,if_pos rfl,ob,if_neg (by simp)]
 have e':iter (D8 d (s:Int) (t:Int) T) (0,d.Sectors,d.Cache)=_:=e
 rw [e']; rfl
theorem A6u {d:TDisk} (h:E0 d=true) (hc:d.Cache=[]) {T:List UInt8} {s t:Nat} (hT:T.length≤1000) (hs:s<d.Sectors.length) (ht:t≤3200) (hn:32*s+t+T.length≤32*d.Sectors.length) :
  ∃ d1,J2 d (s:Int) (t:Int) T=some (d1,true)∧F5 d1=some (poke d (32*s+t) T):=by
 obtain ⟨d1,j,e,hw⟩:=Xu h hc hT hs ht hn
 exact ⟨d1,e,by rw [Pu (DkS.ofOk hw.ok),hw.flush h]⟩
theorem Ye {x:TRec} (hk:recOk x=true):x.User.length≤8∧x.Name.length≤8∧x.Text.length≤100:=by
 unfold recOk wordOk inR at hk
 simp only [Bool.and_eq_true,decide_eq_true_eq] at hk
 obtain ⟨⟨⟨⟨_,h1⟩,_⟩,_⟩,h2⟩:=hk
 refine ⟨?_,?_,?_⟩
 ·split at h1
  ·simp only [Bool.and_eq_true,decide_eq_true_eq] at h1; omega
  ·simp only [Bool.and_eq_true,beq_iff_eq] at h1; rw [h1.1.1]; simp
 ·split at h1
  ·simp only [Bool.and_eq_true,decide_eq_true_eq] at h1; omega
  ·simp only [Bool.and_eq_true,beq_iff_eq] at h1; rw [h1.1.2]; simp
 ·split at h2
  ·simpa using h2
  ·simp at h2; rw [h2]; simp
def D6 (f:TFrame):Bool:=inR f.Gen 1 1000000000&&inR f.Seq 1 1000000000&&inR f.Body.length 1 180
theorem Ki (f:TFrame):V8 f=some (D6 f):=by
 unfold V8 D6
 simp only [L1,ob]
 cases inR f.Gen 1 1000000000 <;> cases inR f.Seq 1 1000000000 <;> simp
theorem Gy (f:TFrame):Q2 f=some (D6 f):=by
 unfold Q2 D6
 simp only [T9,ob]
 cases inR f.Gen 1 1000000000 <;> cases inR f.Seq 1 1000000000 <;> simp
theorem R1 {f:TFrame} (h:D6 f=true):(1≤f.Gen∧f.Gen≤1000000000)∧(1≤f.Seq∧f.Seq≤1000000000)∧1≤f.Body.length∧f.Body.length≤180:=by
 unfold D6 inR at h
 simp only [Bool.and_eq_true,decide_eq_true_eq] at h
 omega
def frameT (f:TFrame):List UInt8:=vt f.Gen++vt f.Seq++vt f.Body.length++f.Body
def E4 (f:TFrame):List UInt8×Bool:=if D6 f then (frameT f++sealL (frameT f),true) else ([],false)
theorem Fp {f:TFrame} (h:D6 f=true):(frameT f).length≤213:=by
 obtain ⟨h1,h2,h3,h4⟩:=R1 h
 have l1:=J7 (n:=f.Gen) (by omega)
 have l2:=J7 (n:=f.Seq) (by omega)
 have l3:=J7 (n:=f.Body.length) (by omega)
 unfold frameT
 simp; omega
theorem Q4 (f:TFrame):F6 f=some (E4 f):=by
 unfold F6 E4
 rw [Ki,ob]
 cases hk:D6 f with
 | false=>rfl
 | true =>
  obtain ⟨h1,h2,h3,h4⟩:=R1 hk
  have l1:=J7 (n:=f.Gen) (by omega)
  have l2:=J7 (n:=f.Seq) (by omega)
  have l3:=J7 (n:=f.Body.length) (by omega)
  have lt:=Fp hk
  simp only [if_true]
  rw [T2 (by omega) (by omega),ob,T2 (by omega) (by omega),ob,cat?_ok (by omega),ob,T2 (by omega) (by omega),ob,cat?_ok (by simp; omega),ob,cat?_ok (by simp; omega),ob]
  rw [show vt f.Gen++vt f.Seq++vt f.Body.length++f.Body=frameT f from rfl,Wc (by omega),ob]
  unfold sealed
  rw [if_neg (by omega)]
theorem Cx (f:TFrame):G5 f=some (E4 f):=by
 unfold G5 E4
 rw [Gy,ob]
 cases hk:D6 f with
 | false=>rfl
 | true =>
  obtain ⟨h1,h2,h3,h4⟩:=R1 hk
  have l1:=J7 (n:=f.Gen) (by omega)
  have l2:=J7 (n:=f.Seq) (by omega)
  have l3:=J7 (n:=f.Body.length) (by omega)
  have lt:=Fp hk
  simp only [if_true]
  rw [Lm (by omega) (by omega),ob,Lm (by omega) (by omega),ob,cat?_ok (by omega),ob,Lm (by omega) (by omega),ob,cat?_ok (by simp; omega),ob,cat?_ok (by simp; omega),ob]
  rw [show vt f.Gen++vt f.Seq++vt f.Body.length++f.Body=frameT f from rfl,A3s (by omega),ob]
  unfold sealed
  rw [if_neg (by omega)]
def frame0:TFrame:={ Gen:=0,Seq:=0,Body:=[] }
def E5 (x:TItem) (gen:Int):TFrame×Bool:=if (recText x.Rec).2&&D6 { Gen:=gen,Seq:=x.Seq,Body:=(recText x.Rec).1 } then ({ Gen:=gen,Seq:=x.Seq,Body:=(recText x.Rec).1 },true) else (frame0,false)
theorem Ln {x:TItem} (h:RecS x.Rec) (gen:Int):Ao x gen=some (E5 x gen):=by
 unfold Ao E5
 simp only [Kp h,ob,Ki]
 cases (recText x.Rec).2 <;> cases D6 { Gen:=gen,Seq:=x.Seq,Body:=(recText x.Rec).1 } <;> rfl
theorem Lz {x:TItem} (h:RecS x.Rec) (gen:Int):Z2 x gen=some (E5 x gen):=by
 unfold Z2 E5
 simp only [A2t h,ob,Gy]
 cases (recText x.Rec).2 <;> cases D6 { Gen:=gen,Seq:=x.Seq,Body:=(recText x.Rec).1 } <;> rfl
def frameSize (f:TFrame):Int:=((E4 f).1.length:Int)
theorem A09 (f:TFrame):Z6 f=some (frameSize f):=by unfold Z6; rw [Cx]; rfl
structure LgN (g:TLog):Prop where
 used:g.Used.length≤1048576
 items:∀ x∈g.Used,x.Items.length≤1048576∧∀ y∈x.Items,Rx y
 tot:(g.Used.map fun x=>x.Items.length).sum≤1048576
def B7 (g:TLog):List TItem:=g.Used.flatMap fun x=>x.Items
theorem A43 {g:TLog} (h:LgN g) (i:Nat):((g.Used.take i).flatMap fun x=>x.Items).length≤1048576:=by
 rw [List.length_flatMap]
 have e:((g.Used.take i).map fun x=>x.Items.length).sum≤(g.Used.map fun x=>x.Items.length).sum:=by
  conv=>rhs; rw [← List.take_append_drop i g.Used]
  rw [List.map_append,List.sum_append]; omega
 have:=h.tot
 omega
theorem Yo {g:TLog} (h:LgN g) {step:Int×List TItem→Option ((Int×List TItem) ⊕ List TItem)}
  (h1:∀ (i:Nat) (o:List TItem) (hi:i<g.Used.length),step ((i:Int),o)=(app? 96 o g.Used[i].Items).bind fun v=>some (.inl (((i+1:Nat):Int),v)))
  (h2:∀ o,step ((g.Used.length:Int),o)=some (.inr o)):iter step (0,[])=some (B7 g):=by
 have:=J6 (step:=step) (fun i=>((i:Int),(g.Used.take i).flatMap fun x=>x.Items)) g.Used.length (r:=B7 g) ?_ ?_
 ·simpa using this
 ·intro i hi
  have e:((g.Used.take (i+1)).flatMap fun x=>x.Items)=((g.Used.take i).flatMap fun x=>x.Items)++g.Used[i].Items:=by
   rw [List.take_succ_eq_append_getElem hi,List.flatMap_append]; simp
  have hl:=A43 h (i+1)
  rw [e,List.length_append] at hl
  rw [h1 i _ hi,app?_ok (by omega) (by omega),e]; rfl
 ·rw [h2,List.take_length]; rfl
theorem Gx {g:TLog} (h:LgN g):V7 g=some (B7 g):=by
 unfold V7
 rw [Yo h]
 ·rfl
 ·intro i o hi
  have:=h.used
  unfold Dj
  simp only [dlt hi,if_true,at?_nat hi,ob,C4 (show i<9223372036854775807 by omega)]
 ·intro o; unfold Dj; simp
theorem Ha {g:TLog} (h:LgN g):V2 g=some (B7 g):=by
 unfold V2
 rw [Yo h]
 ·rfl
 ·intro i o hi
  have:=h.used
  unfold Dh
  simp only [dlt hi,if_true,at?_nat hi,ob,C4 (show i<9223372036854775807 by omega)]
 ·intro o; unfold Dh; simp
theorem A2b {n:Nat} {p:Nat→Bool} {step:Int×List Int→Option ((Int×List Int) ⊕ List Int)} (hn:n≤1048576)
  (h1:∀ (i:Nat) (o:List Int),i<n→step ((i:Int),o)=if p i then (app? 8 o [(i:Int)]).bind fun v=>some (.inl (((i+1:Nat):Int),v)) else some (.inl (((i+1:Nat):Int),o)))
  (h2:∀ o,step ((n:Int),o)=some (.inr o)):iter step (0,[])=some (((List.range n).filter p).map fun (k:Nat)=>(k:Int)):=by
 have:=J6 (step:=step) (fun i=>((i:Int),((List.range i).filter p).map fun (k:Nat)=>(k:Int))) n (r:=((List.range n).filter p).map fun (k:Nat)=>(k:Int)) ?_ (h2 _)
 ·simpa using this
 ·intro i hi
  have hl:=List.length_filter_le p (List.range i)
  rw [List.length_range] at hl
  rw [h1 i _ hi,List.range_succ,List.filter_append,List.map_append]
  by_cases hp:p i=true
  ·rw [if_pos hp,app?_ok (by simp; omega) (by simp; omega),List.filter_cons,if_pos hp]; rfl
  ·rw [if_neg hp,List.filter_cons,if_neg hp]; simp
def usedNo (g:TLog) (no:Int):Bool:=g.Used.any fun s=>s.No==no
def nSegs (g:TLog):Nat:=if 11<g.Segs then 11 else g.Segs.toNat
theorem A0a (g:TLog):nSegs g≤11:=by unfold nSegs; split <;> omega
def freeSegs (g:TLog):List Int:=((List.range (nSegs g)).filter fun i:Nat=>!usedNo g (i:Int)).map fun (k:Nat)=>(k:Int)
theorem A2y (g:TLog):(freeSegs g).length≤11:=by
 unfold freeSegs
 rw [List.length_map]
 have:=List.length_filter_le (fun i:Nat=>!usedNo g (i:Int)) (List.range (nSegs g))
 rw [List.length_range] at this
 have:=A0a g
 omega
theorem Ps {g:TLog} (h:g.Used.length≤1048576):X2 g=some (freeSegs g):=by
 have hn:=A0a g
 unfold X2 freeSegs
 rw [A2b (n:=nSegs g) (p:=fun i=>!usedNo g (i:Int)) (by omega)]
 ·rfl
 ·intro i o hi
  have hc:=Dt (x0:=g.Used) (x1:=(i:Int)) (q:=fun y=>y.No==(i:Int)) (by omega) (fun y _=>rfl)
  have hlt:decide ((i:Int)<(if 11<g.Segs then 11 else g.Segs))=true:=by
   unfold nSegs at hi
   split at hi <;> rename_i c
   ·rw [if_pos c]; simp; omega
   ·rw [if_neg c]; simp; omega
  unfold Ca
  simp only [hlt,if_true,hc,ob,C4 (show i<9223372036854775807 by omega)]
  unfold usedNo
  cases g.Used.any fun s=>s.No==(i:Int) <;> rfl
 ·intro o
  unfold Ca
  have hlt:decide (((nSegs g:Nat):Int)<(if 11<g.Segs then 11 else g.Segs))=false:=by
   unfold nSegs
   split <;> rename_i c
   ·simp
   ·simp; omega
  simp [hlt]
theorem Gd {g:TLog} (h:g.Used.length≤1048576):K7 g=some (freeSegs g):=by
 have hn:=A0a g
 unfold K7 freeSegs
 rw [A2b (n:=nSegs g) (p:=fun i=>!usedNo g (i:Int)) (by omega)]
 ·rfl
 ·intro i o hi
  have h11:(i:Int)<g.Segs∧(i:Int)<11:=by
   unfold nSegs at hi
   split at hi <;> omega
  have inner:iter (R4 g ((i:Int),o)) (false,0)=some (usedNo g (i:Int)):=by
   have:=J6 (step:=R4 g ((i:Int),o)) (fun j=>((g.Used.take j).any (fun s=>s.No==(i:Int)),(j:Int))) g.Used.length (r:=usedNo g (i:Int)) ?_ ?_
   ·simpa using this
   ·intro j hj
    have e:(g.Used.take (j+1)).any (fun s=>s.No==(i:Int))=((g.Used.take j).any (fun s=>s.No==(i:Int))||g.Used[j].No==(i:Int)):=by
     rw [List.take_succ_eq_append_getElem hj,List.any_append]; simp
    unfold R4
    simp only [dlt hj,if_true,at?_nat hj,ob,C4 (show j<9223372036854775807 by omega),e]
    generalize (g.Used.take j).any (fun s=>s.No==(i:Int))=b
    by_cases c:g.Used[j].No=(i:Int) <;> cases b <;> simp [c]
   ·unfold R4
    simp [usedNo]
  unfold Bw
  simp only [show decide ((i:Int)<g.Segs)=true by simpa using h11.1,show decide ((i:Int)<11)=true by simpa using h11.2,if_true,ob,inner,C4 (show i<9223372036854775807 by omega)]
 ·intro o
  unfold Bw
  have hlt:¬ (((nSegs g:Nat):Int)<g.Segs∧((nSegs g:Nat):Int)<11):=by
   unfold nSegs
   split <;> omega
  by_cases c:((nSegs g:Nat):Int)<g.Segs
  ·have c2:¬ ((nSegs g:Nat):Int)<11:=fun d=>hlt ⟨c,d⟩
   simp [c,c2]
  ·simp [c]
theorem A2j {c:TCheck} (h:(checkText c).2=true):checkOk c=true:=by
 unfold checkText at h
 split at h
 ·assumption
 ·cases h
theorem A1a {c:TCheck}:(checkText c).1.length≤100000:=by
 unfold checkText
 split
 ·split
  ·simp
  ·dsimp only; omega
 ·simp
def writeC (d:TDisk) (c:TCheck):TDisk×Bool :=
 if (checkText c).2=true∧E0 d=true then (if (writeB d (4*(c.Stamp.toNat%2)) (checkText c).1).2 then (flush (writeB d (4*(c.Stamp.toNat%2)) (checkText c).1).1,true) else (d,false)) else (d,false)
theorem place {c:TCheck} (h:checkOk c=true):w64 (4*Int.tmod c.Stamp 2)=((4*(c.Stamp.toNat%2):Nat):Int):=by
 have h1:=(Jb h).1.1
 rw [Int.tmod_eq_emod_of_nonneg (by omega),C0 (by omega) (by omega)]
 omega
theorem A3o {d:TDisk} (hD:DkS d) {c:TCheck} (hc:c.Refs.length≤1048576):R7 d c=some (writeC d c):=by
 unfold R7 writeC
 rw [Yc hc,ob,Eo hD]
 by_cases h1:(checkText c).2=true
 ·rw [if_neg (by simp [h1]),ob]
  by_cases h2:E0 d=true
  ·rw [if_pos h2,ob,if_neg (by simp),if_pos ⟨h1,h2⟩,place (A2j h1),Lj h2 (by omega) A1a,ob]
   have hw:=DkS.ofOk (A22 h2 (4*(c.Stamp.toNat%2)) (checkText c).1)
   cases h3:(writeB d (4*(c.Stamp.toNat%2)) (checkText c).1).2 with
   | true=>simp [Pu hw]
   | false=>simp [Z4 hD]
  ·rw [if_neg h2,ob,if_pos rfl,Z4 hD,if_neg (fun h=>h2 h.2)]; rfl
 ·rw [if_pos (by simp [h1]),ob,if_pos rfl,Z4 hD,if_neg (fun h=>h1 h.1)]; rfl
def refOf (s:TSeg):TRef:={ No:=s.No,Gen:=s.Gen }
def checkOf (g:TLog):TCheck:={ Stamp:=w64 (g.Stamp+1),NextGen:=g.NextGen,NextSeq:=g.NextSeq,NextValid:=g.NextValid,Refs:=g.Used.map refOf }
theorem A7j {g:TLog} (h:g.Used.length≤1048576) {step:Int×List TRef→Option ((Int×List TRef) ⊕ List TRef)}
  (h1:∀ (i:Nat) (o:List TRef) (hi:i<g.Used.length),step ((i:Int),o)=(app? 16 o [refOf g.Used[i]]).bind fun v=>some (.inl (((i+1:Nat):Int),v)))
  (h2:∀ o,step ((g.Used.length:Int),o)=some (.inr o)):iter step (0,[])=some (g.Used.map refOf):=by
 have:=J6 (step:=step) (fun i=>((i:Int),(g.Used.take i).map refOf)) g.Used.length (r:=g.Used.map refOf) ?_ ?_
 ·simpa using this
 ·intro i hi
  rw [h1 i _ hi,app?_ok (by simp; omega) (by simp; omega),List.take_succ_eq_append_getElem hi,List.map_append]; rfl
 ·rw [h2,List.take_length]
theorem A3i {g:TLog} (h:g.Used.length≤1048576):Z8 g=some (checkOf g):=by
 unfold Z8
 rw [A7j h]
 ·rfl
 ·intro i o hi
  unfold Db
  simp only [dlt hi,if_true,at?_nat hi,ob,C4 (show i<9223372036854775807 by omega)]
  rfl
 ·intro o; unfold Db; simp
def itemEq (a b:TItem):Bool:=(a.Seq==b.Seq&&(a.Rec.Kind==b.Rec.Kind&&(a.Rec.Valid==b.Rec.Valid&&(a.Rec.Uid==b.Rec.Uid&&(a.Rec.Next==b.Rec.Next&&(a.Rec.Flags==b.Rec.Flags&&(a.Rec.User==b.Rec.User&&(a.Rec.Name==b.Rec.Name&&(a.Rec.Text==b.Rec.Text&&true)))))))))
theorem A02 {a b:TItem}:itemEq a b=true↔a=b:=by
 unfold itemEq
 constructor
 ·intro h
  simp only [Bool.and_eq_true,beq_iff_eq,and_true] at h
  obtain ⟨h0,h1,h2,h3,h4,h5,h6,h7,h8⟩:=h
  obtain ⟨s,⟨_,_,_,_,_,_,_,_⟩⟩:=a
  obtain ⟨s',⟨_,_,_,_,_,_,_,_⟩⟩:=b
  simp_all
 ·rintro rfl; simp
theorem RecS.of {x:TRec} (h:Xp x):RecS x:=⟨h.sUser,h.sName,h.sText⟩
def SzI (l:List TItem):Prop:=l.length≤1048576∧∀ y∈l,Rx y
def clash (x y:TItem):Bool:=y.Seq==x.Seq&&!itemEq y x
def itOk (l:List TItem) (i:Nat):Bool:=match l[i]? with
 | some x=>inR x.Seq 1 1000000000&&recOk x.Rec&&!(l.take i).any (clash x)
 | none=>true
def itemsOk (l:List TItem):Bool:=(List.range l.length).all (itOk l)&&decide (l.length≤200)
theorem A32 {l:List TItem} (h:itemsOk l=true):l.length≤200∧(∀ x∈l,(1≤x.Seq∧x.Seq≤1000000000)∧recOk x.Rec=true)∧∀ x∈l,∀ y∈l,x.Seq=y.Seq→x=y:=by
 unfold itemsOk at h
 simp only [Bool.and_eq_true,decide_eq_true_eq,List.all_eq_true] at h
 obtain ⟨h1,h2⟩:=h
 have key:∀ i (hi:i<l.length),(1≤l[i].Seq∧l[i].Seq≤1000000000)∧recOk l[i].Rec=true∧∀ j (hj:j<i),l[j].Seq=l[i].Seq→l[j]=l[i]:=by
  intro i hi
  have h3:=h1 i (List.mem_range.2 hi)
  unfold itOk at h3
  rw [qG hi] at h3
  simp only [Bool.and_eq_true,inR,decide_eq_true_eq,Bool.not_eq_true',List.any_eq_false] at h3
  refine ⟨h3.1.1,h3.1.2,?_⟩
  intro j hj he
  have h4:=h3.2 l[j] (qM (i:=j) (by rw [List.getElem?_take_of_lt hj,qG (by omega)]))
  unfold clash at h4
  rw [he] at h4
  simp only [beq_self_eq_true,Bool.true_and,Bool.not_eq_true',Bool.not_eq_false] at h4
  exact A02.1 h4
 refine ⟨h2,?_,?_⟩
 ·intro x hx
  obtain ⟨i,hi,rfl⟩:=List.mem_iff_getElem.1 hx
  exact ⟨(key i hi).1,(key i hi).2.1⟩
 ·intro x hx y hy he
  obtain ⟨i,hi,rfl⟩:=List.mem_iff_getElem.1 hx
  obtain ⟨j,hj,rfl⟩:=List.mem_iff_getElem.1 hy
  rcases Nat.lt_trichotomy i j with h | h | h
  ·exact (key j hj).2.2 i h he
  ·subst h; rfl
  ·exact ((key i hi).2.2 j h he.symm).symm
theorem A38 {l:List TItem} (h:SzI l):Cs l=some (itemsOk l):=by
 have hlen:=h.1
 have hl:iter (Ab l) 0=some (if (List.range l.length).all (itOk l) then .inr () else .inl false):=by
  refine Lr (fun i=>(i:Int)) l.length _ ?_ ?_ ?_
  all_goals first
   | (unfold Ab; simp; done)
   | skip
  all_goals
   intro i hi hp
   have inner:iter (Ad l (i:Int)) 0=some (if (l.take i).any (clash l[i]) then .inl false else .inr ()):=by
    refine Ka (by omega) ?_ ?_
    ·intro j hj hji
     unfold Ad
     simp only [dlt hji,if_true,at?_nat hj,at?_nat hi,ob,C4 (show j<9223372036854775807 by omega)]
     show ((if (l[j].Seq==l[i].Seq)=true then (if (!itemEq l[j] l[i])=true then some true else some false) else some false):Option Bool).bind _=_
     unfold clash
     cases l[j].Seq==l[i].Seq <;> cases itemEq l[j] l[i] <;> simp
    ·unfold Ad
     simp
   have hr:=Yw (RecS.of (h.2 _ (List.getElem_mem hi)).sRec)
   unfold itOk at hp
   rw [qG hi] at hp
   dsimp only at hp
   unfold Ab
   simp only [dlt hi,if_true,at?_nat hi,ob,L1,inner,hr]
   generalize inR l[i].Seq 1 1000000000=b1 at hp ⊢
   generalize recOk l[i].Rec=b2 at hp ⊢
   generalize (l.take i).any (clash l[i])=b4 at hp ⊢
   revert hp
   cases b1 <;> cases b2 <;> cases b4 <;> simp [C4 (show i<9223372036854775807 by omega)]
 unfold Cs itemsOk
 rw [hl]
 cases (List.range l.length).all (itOk l)
 ·simp
 ·simp; omega
theorem Kt {l:List TItem} (h:SzI l):Al l=some (itemsOk l):=by
 have hlen:=h.1
 have hl:iter (Aa l) 0=some (if (List.range l.length).all (itOk l) then .inr () else .inl false):=by
  refine Lr (fun i=>(i:Int)) l.length _ ?_ ?_ ?_
  all_goals first
   | (unfold Aa; simp; done)
   | skip
  all_goals
   intro i hi hp
   have hc:=Dp (x0:=l.take i) (x1:=l[i]) (q:=clash l[i]) (by simp; omega) (fun y _=>by
    show (if (y.Seq==l[i].Seq)=true then some (!itemEq y l[i]) else some false)=_
    unfold clash
    cases y.Seq==l[i].Seq <;> simp)
   have hr:=Kl (RecS.of (h.2 _ (List.getElem_mem hi)).sRec)
   unfold itOk at hp
   rw [qG hi] at hp
   dsimp only at hp
   unfold Aa
   simp only [dlt hi,if_true,at?_nat hi,ob,T9,hc,hr,sub?_take (Nat.le_of_lt hi)]
   generalize inR l[i].Seq 1 1000000000=b1 at hp ⊢
   generalize recOk l[i].Rec=b2 at hp ⊢
   generalize (l.take i).any (clash l[i])=b4 at hp ⊢
   revert hp
   cases b1 <;> cases b2 <;> cases b4 <;> simp [C4 (show i<9223372036854775807 by omega)]
 unfold Al itemsOk
 rw [hl]
 by_cases h2:l.length≤200
 ·rw [if_neg (by simp; omega)]
  cases (List.range l.length).all (itOk l) <;> simp [h2]
 ·rw [if_pos (by simp; omega)]
  simp [h2]
def pk (p:TItem→Bool) (lt:TItem→TItem→Bool) (l:List TItem):Nat→Option TItem
 | 0=>none
 | i+1=>match l[i]? with
  | some x=>if p x&&(match pk p lt l i with | none=>true | some b=>lt b x) then some x else pk p lt l i
  | none=>pk p lt l i
def pick (p:TItem→Bool) (lt:TItem→TItem→Bool) (l:List TItem):Option TItem:=pk p lt l l.length
theorem A8c {β:Type} {n byt:Nat} {f:Nat→β} {step:Int×List β→Option ((Int×List β) ⊕ List β)} (hl:n≤1048576) (hb:byt≤1000000)
  (h1:∀ (i:Nat) (o:List β),i<n→step ((i:Int),o)=(app? byt o [f i]).bind fun v=>some (.inl (((i+1:Nat):Int),v)))
  (h2:∀ o,step ((n:Int),o)=some (.inr o)):iter step (0,[])=some ((List.range n).map f):=by
 refine J6 (step:=step) (fun i=>((i:Int),(List.range i).map f)) n ?_ (h2 _)
 intro i hi
 have hm:(i+1)*byt≤1048576*1000000:=Nat.mul_le_mul (by omega) hb
 rw [h1 i _ hi,app?_ok (by simp; omega) (by simp; omega),List.range_succ,List.map_append]
 rfl
def zero32:List UInt8:=List.replicate 32 0
def newDisk (n:Nat):TDisk:={ Sectors:=List.replicate n zero32,Cache:=[] }
theorem A83:Cp=some zero32:=by
 unfold Cp M2
 rw [show (32:Int)=((32:Nat):Int) from rfl,mk?_ok (by omega) (by omega),ob]
 have h:=A6i (l:=List.replicate 32 (0:Int)) (z:=(0:Int)) (step:=L9 ((32:Nat):Int) 0) (by simp) ?_ ?_
 ·rw [List.length_replicate] at h
  rw [h]; rfl
 ·intro i hi o ho
  rw [List.length_replicate] at hi ho
  have hio:i<o.length:=by omega
  unfold L9
  simp only [dlt hi,if_true,at?_nat hio,ob,C4 (show i<9223372036854775807 by omega),Ew,List.getElem_replicate]
 ·intro o
  unfold L9
  simp
theorem A7a {n:Nat} (hn:n≤100) {step:Int×List (List UInt8)→Option ((Int×List (List UInt8)) ⊕ List (List UInt8))}
  (h1:∀ (i:Nat) (o:List (List UInt8)),i<n→step ((i:Int),o)=(app? 16 o [zero32]).bind fun v=>some (.inl (((i+1:Nat):Int),v)))
  (h2:∀ o,step ((n:Int),o)=some (.inr o)):iter step (0,[])=some (List.replicate n zero32):=by
 have h:=A8c (n:=n) (byt:=16) (f:=fun _=>zero32) (step:=step) (by omega) (by omega) h1 h2
 rw [h]
 congr 1
 simp [List.map_const']
theorem A2i {n:Nat} (h0:1≤n) (hn:n≤100):Cv (n:Int)=some (newDisk n,true):=by
 unfold Cv
 rw [L1,ob,if_pos (by unfold inR; simp; omega),A7a (n:=n) hn]
 ·rfl
 ·intro i o hi
  unfold Dc
  simp only [dlt hi,if_true,A83,ob,C4 (show i<9223372036854775807 by omega)]
 ·intro o
  unfold Dc; simp
theorem A55 {n:Nat} (h0:1≤n) (hn:n≤100):E0 (newDisk n)=true:=by
 rw [L4]
 refine ⟨by simp [newDisk]; omega,by simp [newDisk],?_,by simp [newDisk]⟩
 intro s hs
 have:=List.eq_of_mem_replicate hs
 subst this; rfl
def head1:TFrame:={ Gen:=1,Seq:=1,Body:=[115,101,103] }
def headT:List UInt8:=(E4 head1).1
theorem A9t:(E4 head1).2=true:=by
 unfold E4
 rw [if_pos (by decide)]
theorem Ri:headT.length≤256:=by
 unfold headT E4
 rw [if_pos (by decide)]
 have:=Fp (f:=head1) (by decide)
 simp only [List.length_append]
 have h4:(sealL (frameT head1)).length=4:=by rfl
 omega
def log0 (k:Nat):TLog:={ Disk:=newDisk (8+k*8),Segs:=(k:Int),Used:=[],NextGen:=1,NextSeq:=1,Stamp:=0,NextValid:=1 }
def zlog:TLog:={ Disk:={ Sectors:=[],Cache:=[] },Segs:=0,Used:=[],NextGen:=0,NextSeq:=0,Stamp:=0,NextValid:=0 }
def open0 (k:Nat):TDisk×Bool:=writeB (newDisk (8+k*8)) 8 headT
def log1 (k:Nat):TLog:={ Disk:=flush (open0 k).1,Segs:=(k:Int),Used:=[{ No:=0,Gen:=1,End:=(headT.length:Int),Items:=[] }],NextGen:=2,NextSeq:=1,Stamp:=0,NextValid:=1 }
def fixd (k:Nat):TDisk×Bool:=writeC (log1 k).Disk (checkOf (log1 k))
def fmtK (k:Nat):TLog×Bool:=if (open0 k).2&&(fixd k).2 then ({ log1 k with Disk:=(fixd k).1,Stamp:=1 },true) else (zlog,false)
def fmt (x:Int):TLog×Bool:=if inR x 5 11 then fmtK x.toNat else (zlog,false)
theorem free0 {k:Nat} (h:5≤k∧k≤11):∃ t,freeSegs (log0 k)=0::t:=by
 have:k=5∨k=6∨k=7∨k=8∨k=9∨k=10∨k=11:=by omega
 rcases this with rfl | rfl | rfl | rfl | rfl | rfl | rfl <;> exact ⟨_,rfl⟩
theorem A4b {k:Nat} (h:5≤k∧k≤11):E0 (newDisk (8+k*8))=true:=A55 (by omega) (by omega)
theorem Aaz {k:Nat} (h:5≤k∧k≤11):E0 (open0 k).1=true:=A22 (A4b h) 8 headT
theorem A1g {k:Nat} (h:5≤k∧k≤11):D9 (newDisk (8+k*8)) 0 0 headT=some (open0 k):=by
 have hl:=Ri
 unfold D9 T0
 rw [L1,ob,if_pos (by decide),L1,ob,if_pos (by decide)]
 rw [if_neg (by rw [show w64 (256 - 0)=256 from rfl]; simp; omega),ob,if_neg (by simp)]
 simp only [L1,ob]
 rw [if_pos (by decide),ob,show w64 (8+w64 (0*8))=((8:Nat):Int) from rfl,Lj (A4b h) (by omega) (by omega)]
 rfl
theorem A5z {k:Nat} (h:5≤k∧k≤11):R5 (log0 k) 0=some (if (open0 k).2 then (true,log1 k) else (false,log0 k)):=by
 obtain ⟨t,ht⟩:=free0 h
 unfold R5
 have e1:=Gd (g:=log0 k) (by simp [log0])
 show (K7 (log0 k)).bind _=_
 rw [e1,ob,ht]
 rw [if_neg (by decide),if_neg (by simp),ob,if_neg (by simp)]
 show (F6 head1).bind _=_
 rw [Q4,ob,show at? (0::t) 0=some 0 from by rw [show (0:Int)=((0:Nat):Int) from rfl,at?_nat (by simp)]; rfl,ob]
 show (D9 (newDisk (8+k*8)) 0 0 headT).bind _=_
 rw [A1g h,ob,A9t]
 cases ho:(open0 k).2
 ·rfl
 ·simp only [Bool.not_true,Bool.false_eq_true,if_false]
  rw [if_neg (show ¬ (decide ((log0 k).NextGen≥1000000000)=true) by simp [log0]),ob,if_neg (by simp),Pu (DkS.ofOk (Aaz h)),ob,ob,app?_ok (by simp) (by simp)]
  rfl
theorem A3c {k:Nat} (h:5≤k∧k≤11):E0 (log1 k).Disk=true:=A9s (Aaz h)
theorem A9k (x:Int):Y0 x=some (fmt x):=by
 unfold Y0 fmt
 rw [L1,ob]
 cases hr:inR x 5 11 with
 | false=>rfl
 | true =>
  unfold inR at hr
  simp only [Bool.and_eq_true,decide_eq_true_eq] at hr
  obtain ⟨k,rfl⟩:∃ k:Nat,x=k:=⟨x.toNat,by omega⟩
  have h:5≤k∧k≤11:=by omega
  rw [if_pos rfl,if_pos rfl,Int.toNat_natCast]
  have e:w64 (8+w64 ((k:Int)*8))=((8+k*8:Nat):Int):=by
   rw [C0 (n:=(k:Int)*8) (by omega) (by omega),C0 (by omega) (by omega)]; omega
  rw [e,A2i (by omega) (by omega),ob]
  show (R5 (log0 k) 0).bind _=_
  rw [A5z h,ob]
  unfold fmtK
  cases ho:(open0 k).2
  ·rfl
  ·simp only [if_true,Bool.true_and]
   have e1:=A3i (g:=log1 k) (by simp [log1])
   show (Z8 (log1 k)).bind _=_
   rw [e1,ob]
   show (R7 (log1 k).Disk (checkOf (log1 k))).bind _=_
   rw [A3o (DkS.ofOk (A3c h)) (by simp [checkOf,log1]),ob]
   show (if (!(fixd k).2)=true then _ else _)=_
   cases hf:(fixd k).2
   ·rfl
   ·rfl
theorem andv255 (a:Int):0≤andv .i64 a 255∧andv .i64 a 255≤255:=by
 have h:andv .i64 a 255=w64 ((BitVec.ofInt 64 a &&& BitVec.ofInt 64 255).toNat:Int):=rfl
 have h2:(BitVec.ofInt 64 a &&& BitVec.ofInt 64 255).toNat≤255:=by
  rw [BitVec.toNat_and]
  exact Nat.le_trans Nat.and_le_right (by decide)
 rw [h,C0 (by omega) (by omega)]
 omega
def IOk (b:List Int) (i:Int):Prop:=0≤i∧i≤(b.length:Int)∧(b.length:Int)≤1048576
def Dr {α:Type} (b:List Int) (o:Option (α×TL01Cur)) (P:α→Prop):Prop:=∃ r i h,o=some (r,⟨b,i,h⟩)∧P r∧IOk b i
theorem Dr.bind {α β:Type} {b:List Int} {o:Option (α×TL01Cur)} {P:α→Prop} {f:α×TL01Cur→Option (β×TL01Cur)} {Q:β→Prop} (h:Dr b o P) (g:∀ r i h,P r→IOk b i→Dr b (f (r,⟨b,i,h⟩)) Q):Dr b (o.bind f) Q:=by
 obtain ⟨r,i,h',rfl,hp,hi⟩:=h
 exact g r i h' hp hi
theorem Dr.ret {α:Type} {b:List Int} {r:α} {i h:Int} {Q:α→Prop} (hi:IOk b i) (hq:Q r):Dr b (some (r,⟨b,i,h⟩)) Q:=⟨r,i,h,rfl,hq,hi⟩
theorem Dr.get {α γ:Type} {b:List Int} {o:Option (α×TL01Cur)} {P:α→Prop} {f:α×TL01Cur→Option γ} {Q:γ→Prop} (h:Dr b o P) (g:∀ r i h,P r→IOk b i→∃ z,f (r,⟨b,i,h⟩)=some z∧Q z):∃ z,o.bind f=some z∧Q z:=by
 obtain ⟨r,i,h',rfl,hp,hi⟩:=h
 exact g r i h' hp hi
theorem Ts {b:List Int} {i h:Int} (hi:IOk b i):Dr b (L3 ⟨b,i,h⟩) fun x=>0≤x∧x≤255:=by
 unfold L3
 obtain ⟨h0,h1,h2⟩:=hi
 by_cases hl:i<(b.length:Int)
 ·obtain ⟨n,rfl⟩:∃ n:Nat,i=n:=⟨i.toNat,by omega⟩
  rw [if_pos (by simpa using hl),at?_nat (show n<b.length by omega),ob]
  refine ⟨_,_,_,rfl,andv255 _,?_⟩
  show IOk b (w64 ((n:Int)+1))
  rw [C0 (by omega) (by omega)]; exact ⟨by omega,by omega,h2⟩
 ·rw [if_neg (by simpa using hl)]
  exact ⟨_,_,_,rfl,andv255 _,h0,h1,h2⟩
theorem Q9 {b:List Int} {i h:Int} (hi:IOk b i) {n:Int} (hn:1≤n) (hm:n≤4294967296):Dr b (C6 ⟨b,i,h⟩ n) fun x=>0≤x∧x<n:=by
 unfold C6
 rw [if_neg (by simp; omega)]
 have tm:∀ x:Int,0≤x→0≤Int.tmod x n∧Int.tmod x n<n:=fun x hx=>⟨Int.tmod_nonneg _ hx,Int.tmod_lt_of_pos _ (by omega)⟩
 have rm:∀ x:Int,rem? x n=some (Int.tmod x n):=fun x=>by unfold rem?; rw [if_neg (by omega)]
 by_cases hs:n≤256
 ·rw [if_pos (by simpa using hs)]
  refine Dr.bind (Ts hi) fun x i h hx hi=>?_
  rw [rm,ob]
  exact Dr.ret hi (tm x hx.1)
 ·rw [if_neg (by simpa using hs)]
  refine Dr.bind (Ts hi) fun x i h hx hi=>Dr.bind (Ts hi) fun y i h hy hi=>Dr.bind (Ts hi) fun z i h hz hi=>Dr.bind (Ts hi) fun u i h hu hi=>?_
  rw [rm,ob]
  refine Dr.ret hi (tm _ ?_)
  dsimp only
  rw [C0 (n:=x*16777216) (by omega) (by omega),C0 (n:=y*65536) (by omega) (by omega),C0 (n:=z*256) (by omega) (by omega),C0 (n:=x*16777216+y*65536) (by omega) (by omega),C0 (n:=x*16777216+y*65536+z*256) (by omega) (by omega),C0 (by omega) (by omega)]
  omega
theorem Pz {b:List Int} {i h:Int} (hi:IOk b i) {l:List Int} (h1:1≤l.length) (h2:l.length≤100):Dr b (H7 ⟨b,i,h⟩ l) fun x=>x∈l:=by
 unfold H7
 refine Dr.bind (Q9 hi (by omega) (by omega)) fun x i h hx hi=>?_
 obtain ⟨n,rfl⟩:∃ n:Nat,x=n:=⟨x.toNat,by omega⟩
 rw [at?_nat (by omega),ob]
 exact Dr.ret hi (List.getElem_mem _)
theorem A36 {b:List Int} {i h:Int} (hi:IOk b i) {l:List (List UInt8)} (h1:1≤l.length) (h2:l.length≤100):Dr b (P5 ⟨b,i,h⟩ l) fun x=>x∈l:=by
 unfold P5
 refine Dr.bind (Q9 hi (by omega) (by omega)) fun x i h hx hi=>?_
 obtain ⟨n,rfl⟩:∃ n:Nat,x=n:=⟨x.toNat,by omega⟩
 rw [at?_nat (by omega),ob]
 exact Dr.ret hi (List.getElem_mem _)
theorem A54 {b:List Int} (_hb:b.length≤1048576):∃ h,T1 b=some ⟨b,0,h⟩:=by
 have key:∃ r,iter (Cc b) (w64 (76001+(b.length:Int)),0)=some r∧True:=by
  refine A4q (fun s:Int×Int=>0≤s.2∧s.2≤(b.length:Int)) (fun s=>((b.length:Int) - s.2).toNat) (fun _=>True) ?_ _ ⟨by simp,by simp⟩
  rintro ⟨x,i⟩ ⟨h0,h1⟩
  simp only at h0 h1
  unfold Cc
  by_cases hl:i<(b.length:Int)
  ·by_cases h4:i<4000
   ·left
    obtain ⟨n,rfl⟩:∃ n:Nat,i=n:=⟨i.toNat,by omega⟩
    rw [if_pos (by simpa using hl),if_pos (by simpa using h4),ob,if_pos rfl]
    show ∃ s',(at? b (n:Int)).bind _=_∧_
    rw [at?_nat (by omega),ob]
    refine ⟨_,rfl,?_,?_⟩
    ·simp only; rw [C0 (by omega) (by omega)]; omega
    ·simp only; rw [C0 (by omega) (by omega)]; omega
   ·right
    rw [if_pos (by simpa using hl),if_neg (by simpa using h4)]
    exact ⟨_,rfl,trivial⟩
  ·right
   rw [if_neg (by simpa using hl)]
   exact ⟨_,rfl,trivial⟩
 obtain ⟨r,e,_⟩:=key
 exact ⟨r,by unfold T1; rw [e,ob]⟩
theorem iok0 {b:List Int} (hb:b.length≤1048576):IOk b 0:=⟨by omega,by omega,by omega⟩
theorem Wg {x:TRec} (h:recOk x=true):1≤x.Valid∧x.Valid≤9999:=by
 unfold recOk at h
 simp only [Bool.and_eq_true] at h
 have:=h.1.1.1.1.2
 simpa [inR] using this
theorem Lv {l:List TItem}:itemsOk l=true↔l.length≤200∧(∀ x∈l,(1≤x.Seq∧x.Seq≤1000000000)∧recOk x.Rec=true)∧∀ x∈l,∀ y∈l,x.Seq=y.Seq→x=y:=by
 refine ⟨A32,fun ⟨h1,h2,h3⟩=>?_⟩
 unfold itemsOk
 simp only [Bool.and_eq_true,decide_eq_true_eq,List.all_eq_true]
 refine ⟨fun i hi=>?_,h1⟩
 have hi:=List.mem_range.1 hi
 unfold itOk
 rw [qG hi]
 have hx:=h2 l[i] (List.getElem_mem hi)
 simp only [Bool.and_eq_true,inR,decide_eq_true_eq,Bool.not_eq_true',List.any_eq_false]
 refine ⟨⟨hx.1,hx.2⟩,fun y hy=>?_⟩
 have hy:=List.mem_of_mem_take hy
 unfold clash
 by_cases he:y.Seq=l[i].Seq
 ·have:=h3 y hy l[i] (List.getElem_mem hi) he
  simp [this,A02.2 rfl]
 ·simp [he]
structure RecD (r:TRec):Prop where
 ok:recOk r=true
 valid:r.Valid≤3
 next:r.Next≤6
 uid:r.Uid≤5
 user:r.User.length≤3
 name:r.Name.length≤5
 text:r.Text.length≤28
theorem Rb {k v u n f:Int} {us nm tx:List UInt8} (h:recOk { Kind:=k,Valid:=v,Uid:=u,Next:=n,Flags:=f,User:=us,Name:=nm,Text:=tx }=true) (h1:v≤3) (h2:n≤6) (h3:u≤5) (h4:us.length≤3) (h5:nm.length≤5) (h6:tx.length≤28):RecD { Kind:=k,Valid:=v,Uid:=u,Next:=n,Flags:=f,User:=us,Name:=nm,Text:=tx }:=⟨h,h1,h2,h3,h4,h5,h6⟩
theorem Aa5 {b:List Int} {i h:Int} (hi:IOk b i):Dr b (Am ⟨b,i,h⟩) fun x=>x.length≤28:=by
 unfold Am
 refine Dr.bind (A36 hi (by decide) (by decide)) fun x i h hx hi=>Dr.ret hi ?_
 simp only [List.mem_cons,List.not_mem_nil,or_false] at hx
 rcases hx with rfl | rfl | rfl | rfl | rfl <;> simp
theorem w64s {x:Int} (h:0≤x) (h':x≤1000000000):w64 (1+x)=1+x:=C0 (by omega) (by omega)
theorem A9j {b:List Int} {i h:Int} (hi:IOk b i):Dr b (X1 ⟨b,i,h⟩) RecD:=by
 unfold X1
 refine Dr.bind (Pz hi (by decide) (by decide)) fun k i h hk hi=>Dr.bind (Q9 hi (by omega) (by omega)) fun v i h hv hi=>?_
 have hk':k=1∨k=2∨k=3∨k=4∨k=5:=by
  simp only [List.mem_cons,List.not_mem_nil,or_false] at hk; omega
 have hv1:w64 (1+v)=1+v:=w64s hv.1 (by omega)
 have iv:inR (1+v) 1 9999=true:=by unfold inR; simp; omega
 rcases hk' with rfl | rfl | rfl | rfl | rfl
 ·show Dr b (Option.bind _ _) _
  refine Dr.bind (A36 hi (by decide) (by decide)) fun us i h hus hi=>Dr.bind (A36 hi (by decide) (by decide)) fun nm i h hnm hi=>Dr.bind (Q9 hi (by omega) (by omega)) fun n i h hn hi=>Dr.ret hi ?_
  dsimp only
  have hw:wordOk us=true∧us.length≤3:=by
   simp only [List.mem_cons,List.not_mem_nil,or_false] at hus
   rcases hus with rfl | rfl <;> decide
  have hw2:wordOk nm=true∧nm.length≤5:=by
   simp only [List.mem_cons,List.not_mem_nil,or_false] at hnm
   rcases hnm with rfl | rfl <;> decide
  rw [hv1,w64s hn.1 (by omega)]
  refine Rb ?_ (by omega) (by omega) (by omega) hw.2 hw2.2 (by simp)
  unfold recOk
  simp [hw.1,hw2.1,inR]; omega
 ·refine Dr.ret hi ?_
  dsimp only
  rw [hv1]
  refine Rb ?_ (by omega) (by omega) (by omega) (by simp) (by simp) (by simp)
  unfold recOk
  simp [iv]; decide
 ·show Dr b (Option.bind _ _) _
  refine Dr.bind (Q9 hi (by omega) (by omega)) fun u i h hu hi=>Dr.bind (Q9 hi (by omega) (by omega)) fun f i h hf hi=>Dr.bind (Aa5 hi) fun tx i h htx hi=>Dr.ret hi ?_
  dsimp only
  rw [hv1,w64s hu.1 (by omega)]
  refine Rb ?_ (by omega) (by omega) (by omega) (by simp) (by simp) htx
  have i2:inR (1+u) 1 9999=true:=by unfold inR; simp; omega
  have i3:inR f 0 7=true:=by unfold inR; simp; omega
  have i4:inR 3 1 5=true:=by decide
  unfold recOk
  simp [iv,i2,i3,i4]; omega
 ·show Dr b (Option.bind _ _) _
  refine Dr.bind (Q9 hi (by omega) (by omega)) fun u i h hu hi=>Dr.bind (Q9 hi (by omega) (by omega)) fun f i h hf hi=>Dr.ret hi ?_
  dsimp only
  rw [hv1,w64s hu.1 (by omega)]
  refine Rb ?_ (by omega) (by omega) (by omega) (by simp) (by simp) (by simp)
  have i2:inR (1+u) 1 9999=true:=by unfold inR; simp; omega
  have i3:inR f 0 7=true:=by unfold inR; simp; omega
  have i4:inR 4 1 5=true:=by decide
  unfold recOk
  simp [iv,i2,i3,i4]
 ·show Dr b (Option.bind _ _) _
  refine Dr.bind (Q9 hi (by omega) (by omega)) fun u i h hu hi=>Dr.ret hi ?_
  dsimp only
  rw [hv1,w64s hu.1 (by omega)]
  refine Rb ?_ (by omega) (by omega) (by omega) (by simp) (by simp) (by simp)
  have i2:inR (1+u) 1 9999=true:=by unfold inR; simp; omega
  have i4:inR 5 1 5=true:=by decide
  unfold recOk
  simp [iv,i2,i4]
theorem RecD.sz {r:TRec} (h:RecD r):Xp r:=⟨by have:=h.user; omega,by have:=h.name; omega,by have:=h.text; omega⟩
def hd (g:TLog):TSeg:=(g.Used[g.Used.length - 1]?).getD { No:=0,Gen:=0,End:=0,Items:=[] }
def hdF (gen:Int):TFrame:={ Gen:=gen,Seq:=1,Body:=[115,101,103] }
def hdT (gen:Int):List UInt8:=(E4 (hdF gen)).1
theorem A9e {gen:Int} (h:1≤gen∧gen≤1000000000):(E4 (hdF gen)).2=true:=by
 unfold E4
 rw [if_pos]
 unfold D6 hdF inR
 simp; omega
theorem Rc (gen:Int):(hdT gen).length≤217:=by
 unfold hdT E4
 split
 ·rename_i h
  have:=Fp h
  have e:=Dg (frameT (hdF gen))
  rw [List.length_append]; omega
 ·simp
def openG (g:TLog):TLog:={ g with Disk:=poke g.Disk (256*(g.Used.length+1)) (hdT g.NextGen),Used:=g.Used++[{ No:=(g.Used.length:Int),Gen:=g.NextGen,End:=((hdT g.NextGen).length:Int),Items:=[] }],NextGen:=g.NextGen+1 }
def appG (g:TLog) (x:TItem) (T:List UInt8):TLog:={ g with Disk:=poke g.Disk (256*g.Used.length+(hd g).End.toNat) T,Used:=g.Used.dropLast++[{ No:=(hd g).No,Gen:=(hd g).Gen,End:=(hd g).End+(T.length:Int),Items:=(hd g).Items++[x] }],NextSeq:=if x.Seq≥g.NextSeq then x.Seq+1 else g.NextSeq,NextValid:=if x.Rec.Valid≥g.NextValid then x.Rec.Valid+1 else g.NextValid }
def openS (n:Nat) (g:TLog) (keep:Int):Bool×TLog:=if keep<((n - g.Used.length:Nat):Int) then (true,openG g) else (false,g)
def frT (g:TLog) (f:TFrame):List UInt8×Bool:=E4 { Gen:=(hd g).Gen,Seq:=f.Seq,Body:=f.Body }
def appS (n:Nat) (g:TLog) (x:TItem) (keep:Int):Bool×TLog :=
 let f:=E5 x (hd g).Gen
 let t:=E4 f.1
 if f.2=false then (false,g) else if t.2=false then (false,g) else if x.Seq≥1000000000 then (false,g)
 else if (hd g).End+(t.1.length:Int)>256 then
  (if (openS n g keep).1 then
   (if (frT (openG g) f.1).2=false then (false,openG g) else if (hd (openG g)).End+((frT (openG g) f.1).1.length:Int)>256 then (false,openG g) else (true,appG (openG g) x (frT (openG g) f.1).1))
  else (false,g))
 else (true,appG g x t.1)
structure W (n:Nat) (S0:Nat→List UInt8) (g:TLog):Prop where
 rng:5≤n∧n≤11
 ok:E0 g.Disk=true
 cache:g.Disk.Cache=[]
 sec:g.Disk.Sectors.length=8+8*n
 segs:g.Segs=(n:Int)
 used:∀ (j:Nat) (s:TSeg),g.Used[j]?=some s→s.No=(j:Int)∧s.Gen=(j:Int)+1∧0≤s.End∧s.End≤256
 len:1≤g.Used.length∧g.Used.length≤n
 gen:g.NextGen=(g.Used.length:Int)+1
 seq:g.NextSeq=((B7 g).length:Int)+1
 stamp:g.Stamp=1
 valid:1≤g.NextValid∧g.NextValid≤4
 its:∀ (i:Nat) (x:TItem),(B7 g)[i]?=some x→x.Seq=(i:Int)+1∧RecD x.Rec∧x.Rec.Valid<g.NextValid
 home:∀ a,a<8→rsec g.Disk a=S0 a
theorem A6f {g:TLog} {l:List TSeg} {s:TSeg} (h:g.Used=l++[s]):hd g=s:=by
 unfold hd; rw [h]; simp
theorem Mj {g:TLog} (h:1≤g.Used.length):g.Used=g.Used.dropLast++[hd g]:=by
 have h0:g.Used≠[]:=by intro e; rw [e] at h; simp at h
 have:=List.dropLast_concat_getLast h0
 conv=>lhs; rw [← this]
 have e:hd g=g.Used.getLast h0:=A6f this.symm
 rw [e]
theorem Wj {g:TLog} (h:1≤g.Used.length):g.Used[g.Used.length - 1]?=some (hd g):=by
 unfold hd
 rw [qG (by omega)]; rfl
theorem W.hd {n:Nat} {S0:Nat→List UInt8} {g:TLog} (h:W n S0 g):(hd g).No=(g.Used.length:Int) - 1∧(V.hd g).Gen=(g.Used.length:Int)∧0≤(V.hd g).End∧(V.hd g).End≤256:=by
 have h1:=h.len.1
 obtain ⟨a,b,c,d⟩:=h.used _ _ (Wj h1)
 refine ⟨by omega,by omega,c,d⟩
theorem W.usedNo {n:Nat} {S0:Nat→List UInt8} {g:TLog} (h:W n S0 g) (i:Nat):usedNo g (i:Int)=decide (i<g.Used.length):=by
 unfold V.usedNo
 rw [Bool.eq_iff_iff,List.any_eq_true,decide_eq_true_iff]
 constructor
 ·rintro ⟨s,hs,he⟩
  obtain ⟨j,hj⟩:=List.getElem?_of_mem hs
  have:=h.used j s hj
  have hl:=(qI hj).1
  have he':=beq_iff_eq.1 he
  omega
 ·intro hi
  refine ⟨g.Used[i],List.getElem_mem hi,?_⟩
  have:=h.used i _ (qG hi)
  rw [this.1]; simp
theorem A5q:∀ n:Nat,n<12→∀ u:Nat,u<12→u≤n→(List.range n).filter (fun i=>!decide (i<u))=List.range' u (n - u):=by decide
theorem W.free {n:Nat} {S0:Nat→List UInt8} {g:TLog} (h:W n S0 g):freeSegs g=(List.range' g.Used.length (n - g.Used.length)).map fun (k:Nat)=>(k:Int):=by
 have hn:=h.rng
 have hl:=h.len
 unfold freeSegs
 have e:nSegs g=n:=by unfold nSegs; rw [h.segs,if_neg (by omega)]; rfl
 rw [e,← A5q n (by omega) g.Used.length (by omega) hl.2]
 congr 2
 funext i
 rw [h.usedNo i]
theorem Mo {d:TDisk} (h:E0 d=true) (hc:d.Cache=[]) {T:List UInt8} {no t:Nat} (hno:no≤10) (hs:16+8*no≤d.Sectors.length) (ht:t+T.length≤256) :
  ∃ d1,D9 d (no:Int) (t:Int) T=some (d1,true)∧F5 d1=some (poke d (256*(no+1)+t) T):=by
 obtain ⟨d1,e1,e2⟩:=A6u h hc (T:=T) (s:=8+8*no) (t:=t) (by omega) (by omega) (by omega) (by omega)
 refine ⟨d1,?_,by rw [e2]; congr 2; omega⟩
 unfold D9 T0
 rw [L1,ob,if_pos (by unfold inR; simp; omega),L1,ob,if_pos (by unfold inR; simp; omega)]
 rw [if_neg (by rw [C0 (by omega) (by omega)]; simp; omega),ob,if_neg (by simp)]
 simp only [L1,ob]
 rw [if_pos (by unfold inR; simp; omega),ob,C0 (n:=(no:Int)*8) (by omega) (by omega),C0 (by omega) (by omega),show (8:Int)+(no:Int)*8=((8+8*no:Nat):Int) by omega,e1]
 rfl
theorem A89 {n:Nat} {S0:Nat→List UInt8} {g:TLog} (h:W n S0 g) {keep:Int} (hk:0≤keep):G7 g keep=some (openS n g keep):=by
 have hn:=h.rng
 have hl:=h.len
 unfold G7 openS
 show (K7 g).bind _=_
 rw [Gd (by omega),ob,if_neg (by simp; omega),h.free]
 by_cases c:keep<((n - g.Used.length:Nat):Int)
 ·rw [if_neg (by simp; omega),ob,if_neg (by simp),if_pos c]
  show (F6 (hdF g.NextGen)).bind _=_
  have ho:=A9e (gen:=g.NextGen) (by rw [h.gen]; omega)
  have ha:at? ((List.range' g.Used.length (n - g.Used.length)).map fun (k:Nat)=>(k:Int)) 0=some (g.Used.length:Int):=by
   rw [show (0:Int)=((0:Nat):Int) from rfl,at?_nat (by simp; omega)]; simp
  rw [Q4,ob,ha,ob]
  have ht:=Rc g.NextGen
  obtain ⟨d1,e1,e2⟩:=Mo h.ok h.cache (T:=hdT g.NextGen) (no:=g.Used.length) (t:=0) (by omega) (by rw [h.sec]; omega) (by omega)
  show (D9 g.Disk (g.Used.length:Int) ((0:Nat):Int) (hdT g.NextGen)).bind _=_
  rw [e1,ob,ho,if_neg (by simp),if_neg (by simp),if_neg (by rw [h.gen]; simp; omega),ob,if_neg (by simp),e2,ob,app?_ok (by simp; omega) (by simp; omega),ob,ob,app?_ok (by simp; omega) (by simp; omega),ob,C0 (n:=g.NextGen+1) (by rw [h.gen]; omega) (by rw [h.gen]; omega)]
  rfl
 ·rw [if_pos (by simp; omega),ob,if_pos rfl,if_neg c]
theorem W.openG {n:Nat} {S0:Nat→List UInt8} {g:TLog} (h:W n S0 g) (hu:g.Used.length<n):W n S0 (openG g):=by
 have hn:=h.rng
 have hl:=h.len
 have ht:=Rc g.NextGen
 have hi:B7 (V.openG g)=B7 g:=by unfold B7 V.openG; simp
 refine ⟨hn,Tn h.ok _ _,rfl,by unfold V.openG; rw [Ev]; exact h.sec,h.segs,?_,by simp [V.openG]; omega,by simp only [V.openG,List.length_append,List.length_singleton]; rw [h.gen]; omega,by rw [hi]; exact h.seq,h.stamp,h.valid,by rw [hi]; exact h.its,?_⟩
 ·intro j s hs
  simp only [V.openG] at hs
  by_cases c:j<g.Used.length
  ·rw [List.getElem?_append_left c] at hs
   exact h.used j s hs
  ·rw [List.getElem?_append_right (by omega)] at hs
   have:j - g.Used.length=0:=by
    by_cases e:j - g.Used.length=0
    ·exact e
    ·rw [List.getElem?_eq_none (by simp; omega)] at hs; cases hs
   rw [this] at hs
   simp only [List.getElem?_cons_zero,qS] at hs
   subst hs
   refine ⟨by simp only; omega,by simp only; rw [h.gen]; omega,by simp only; omega,by simp only; omega⟩
 ·intro a ha
  have:=h.sec
  show rsec (poke g.Disk _ _) a=_
  rw [A2c h.ok (by omega) (by omega)]
  exact h.home a ha
theorem W.appG {n:Nat} {S0:Nat→List UInt8} {g:TLog} (h:W n S0 g) {x:TItem} {T:List UInt8} (hx:x.Seq=g.NextSeq) (hr:RecD x.Rec) (hT:(V.hd g).End+(T.length:Int)≤256):W n S0 (appG g x T)∧B7 (V.appG g x T)=B7 g++[x]:=by
 have hn:=h.rng
 have hl:=h.len
 obtain ⟨h1,h2,h3,h4⟩:=h.hd
 have hu:=Mj hl.1
 have hi:B7 (V.appG g x T)=B7 g++[x]:=by
  unfold B7 V.appG
  conv=>rhs; rw [hu]
  simp
 have hlen:(V.appG g x T).Used.length=g.Used.length:=by unfold V.appG; simp; omega
 have hv:=hr.valid
 refine ⟨⟨hn,Tn h.ok _ _,rfl,by unfold V.appG; rw [Ev]; exact h.sec,h.segs,?_,by rw [hlen]; exact hl,by rw [hlen]; exact h.gen,?_,h.stamp,?_,?_,?_⟩,hi⟩
 ·intro j s hs
  simp only [V.appG] at hs
  by_cases c:j<g.Used.length - 1
  ·rw [List.getElem?_append_left (by simp; omega)] at hs
   refine h.used j s ?_
   rw [hu,List.getElem?_append_left (by simp; omega)]
   exact hs
  ·rw [List.getElem?_append_right (by simp; omega)] at hs
   have e:j - g.Used.dropLast.length=0:=by
    by_cases e:j - g.Used.dropLast.length=0
    ·exact e
    ·rw [List.getElem?_eq_none (by simp at e ⊢; omega)] at hs; cases hs
   rw [e] at hs
   simp only [List.getElem?_cons_zero,qS] at hs
   subst hs
   simp only [List.length_dropLast] at e
   refine ⟨by simp only; omega,by simp only; omega,by simp only; omega,by simp only; omega⟩
 ·rw [hi]
  show (if x.Seq≥g.NextSeq then x.Seq+1 else g.NextSeq)=_
  rw [if_pos (by omega),hx,h.seq]; simp
 ·have:=h.valid
  show 1≤(if x.Rec.Valid≥g.NextValid then x.Rec.Valid+1 else g.NextValid)∧(if x.Rec.Valid≥g.NextValid then x.Rec.Valid+1 else g.NextValid)≤4
  split <;> omega
 ·intro i y hy
  rw [hi] at hy
  have hge:g.NextValid≤(V.appG g x T).NextValid∧x.Rec.Valid<(V.appG g x T).NextValid:=by
   show g.NextValid≤(if x.Rec.Valid≥g.NextValid then x.Rec.Valid+1 else g.NextValid)∧x.Rec.Valid<(if x.Rec.Valid≥g.NextValid then x.Rec.Valid+1 else g.NextValid)
   split <;> omega
  by_cases c:i<(B7 g).length
  ·rw [List.getElem?_append_left c] at hy
   obtain ⟨a1,a2,a3⟩:=h.its i y hy
   exact ⟨a1,a2,by omega⟩
  ·rw [List.getElem?_append_right (by omega)] at hy
   have e:i - (B7 g).length=0:=by
    by_cases e:i - (B7 g).length=0
    ·exact e
    ·rw [List.getElem?_eq_none (by simp; omega)] at hy; cases hy
   rw [e] at hy
   simp only [List.getElem?_cons_zero,qS] at hy
   subst hy
   refine ⟨by rw [hx,h.seq]; omega,hr,hge.2⟩
 ·intro a ha
  have:=h.sec
  show rsec (poke g.Disk _ _) a=_
  rw [A2c h.ok (by omega) (by omega)]
  exact h.home a ha
theorem Pn (f:TFrame):(E4 f).1.length≤217:=by
 unfold E4
 split
 ·rename_i h
  have:=Fp h
  have e:=Dg (frameT f)
  rw [List.length_append]; omega
 ·simp
theorem Zf {α:Type} {l:List α} {y:α} (h:1≤l.length):l.set (l.length - 1) y=l.dropLast++[y]:=by
 have h0:l≠[]:=by intro e; rw [e] at h; simp at h
 obtain ⟨a,b,rfl⟩:∃ a b,l=a++[b]:=⟨l.dropLast,l.getLast h0,(List.dropLast_concat_getLast h0).symm⟩
 simp
theorem A2u {n:Nat} {S0:Nat→List UInt8} {g:TLog} (h:W n S0 g):∀ y∈B7 g,RecD y.Rec:=by
 intro y hy
 obtain ⟨i,hi⟩:=List.getElem?_of_mem hy
 exact (h.its i y hi).2.1
theorem Yr {g:TLog} (h:1≤g.Used.length):(hd g).Items.length≤(B7 g).length:=by
 unfold B7
 conv=>rhs; rw [Mj h]
 simp
theorem A4f {n:Nat} {S0:Nat→List UInt8} {g:TLog} (h:W n S0 g) (hm:(B7 g).length≤1000) {x:TItem} (hx:0≤x.Seq∧x.Seq≤1000000000) (hv:x.Rec.Valid≤1000000000) (hv0:0≤x.Rec.Valid) {T:List UInt8} (hT:(hd g).End+(T.length:Int)≤256) :
  ((D9 g.Disk (hd g).No (hd g).End T).bind fun v4=>(if !v4.2 then some (false,g) else (F5 v4.1).bind fun v5=>(app? 96 ([]:List TItem) (hd g).Items).bind fun v6=>(app? 96 v6 ([x]:List TItem)).bind fun v7=>(some (hd g)).bind fun v8=>(some (set' g.Used (w64 ((g.Used.length:Int) - 1)) ({ No:=(hd g).No,Gen:=(hd g).Gen,End:=(hd g).End+(T.length:Int),Items:=v7 }:TSeg))).bind fun v9=>(if decide (x.Seq≥g.NextSeq) then (if decide (x.Rec.Valid≥g.NextValid) then some (true,({ Disk:=({ Sectors:=v5.Sectors,Cache:=v5.Cache }:TDisk),Segs:=g.Segs,Used:=v9,NextGen:=g.NextGen,NextSeq:=w64 (x.Seq+1),Stamp:=g.Stamp,NextValid:=w64 (x.Rec.Valid+1) }:TLog)) else some (true,({ Disk:=({ Sectors:=v5.Sectors,Cache:=v5.Cache }:TDisk),Segs:=g.Segs,Used:=v9,NextGen:=g.NextGen,NextSeq:=w64 (x.Seq+1),Stamp:=g.Stamp,NextValid:=g.NextValid }:TLog))) else (if decide (x.Rec.Valid≥g.NextValid) then some (true,({ Disk:=({ Sectors:=v5.Sectors,Cache:=v5.Cache }:TDisk),Segs:=g.Segs,Used:=v9,NextGen:=g.NextGen,NextSeq:=g.NextSeq,Stamp:=g.Stamp,NextValid:=w64 (x.Rec.Valid+1) }:TLog)) else some (true,({ Disk:=({ Sectors:=v5.Sectors,Cache:=v5.Cache }:TDisk),Segs:=g.Segs,Used:=v9,NextGen:=g.NextGen,NextSeq:=g.NextSeq,Stamp:=g.Stamp,NextValid:=g.NextValid }:TLog))))):Option (Bool×TLog))=some (true,appG g x T):=by
 have hn:=h.rng
 have hl:=h.len
 obtain ⟨h1,h2,h3,h4⟩:=h.hd
 have hit:=Yr hl.1
 obtain ⟨d1,e1,e2⟩:=Mo h.ok h.cache (T:=T) (no:=g.Used.length - 1) (t:=(hd g).End.toNat) (by omega) (by rw [h.sec]; omega) (by omega)
 rw [show (hd g).No=((g.Used.length - 1:Nat):Int) by omega]
 have e1':D9 g.Disk ((g.Used.length - 1:Nat):Int) (hd g).End T=some (d1,true):=by
  rw [← e1]; congr 1; omega
 rw [e1',ob,if_neg (by simp),e2,ob,app?_ok (by simp; omega) (by simp; omega),ob,app?_ok (by simp; omega) (by simp; omega),ob]
 rw [C0 (n:=(g.Used.length:Int) - 1) (by omega) (by omega),show (g.Used.length:Int) - 1=((g.Used.length - 1:Nat):Int) by omega,ob,ob,Ew,Zf hl.1]
 rw [C0 (n:=x.Seq+1) (by omega) (by omega),C0 (n:=x.Rec.Valid+1) (by omega) (by omega)]
 unfold appG
 rw [show 256*(g.Used.length - 1+1)=256*g.Used.length by omega,show ((g.Used.length - 1:Nat):Int)=(hd g).No by omega]
 by_cases c1:x.Seq≥g.NextSeq
 ·rw [if_pos (by simpa using c1),if_pos c1]
  by_cases c2:x.Rec.Valid≥g.NextValid
  ·rw [if_pos (by simpa using c2),if_pos c2]; rfl
  ·rw [if_neg (by simpa using c2),if_neg c2]; rfl
 ·rw [if_neg (by simpa using c1),if_neg c1]
  by_cases c2:x.Rec.Valid≥g.NextValid
  ·rw [if_pos (by simpa using c2),if_pos c2]; rfl
  ·rw [if_neg (by simpa using c2),if_neg c2]; rfl
theorem A3r {n:Nat} {S0:Nat→List UInt8} {g:TLog} (h:W n S0 g) (hm:(B7 g).length≤1000) {x:TItem} (hx:0≤x.Seq) (hr:RecS x.Rec) (hv:x.Rec.Valid≤1000000000) (hv0:0≤x.Rec.Valid) {keep:Int} (hk:0≤keep):F9 g x keep=some (appS n g x keep):=by
 have hn:=h.rng
 have hl:=h.len
 obtain ⟨h1,h2,h3,h4⟩:=h.hd
 unfold F9 appS
 have ha:∀ g:TLog,1≤g.Used.length→g.Used.length≤11→at? g.Used (w64 ((g.Used.length:Int) - 1))=some (hd g):=by
  intro g a b
  rw [C0 (n:=(g.Used.length:Int) - 1) (by omega) (by omega),show (g.Used.length:Int) - 1=((g.Used.length - 1:Nat):Int) by omega,at?_eq (Wj a)]
 have l1:=Pn (E5 x (hd g).Gen).1
 rw [ha g hl.1 (by omega),ob,Ln hr,ob,Q4,ob]
 dsimp only
 cases c1:(E5 x (hd g).Gen).2
 ·rfl
 ·simp only [Bool.not_true,Bool.not_false,Bool.false_eq_true,Bool.true_eq_false,if_false,if_true]
  cases c2:(E4 (E5 x (hd g).Gen).1).2
  ·rfl
  ·simp only [Bool.not_true,Bool.not_false,Bool.false_eq_true,Bool.true_eq_false,if_false,if_true]
   by_cases c3:x.Seq≥1000000000
   ·rw [if_pos (by simpa using c3),if_pos c3]; rfl
   ·rw [if_neg (by simpa using c3),if_neg c3,ob,if_neg (by simp),C0 (n:=(hd g).End+_) (by omega) (by omega)]
    by_cases c4:(hd g).End+((E4 (E5 x (hd g).Gen).1).1.length:Int)>256
    ·rw [if_pos (by simpa using c4),if_pos c4]
     show (G7 g keep).bind _=_
     rw [A89 h hk,ob]
     unfold openS
     by_cases c5:keep<((n - g.Used.length:Nat):Int)
     ·have hw:=h.openG (by omega)
      obtain ⟨k1,k2,k3,k4⟩:=hw.hd
      rw [if_pos c5]
      dsimp only
      simp only [Bool.not_true,Bool.not_false,Bool.false_eq_true,Bool.true_eq_false,if_false,if_true]
      rw [ha (openG g) hw.len.1 (by have:=hw.len.2; omega),ob,Q4,ob]
      have l2:=Pn { Gen:=(hd (openG g)).Gen,Seq:=(E5 x (hd g).Gen).1.Seq,Body:=(E5 x (hd g).Gen).1.Body }
      have hi:B7 (openG g)=B7 g:=by unfold B7 openG; simp
      unfold frT
      cases c6:(E4 { Gen:=(hd (openG g)).Gen,Seq:=(E5 x (hd g).Gen).1.Seq,Body:=(E5 x (hd g).Gen).1.Body }).2
      ·rfl
      ·simp only [Bool.not_true,Bool.not_false,Bool.false_eq_true,Bool.true_eq_false,if_false,if_true]
       rw [C0 (n:=(hd (openG g)).End+_) (by omega) (by omega)]
       by_cases c7:(hd (openG g)).End+((E4 { Gen:=(hd (openG g)).Gen,Seq:=(E5 x (hd g).Gen).1.Seq,Body:=(E5 x (hd g).Gen).1.Body }).1.length:Int)>256
       ·rw [if_pos (by simpa using c7),if_pos c7]; rfl
       ·rw [if_neg (by simpa using c7),if_neg c7,ob,if_neg (by simp)]
        exact A4f hw (by rw [hi]; exact hm) ⟨hx,by omega⟩ hv hv0 (T:=(E4 { Gen:=(hd (openG g)).Gen,Seq:=(E5 x (hd g).Gen).1.Seq,Body:=(E5 x (hd g).Gen).1.Body }).1) (by omega)
     ·rw [if_neg c5]
      rfl
    ·rw [if_neg (by simpa using c4),if_neg c4]
     exact A4f h hm ⟨hx,by omega⟩ hv hv0 (T:=(E4 (E5 x (hd g).Gen).1).1) (by omega)
theorem Xq (n:Nat) (g:TLog) (x:TItem) (keep:Int):((appS n g x keep).2=g∧(appS n g x keep).1=false)∨((appS n g x keep).2=openG g∧(appS n g x keep).1=false∧keep<((n - g.Used.length:Nat):Int))∨(∃ T,appS n g x keep=(true,appG g x T)∧T=(E4 (E5 x (hd g).Gen).1).1∧(E5 x (hd g).Gen).2=true∧(E4 (E5 x (hd g).Gen).1).2=true∧(hd g).End+(T.length:Int)≤256) ∨
  (∃ T,appS n g x keep=(true,appG (openG g) x T)∧T=(frT (openG g) (E5 x (hd g).Gen).1).1∧(E5 x (hd g).Gen).2=true∧(frT (openG g) (E5 x (hd g).Gen).1).2=true∧(hd (openG g)).End+(T.length:Int)≤256∧keep<((n - g.Used.length:Nat):Int)):=by
 generalize hr:appS n g x keep=r
 unfold appS openS at hr
 dsimp only at hr
 split at hr
 ·subst hr; exact .inl ⟨rfl,rfl⟩
 ·rename_i a1
  split at hr
  ·subst hr; exact .inl ⟨rfl,rfl⟩
  ·rename_i a2
   split at hr
   ·subst hr; exact .inl ⟨rfl,rfl⟩
   ·split at hr
    ·by_cases c:keep<((n - g.Used.length:Nat):Int)
     ·rw [if_pos c] at hr
      dsimp only at hr
      rw [if_pos rfl] at hr
      split at hr
      ·subst hr; exact .inr (.inl ⟨rfl,rfl,c⟩)
      ·rename_i a5
       split at hr
       ·subst hr; exact .inr (.inl ⟨rfl,rfl,c⟩)
       ·rename_i a6
        subst hr
        exact .inr (.inr (.inr ⟨_,rfl,rfl,by simpa using a1,by simpa using a5,by omega,c⟩))
     ·rw [if_neg c] at hr
      dsimp only at hr
      rw [if_neg (by simp)] at hr
      subst hr; exact .inl ⟨rfl,rfl⟩
    ·rename_i a4
     subst hr
     exact .inr (.inr (.inl ⟨_,rfl,rfl,by simpa using a1,by simpa using a2,by omega⟩))
theorem Xl {s:TSeg}:∀ (l:List TSeg),s∈l→s.Items.length≤(l.map fun x=>x.Items.length).sum
 | [],h=>by cases h
 | x::l,h=>by
  rw [List.map_cons,List.sum_cons]
  rcases List.mem_cons.1 h with e | h
  ·rw [e]; omega
  ·have:=Xl l h; omega
theorem W.appS {n:Nat} {S0:Nat→List UInt8} {g:TLog} (h:W n S0 g) {x:TItem} (hx:x.Seq=g.NextSeq) (hr:RecD x.Rec) {keep:Int} (hk:0≤keep):W n S0 (appS n g x keep).2∧(B7 (V.appS n g x keep).2).length≤(B7 g).length+1:=by
 have hi:B7 (V.openG g)=B7 g:=by unfold B7 V.openG; simp
 rcases Xq n g x keep with ⟨e,_⟩ | ⟨e,_,c⟩ | ⟨T,e,_,_,_,c⟩ | ⟨T,e,_,_,_,c,c'⟩
 ·rw [e]; exact ⟨h,by omega⟩
 ·rw [e]; exact ⟨h.openG (by omega),by rw [hi]; omega⟩
 ·rw [e]
  have:=h.appG hx hr c
  exact ⟨this.1,by rw [this.2]; simp⟩
 ·rw [e]
  have:=(h.openG (by omega)).appG (x:=x) (T:=T) hx hr c
  exact ⟨this.1,by rw [this.2,hi]; simp⟩
theorem W.lgn {n:Nat} {S0:Nat→List UInt8} {g:TLog} (h:W n S0 g) (hm:(B7 g).length≤1000):LgN g:=by
 have hn:=h.rng
 have hl:=h.len
 have hw:=A2u h
 have ht:(B7 g).length=(g.Used.map fun x=>x.Items.length).sum:=by unfold B7; rw [List.length_flatMap]
 refine ⟨by omega,fun s hs=>⟨?_,fun y hy=>⟨(hw y (List.mem_flatMap.2 ⟨s,hs,hy⟩)).sz⟩⟩,by omega⟩
 have:s.Items.length≤(g.Used.map fun x=>x.Items.length).sum:=Xl _ hs
 omega
theorem A7k {n:Nat} {S0:Nat→List UInt8} {g:TLog} (h:W n S0 g) (hm:(B7 g).length<200) {x:TItem} (hx:x.Seq=g.NextSeq):M3 g x=some true:=by
 have a1:=Ka (l:=B7 g) (k:=(B7 g).length) (by omega) (q:=fun _=>false) (step:=P3 x (B7 g)) (bad:=.inl false) (good:=.inr ()) (by
  intro i hi _
  have:=(h.its i _ (qG hi)).1
  have hs:=h.seq
  unfold P3
  rw [if_pos (dlt hi),at?_nat hi,ob,if_neg (by simp; omega),ob,if_neg (by simp),if_neg (by simp),C4 (by omega)]) (by unfold P3; simp)
 unfold M3
 rw [Gx (h.lgn (by omega)),ob,a1]
 simp; omega
theorem A1k {n:Int} (h:0≤n) (h':n<128):(vt n).length=1:=by
 unfold vt
 rw [if_pos h,Ap (by omega)]; rfl
theorem A6t {c:TCheck} (h1:0≤c.Stamp∧c.Stamp<128) (h2:0≤c.NextGen∧c.NextGen<128) (h3:0≤c.NextSeq∧c.NextSeq<128) (h4:0≤c.NextValid∧c.NextValid<128) (h5:c.Refs.length≤11) (h6:∀ r∈c.Refs,(0≤r.No∧r.No<128)∧0≤r.Gen∧r.Gen<128):(ctOut c).length≤64:=by
 have e1:=A1k h1.1 h1.2
 have e2:=A1k h2.1 h2.2
 have e3:=A1k h3.1 h3.2
 have e4:=A1k h4.1 h4.2
 have e5:=A1k (n:=(c.Refs.length:Int)) (by omega) (by omega)
 have key:∀ l:List TRef,(∀ r∈l,(0≤r.No∧r.No<128)∧0≤r.Gen∧r.Gen<128)→(l.flatMap refT).length=2*l.length:=by
  intro l
  induction l with
  | nil=>intro _; rfl
  | cons r l ih =>
   intro hl
   have hr:=hl r List.mem_cons_self
   have f1:=A1k hr.1.1 hr.1.2
   have f2:=A1k hr.2.1 hr.2.2
   rw [List.flatMap_cons,List.length_append,ih fun r hr=>hl r (List.mem_cons_of_mem _ hr)]
   unfold refT
   simp [f1,f2]; omega
 have hk:=key c.Refs h6
 unfold ctOut short ctBody ctHead
 have hs:=Dg
 simp only [List.length_append,hs,e1,e2,e3,e4,e5,hk]
 have e6:=A1k (n:=((1+1+1+1+1+2*c.Refs.length+4:Nat):Int)) (by omega) (by omega)
 rw [e6]; omega
theorem A10 {c:TCheck} (h:checkOk c=true) (hl:(ctOut c).length≤128):checkText c=(ctOut c,true):=by
 unfold checkText
 rw [if_pos h,if_neg (by omega)]
theorem We {d:TDisk} (h:E0 d=true) (hc:d.Cache=[]) {s:Nat} {T:List UInt8} (hT:T.length≤1000) (hs:s<d.Sectors.length) (hn:32*s+T.length≤32*d.Sectors.length):(writeB d s T).2=true∧flush (writeB d s T).1=poke d (32*s) T∧∃ j,Wst d (32*s) T j T.length (writeB d s T).1:=by
 have h100:=(L4.1 h).1.2
 obtain ⟨d1,j,e,hw⟩:=Xu h hc (T:=T) (s:=s) (t:=0) hT hs (by omega) (by omega)
 have e':J2 d (s:Int) 0 T=some (d1,true):=e
 rw [Lj h (by omega) (by omega)] at e'
 have:=Option.some.inj e'
 rw [this]
 exact ⟨rfl,hw.flush h,j,hw⟩
theorem A3v {d:TDisk} (h:E0 d=true) (hc:d.Cache=[]) (hd:8≤d.Sectors.length) {c:TCheck} (hk:checkOk c=true) (hl:(ctOut c).length≤128):writeC d c=(poke d (128*(c.Stamp.toNat%2)) (ctOut c),true):=by
 obtain ⟨h1,h2,_⟩:=We h hc (s:=4*(c.Stamp.toNat%2)) (T:=ctOut c) (by omega) (by omega) (by omega)
 unfold writeC
 rw [A10 hk hl]
 dsimp only
 rw [if_pos ⟨rfl,h⟩,if_pos h1,h2]
 congr 2; omega
theorem Qa {k:Nat} (h:5≤k∧k≤11):(open0 k).2=true∧(log1 k).Disk=poke (newDisk (8+k*8)) 256 headT:=by
 have hl:=Ri
 have:=We (A4b h) rfl (s:=8) (T:=headT) (by omega) (by simp [newDisk]; omega) (by simp [newDisk]; omega)
 exact ⟨this.1,this.2.1⟩
def first8 (k:Nat) (a:Nat):List UInt8:=rsec (fixd k).1 a
theorem Yb (k:Nat):checkOk (checkOf (log1 k))=true∧(ctOut (checkOf (log1 k))).length≤64:=by
 have e:checkOf (log1 k)={ Stamp:=1,NextGen:=2,NextSeq:=1,NextValid:=1,Refs:=[{ No:=0,Gen:=1 }] }:=rfl
 rw [e]
 refine ⟨by decide,A6t (by decide) (by decide) (by decide) (by decide) (by decide) ?_⟩
 intro r hr
 rw [List.mem_singleton] at hr
 subst hr; decide
theorem A1z {k:Nat} (h:5≤k∧k≤11):fixd k=(poke (log1 k).Disk 128 (ctOut (checkOf (log1 k))),true):=by
 have hd:=(Qa h).2
 have hc:=Yb k
 unfold fixd
 rw [A3v (A3c h) (by rw [hd]; rfl) (by rw [hd,Ev]; simp [newDisk]) hc.1 (by omega)]
 rfl
theorem Aax {k:Nat} (h:5≤k∧k≤11):∃ g,fmt (k:Int)=(g,true)∧W k (first8 k) g∧B7 g=[]:=by
 have ho:=Qa h
 have hf:=A1z h
 refine ⟨{ log1 k with Disk:=(fixd k).1,Stamp:=1 },?_,?_,rfl⟩
 ·unfold fmt fmtK
  rw [if_pos (by unfold inR; simp; omega),Int.toNat_natCast,if_pos (by rw [ho.1,hf]; rfl)]
 ·have hlen:(fixd k).1.Sectors.length=8+8*k:=by rw [hf]; simp only; rw [Ev,ho.2,Ev]; simp [newDisk,Nat.mul_comm]
  refine ⟨h,?_,?_,hlen,rfl,?_,by simp [log1]; omega,rfl,rfl,rfl,⟨by simp [log1],by simp [log1]⟩,?_,fun a _=>rfl⟩
  ·simp only; rw [hf]; exact Tn (A3c h) _ _
  ·simp only; rw [hf]; rfl
  ·intro j s hs
   simp only [log1] at hs
   cases j with
   | zero =>
    simp only [List.getElem?_cons_zero,qS] at hs
    subst hs
    have:=Ri
    refine ⟨rfl,rfl,by simp only; omega,by simp only; omega⟩
   | succ j=>simp at hs
  ·intro i x hx
   have:B7 { log1 k with Disk:=(fixd k).1,Stamp:=1 }=[]:=rfl
   rw [this] at hx
   simp at hx
theorem RecD.rs {r:TRec} (h:RecD r):RecS r:=⟨by have:=h.user; omega,by have:=h.name; omega,by have:=h.text; omega⟩
theorem A68 {Q:Nat→TLog→Prop} (q0:∀ (k:Nat) (g:TLog),5≤k∧k≤8→fmt (k:Int)=(g,true)→W k (first8 k) g→Q k g) (qs:∀ (k:Nat) (g:TLog) (x:TItem),W k (first8 k) g→(B7 g).length≤33→Q k g→x.Seq=g.NextSeq→RecD x.Rec→Q k (appS k g x 1).2)
  {b:List Int} {i0 h0:Int} (hi0:IOk b i0):Dr b (X3 ⟨b,i0,h0⟩) fun g=>∃ n,(5≤n∧n≤8)∧W n (first8 n) g∧(B7 g).length≤33∧Q n g:=by
 unfold X3
 refine Dr.bind (Q9 hi0 (by omega) (by omega)) fun x i h hx hi=>?_
 obtain ⟨k,hk⟩:∃ k:Nat,w64 (5+x)=(k:Int):=⟨(5+x).toNat,by rw [C0 (by omega) (by omega)]; omega⟩
 have hk':5≤k∧k≤8:=by rw [C0 (by omega) (by omega)] at hk; omega
 obtain ⟨g0,e0,hw0,hit0⟩:=Aax (k:=k) (by omega)
 simp only
 rw [hk,A9k,e0,ob]
 have key:∃ r,iter (Y1 ⟨b,i0,h0⟩) (0,i,h,g0.Segs,g0.NextGen,g0.NextSeq,g0.Stamp,g0.NextValid,g0.Disk.Sectors,g0.Disk.Cache,g0.Used)=some r∧(IOk b r.1∧W k (first8 k) { Disk:={ Sectors:=r.2.2.2.2.2.2.2.1,Cache:=r.2.2.2.2.2.2.2.2.1 },Segs:=r.2.2.1,Used:=r.2.2.2.2.2.2.2.2.2,NextGen:=r.2.2.2.1,NextSeq:=r.2.2.2.2.1,Stamp:=r.2.2.2.2.2.1,NextValid:=r.2.2.2.2.2.2.1 }∧(B7 { Disk:={ Sectors:=r.2.2.2.2.2.2.2.1,Cache:=r.2.2.2.2.2.2.2.2.1 },Segs:=r.2.2.1,Used:=r.2.2.2.2.2.2.2.2.2,NextGen:=r.2.2.2.1,NextSeq:=r.2.2.2.2.1,Stamp:=r.2.2.2.2.2.1,NextValid:=r.2.2.2.2.2.2.1 }).length≤33∧Q k { Disk:={ Sectors:=r.2.2.2.2.2.2.2.1,Cache:=r.2.2.2.2.2.2.2.2.1 },Segs:=r.2.2.1,Used:=r.2.2.2.2.2.2.2.2.2,NextGen:=r.2.2.2.1,NextSeq:=r.2.2.2.2.1,Stamp:=r.2.2.2.2.2.1,NextValid:=r.2.2.2.2.2.2.1 }):=by
  refine A4q (fun s:Int×Int×Int×Int×Int×Int×Int×Int×(List (List UInt8))×(List TWrite)×(List TSeg)=>(0≤s.1∧s.1≤33)∧IOk b s.2.1∧∃ g:TLog,s.2.2.2=(g.Segs,g.NextGen,g.NextSeq,g.Stamp,g.NextValid,g.Disk.Sectors,g.Disk.Cache,g.Used)∧W k (first8 k) g∧((B7 g).length:Int)≤s.1∧Q k g) (fun s=>(34 - s.1).toNat) _ ?_ _ ⟨⟨by simp,by simp⟩,hi,g0,rfl,hw0,by rw [hit0]; simp,q0 k g0 hk' e0 hw0⟩
  rintro ⟨c,i,h',s⟩ ⟨⟨q0',q1⟩,hi,g,hs,hw,hc,hq⟩
  simp only at q0' q1 hi hs hc
  subst hs
  unfold Y1
  obtain ⟨n,i1,h1',e,hn,hi1⟩:=Q9 (h:=h') hi (n:=34) (by omega) (by omega)
  simp only
  rw [e,ob]
  by_cases hk:c<n
  ·left
   rw [if_pos (by simpa using hk)]
   obtain ⟨r,i2,h2',e2,hr,hi2⟩:=A9j (h:=h1') hi1
   simp only
   rw [e2,ob]
   show ∃ s',(M3 g { Seq:=g.NextSeq,Rec:=r }).bind _=_∧_
   rw [A7k hw (by omega) rfl,ob,if_pos rfl]
   have hok:=(Wg hr.ok).1
   have hseq:=hw.seq
   show ∃ s',(F9 g { Seq:=g.NextSeq,Rec:=r } 1).bind _=_∧_
   rw [A3r hw (by omega) (by simp only; omega) (RecD.rs hr) (by simp only; have:=hr.valid; omega) (by simp only; omega) (by omega),ob]
   have hA:=hw.appS (x:={ Seq:=g.NextSeq,Rec:=r }) rfl hr (keep:=1) (by omega)
   refine ⟨_,rfl,⟨⟨?_,?_⟩,hi2,(appS k g { Seq:=g.NextSeq,Rec:=r } 1).2,rfl,hA.1,?_,qs k g _ hw (by omega) hq rfl hr⟩,?_⟩
   ·simp only; rw [C0 (by omega) (by omega)]; omega
   ·simp only; rw [C0 (by omega) (by omega)]; omega
   ·simp only; rw [C0 (by omega) (by omega)]; have:=hA.2; omega
   ·simp only; rw [C0 (by omega) (by omega)]; omega
  ·right
   rw [if_neg (by simpa using hk)]
   exact ⟨_,rfl,hi1,hw,by show (B7 g).length≤33; omega,hq⟩
 obtain ⟨r,e,hi1,hw,hl,hq⟩:=key
 have e':iter (Y1 ⟨b,i0,h0⟩) (0,i,h,g0.Segs,g0.NextGen,g0.NextSeq,g0.Stamp,g0.NextValid,g0.Disk.Sectors,g0.Disk.Cache,g0.Used)=some r:=e
 have fin:Dr b (some (({ Disk:={ Sectors:=r.2.2.2.2.2.2.2.1,Cache:=r.2.2.2.2.2.2.2.2.1 },Segs:=r.2.2.1,Used:=r.2.2.2.2.2.2.2.2.2,NextGen:=r.2.2.2.1,NextSeq:=r.2.2.2.2.1,Stamp:=r.2.2.2.2.2.1,NextValid:=r.2.2.2.2.2.2.1 }:TLog),({ mB:=b,mI:=r.1,mH:=r.2.1 }:TL01Cur))) (fun g=>∃ n,(5≤n∧n≤8)∧W n (first8 n) g∧(B7 g).length≤33∧Q n g):=Dr.ret hi1 ⟨k,hk',hw,hl,hq⟩
 refine (show Dr b (Option.bind _ _) _ from ?_)
 rw [e',ob]
 exact fin
theorem Aaw {A B:List UInt8} {z:Int} (h:0≤z∧z≤1000000000):rvR (rv (A++(vt z++B)) A.length)=(z,((A++vt z).length:Int),true):=by
 obtain ⟨n,rfl⟩:∃ n:Nat,z=n:=⟨z.toNat,by omega⟩
 rw [A3w (n:=n) (r:=B) (by rw [List.drop_left]) (by omega)]
 simp [rvR]
theorem A3p {s:List UInt8} (hs:s.length≤8388608) (a:Nat) (bad:Bool):J8 { mText:=s,mAt:=(a:Int),mBad:=bad }=some (if bad then (0,{ mText:=s,mAt:=(a:Int),mBad:=true }) else match rv s a with | some x=>((x.1:Int),{ mText:=s,mAt:=(x.2:Int),mBad:=false }) | none=>(0,{ mText:=s,mAt:=(a:Int),mBad:=true })):=by
 unfold J8
 dsimp only
 rw [Ru (t:=s) (by omega) a,ob]
 cases bad with
 | true=>rfl
 | false =>
  cases rv s a with
  | none=>rfl
  | some x=>rfl
theorem Mk {s:List UInt8} (hs:s.length≤8388608) (a:Nat) (bad:Bool):∃ (n:Int) (b:Nat) (bad':Bool),J8 { mText:=s,mAt:=(a:Int),mBad:=bad }=some (n,{ mText:=s,mAt:=(b:Int),mBad:=bad' }):=by
 rw [A3p hs]
 cases bad with
 | true=>exact ⟨0,a,true,rfl⟩
 | false =>
  cases rv s a with
  | none=>exact ⟨0,a,true,rfl⟩
  | some x=>exact ⟨x.1,x.2,false,rfl⟩
theorem A8a {A B:List UInt8} {z:Int} (hs:(A++(vt z++B)).length≤8388608) (h:0≤z∧z≤1000000000):J8 { mText:=A++(vt z++B),mAt:=(A.length:Int),mBad:=false }=some (z,{ mText:=A++(vt z++B),mAt:=((A++vt z).length:Int),mBad:=false }):=by
 obtain ⟨n,rfl⟩:∃ n:Nat,z=n:=⟨z.toNat,by omega⟩
 rw [A3p hs,A3w (n:=n) (r:=B) (by rw [List.drop_left]) (by omega)]
 simp
theorem El {ρ:Type} {n:Nat} {step:Int→Option (Int ⊕ (ρ ⊕ Unit))} (hn:n≤1048576) (h1:∀ i:Nat,i<n→step (i:Int)=some (.inl ((i+1:Nat):Int))) (h2:step (n:Int)=some (.inr (.inr ()))):iter step 0=some (.inr ()):=by
 exact J6 (step:=step) (fun i=>(i:Int)) n (fun i hi=>h1 i hi) h2
theorem A04 {l:List TItem} (h:l.length≤1048576):Y9 l l=some true:=by
 unfold Y9
 rw [if_neg (by simp),El (n:=l.length) h]
 ·rfl
 ·intro i hi
  unfold Bg
  simp only [dlt hi,if_true,at?_nat hi,ob,C4 (show i<9223372036854775807 by omega),beq_self_eq_true,Bool.and_self,Bool.not_true,Bool.false_eq_true,if_false]
 ·unfold Bg; simp
theorem Aap {b:List Int} (h:¬ (b.length:Int)>1048576):Ei b=some false:=by unfold Ei; simp; omega
theorem Aaa {b:List Int} (h:(b.length:Int)>1048576):Ei b=some true:=by unfold Ei; simp; omega
theorem sub?_from {α:Type} {l:List α} {n:Nat} (h:n≤l.length):sub? l (n:Int) (l.length:Int)=some (l.drop n):=by
 unfold sub?
 rw [if_pos ⟨by omega,by omega,by omega⟩]
 simp
theorem A30 {d:TDisk} (h:E0 d=true) (f:Nat):∀ m,f+m≤d.Sectors.length→(secT d f m).length=32*m
 | 0,_=>rfl
 | m+1,hm=>by
  have h1:=A30 h f m (by omega)
  have h2:=Ja h (a:=f+m) (by omega)
  rw [secT,List.length_append]; omega
theorem A4a {d:TDisk} (h:E0 d=true) (f:Nat):∀ m,f+m≤d.Sectors.length→∀ j,j<32*m→(secT d f m)[j]?=(rsec d (f+j / 32))[j%32]?
 | 0,_,j,hj=>by omega
 | m+1,hm,j,hj=>by
  have h1:=A30 h f m (by omega)
  rw [secT]
  by_cases c:j<32*m
  ·rw [List.getElem?_append_left (by omega)]
   exact A4a h f m (by omega) j c
  ·rw [List.getElem?_append_right (by omega),h1,show j / 32=m by omega,show j%32=j - 32*m by omega]
theorem A6q {d:TDisk} (h:E0 d=true) {b:Nat} {T:List UInt8} {a q:Nat} (ha:a<d.Sectors.length) (hq:q<32):(rsec (poke d b T) a)[q]?=if b≤32*a+q∧32*a+q<b+T.length then T[32*a+q - b]? else (rsec d a)[q]?:=by
 have h32:=Ja h ha
 rw [A3z ha,List.getElem?_map,List.getElem?_range hq,Option.map_some]
 split
 ·rw [List.getD_eq_getElem?_getD,qG (by omega)]; rfl
 ·rw [List.getD_eq_getElem?_getD,qG (by omega)]; rfl
theorem A64 {d:TDisk} {f n:Nat} (h:f+n≤d.Sectors.length):sectorT d f n=(secT d f n,true):=by unfold sectorT; rw [if_pos h]
theorem A5a:∀ n:Nat,n<128→1≤n→ofI (n:Int)≠0:=by decide
theorem Aad {n:Nat} (h:5≤n∧n≤11):E0 (poke (newDisk (8+n*8)) 256 headT)=true:=Tn (A4b h) _ _
def rsA (t:List UInt8) (a:Nat):Option (List UInt8×Nat):=match rv t a with
 | some x=>if x.1≤20000∧x.2+x.1≤t.length then some ((t.drop x.2).take x.1,x.2+x.1) else none
 | none=>none
theorem A6p {t:List UInt8} (ht:t.length≤8388608) (a:Nat):((if !(rvR (rv t a)).2.2 then some true else (if decide ((rvR (rv t a)).1>20000) then some true else (if decide ((rvR (rv t a)).1>(w64 ((t.length:Int) - (rvR (rv t a)).2.1))) then some true else some false))):Option Bool).bind (fun y2=>(if y2 then some (([]:List UInt8),(0:Int),false) else (sub? t (rvR (rv t a)).2.1 (w64 ((rvR (rv t a)).2.1+(rvR (rv t a)).1))).bind fun v3=>some (v3,w64 ((rvR (rv t a)).2.1+(rvR (rv t a)).1),true)))=some (rsR (rsA t a)):=by
 unfold rsA
 cases h:rv t a with
 | none=>rfl
 | some x =>
  obtain ⟨h1,h2,h3⟩:=Qb h
  exact A9w ht h2 h3
theorem Rj {t:List UInt8} (ht:t.length≤8388608) (a:Nat):U9 t (a:Int)=some (rsR (rsA t a)):=by
 unfold U9
 rw [Ru (by omega) a,ob]
 exact A6p ht a
theorem Ho {t:List UInt8} (ht:t.length≤8388608) (a:Nat):L2 t (a:Int)=some (rsR (rsA t a)):=by
 unfold L2
 rw [Hd (by omega) a,ob]
 exact A6p ht a
theorem Mp {t:List UInt8} {a:Nat} {x:List UInt8×Nat} (h:rsA t a=some x):a<x.2∧x.2≤t.length∧x.1.length≤20000:=by
 unfold rsA at h
 split at h
 ·rename_i y hy
  obtain ⟨h1,h2,h3⟩:=Qb hy
  split at h
  ·rename_i hc
   cases h
   refine ⟨by simp only; omega,hc.2,?_⟩
   simp only [List.length_take]
   omega
  ·cases h
 ·cases h
theorem Ta {t:List UInt8} {a:Nat} {x:Nat×Nat} (h:rv t a=some x):t.drop a=vt (x.1:Int)++t.drop x.2:=by
 unfold rv at h
 split at h
 ·rename_i y hy
  split at h
  ·rename_i hc
   cases h
   dsimp only
   rw [hc.2,← List.drop_drop,List.take_append_drop]
  ·cases h
 ·cases h
theorem Zi {t:List UInt8} {a:Nat} {x:List UInt8×Nat} (h:rsA t a=some x):t.drop a=short x.1++t.drop x.2:=by
 unfold rsA at h
 split at h
 ·rename_i y hy
  obtain ⟨h1,h2,h3⟩:=Qb hy
  split at h
  ·rename_i hc
   cases h
   have hl:((t.drop y.2).take y.1).length=y.1:=by simp only [List.length_take,List.length_drop]; omega
   rw [Ta hy]
   unfold short
   dsimp only
   rw [hl,List.append_assoc,← List.drop_drop,List.take_append_drop]
  ·cases h
 ·cases h
theorem A5m {A B s:List UInt8} (h:s.length≤20000):rsA (A++(short s++B)) A.length=some (s,(A++short s).length):=by
 have hs:short s=vt (s.length:Int)++s:=rfl
 unfold rsA
 rw [A3w (n:=s.length) (r:=s++B) (by rw [List.drop_left,hs,List.append_assoc]) (by omega)]
 dsimp only
 have e1:(A++(short s++B)).drop (A.length+(vt (s.length:Int)).length)=s++B:=by
  rw [← List.drop_drop,List.drop_left,hs,List.append_assoc,List.drop_left]
 rw [if_pos ⟨h,by simp [hs]; omega⟩,e1,List.take_left]
 simp [hs,Nat.add_assoc]
def C8 (f:TFrame):List UInt8:=frameT f++sealL (frameT f)
def rfC (t:List UInt8) (a:Nat) (f:TFrame) (n:Nat):Option (TFrame×Nat):=if D6 f=true∧n+4≤t.length∧(t.take (n+4)).drop a=C8 f then some (f,n+4) else none
theorem A37 {t:List UInt8} {a:Nat} {f:TFrame} {n:Nat} (h1:D6 f=true) (h2:n+4≤t.length) (h3:(t.take (n+4)).drop a=C8 f):rfC t a f n=some (f,n+4):=if_pos ⟨h1,h2,h3⟩
theorem Mx {t:List UInt8} {a:Nat} {f:TFrame} {n:Nat} (h:¬ (D6 f=true∧n+4≤t.length∧(t.take (n+4)).drop a=C8 f)):rfC t a f n=none:=if_neg h
theorem sub?_td {t:List UInt8} {a n:Nat} (h1:a≤n) (h2:n≤t.length):sub? t (a:Int) (n:Int)=some ((t.take n).drop a):=by
 unfold sub?
 rw [if_pos (by omega),Int.toNat_natCast,Int.toNat_natCast]
def rf (t:List UInt8) (a:Nat):Option (TFrame×Nat):=match rv t a with
 | none=>none
 | some g=>match rv t g.2 with
  | none=>none
  | some s=>match rsA t s.2 with
   | none=>none
   | some b=>rfC t a { Gen:=(g.1:Int),Seq:=(s.1:Int),Body:=b.1 } b.2
def rfR (o:Option (TFrame×Nat)):TFrame×Int×Bool:=match o with
 | some x=>(x.1,(x.2:Int),true)
 | none=>(frame0,0,false)
theorem Gi:rvR none=(0,0,false):=rfl
theorem Gf (x:Nat×Nat):rvR (some x)=((x.1:Int),(x.2:Int),true):=rfl
theorem A0f:rsR none=([],0,false):=rfl
theorem Md (x:List UInt8×Nat):rsR (some x)=(x.1,(x.2:Int),true):=rfl
theorem A6m {t:List UInt8} (ht:t.length≤8388608) (a:Nat):U7 t (a:Int)=some (rfR (rf t a)):=by
 unfold U7 rf
 rw [Ru (by omega) a,ob]
 cases h1:rv t a with
 | none =>
  rw [Gi]
  dsimp only
  rw [show (0:Int)=((0:Nat):Int) from rfl,Ru (by omega) 0,ob]
  have:∃ n:Nat,(rvR (rv t 0)).2.1=n:=by cases rv t 0 <;> exact ⟨_,rfl⟩
  obtain ⟨n,hn⟩:=this
  rw [hn,Rj ht,ob]
  rfl
 | some g =>
  obtain ⟨b1,b2,b3⟩:=Qb h1
  rw [Gf]
  dsimp only
  rw [Ru (by omega) g.2,ob]
  cases h2:rv t g.2 with
  | none =>
   rw [Gi]
   dsimp only
   rw [show (0:Int)=((0:Nat):Int) from rfl,Rj ht,ob]
   rfl
  | some s =>
   obtain ⟨c1,c2,c3⟩:=Qb h2
   rw [Gf]
   dsimp only
   rw [Rj ht,ob]
   cases h3:rsA t s.2 with
   | none=>rfl
   | some b =>
    obtain ⟨d1,d2,d3⟩:=Mp h3
    rw [Md]
    dsimp only
    have e1:w64 ((t.length:Int) - 4)=(t.length:Int) - 4:=C0 (by omega) (by omega)
    have e2:w64 ((b.2:Int)+4)=((b.2+4:Nat):Int):=by rw [C0 (by omega) (by omega)]; omega
    rw [e1,e2,if_neg (by simp),if_neg (by simp),if_neg (by simp)]
    by_cases k1:b.2+4≤t.length
    ·rw [if_neg (by simp; omega),if_neg (by simp),ob,if_neg (by simp),Q4,ob]
     unfold E4
     by_cases k2:D6 { Gen:=(g.1:Int),Seq:=(s.1:Int),Body:=b.1 }=true
     ·rw [if_pos k2,if_neg (by simp)]
      rw [sub?_td (by omega) k1,ob]
      by_cases k3:(t.take (b.2+4)).drop a=C8 { Gen:=(g.1:Int),Seq:=(s.1:Int),Body:=b.1 }
      ·rw [A37 k2 k1 k3,if_neg (by rw [k3]; simp [C8]),ob,if_neg (by simp)]
       rfl
      ·rw [Mx (fun h=>k3 h.2.2),if_pos (by simp only [Bool.not_eq_true',beq_eq_false_iff_ne,ne_eq]; exact fun h=>k3 h.symm),ob,if_pos rfl]
       rfl
     ·rw [if_neg k2,Mx (fun h=>k2 h.1),if_pos (by simp),ob,if_pos rfl]
      rfl
    ·rw [if_pos (by simp; omega),ob,if_pos rfl,Mx (fun h=>k1 h.2.1)]
     rfl
theorem A6e {t:List UInt8} (ht:t.length≤8388608) (a:Nat):U5 t (a:Int)=some (rfR (rf t a)):=by
 unfold U5 rf
 rw [Hd (by omega) a,ob]
 cases h1:rv t a with
 | none =>
  rw [Gi]
  dsimp only
  rw [show (0:Int)=((0:Nat):Int) from rfl,Hd (by omega) 0,ob]
  have:∃ n:Nat,(rvR (rv t 0)).2.1=n:=by cases rv t 0 <;> exact ⟨_,rfl⟩
  obtain ⟨n,hn⟩:=this
  rw [hn,Ho ht,ob]
  rfl
 | some g =>
  obtain ⟨b1,b2,b3⟩:=Qb h1
  rw [Gf]
  dsimp only
  rw [Hd (by omega) g.2,ob]
  cases h2:rv t g.2 with
  | none =>
   rw [Gi]
   dsimp only
   rw [show (0:Int)=((0:Nat):Int) from rfl,Ho ht,ob]
   rfl
  | some s =>
   obtain ⟨c1,c2,c3⟩:=Qb h2
   rw [Gf]
   dsimp only
   rw [Ho ht,ob]
   cases h3:rsA t s.2 with
   | none=>rfl
   | some b =>
    obtain ⟨d1,d2,d3⟩:=Mp h3
    rw [Md]
    dsimp only
    have e1:w64 ((t.length:Int) - (b.2:Int))=(t.length:Int) - b.2:=C0 (by omega) (by omega)
    have e2:w64 ((b.2:Int)+4)=((b.2+4:Nat):Int):=by rw [C0 (by omega) (by omega)]; omega
    rw [e1,e2,if_neg (by simp),if_neg (by simp),if_neg (by simp),Gy,ob]
    by_cases k2:D6 { Gen:=(g.1:Int),Seq:=(s.1:Int),Body:=b.1 }=true
    ·rw [if_pos k2]
     by_cases k1:b.2+4≤t.length
     ·rw [if_neg (by simp; omega),ob,if_neg (by simp),Cx,ob]
      unfold E4
      rw [if_pos k2,sub?_td (by omega) k1,ob]
      by_cases k3:(t.take (b.2+4)).drop a=C8 { Gen:=(g.1:Int),Seq:=(s.1:Int),Body:=b.1 }
      ·rw [A37 k2 k1 k3,if_neg (by rw [k3]; simp [C8])]
       rfl
      ·rw [Mx (fun h=>k3 h.2.2),if_pos (by simp only [Bool.not_eq_true',beq_eq_false_iff_ne,ne_eq]; exact k3)]
       rfl
     ·rw [if_pos (by simp; omega),ob,if_pos rfl,Mx (fun h=>k1 h.2.1)]
      rfl
    ·rw [if_neg k2,ob,if_pos rfl,Mx (fun h=>k2 h.1)]
     rfl
theorem A5k (n:Int):1≤(vt n).length:=by
 unfold vt
 split
 ·unfold vtl
  split <;> simp
 ·simp
theorem Uj {t:List UInt8} {a:Nat} {x:TFrame×Nat} (h:rf t a=some x):a+8≤x.2∧x.2≤t.length∧D6 x.1=true:=by
 unfold rf at h
 split at h
 ·cases h
 rename_i g hg
 split at h
 ·cases h
 rename_i s hs
 split at h
 ·cases h
 rename_i b hb
 unfold rfC at h
 split at h
 ·rename_i hc
  obtain ⟨h1,h2,h3⟩:=hc
  cases h
  refine ⟨?_,h2,h1⟩
  have hl:=congrArg List.length h3
  rw [List.length_drop,List.length_take] at hl
  have hb2:=R1 h1
  have p1:=A5k (g.1:Int)
  have p2:=A5k (s.1:Int)
  have p3:=A5k ((b.1.length:Nat):Int)
  unfold C8 frameT at hl
  simp only [List.length_append,Dg] at hl
  dsimp only at hb2 ⊢
  omega
 ·cases h
def scanN (t:List UInt8) (gen:Int):Nat→Nat→List TFrame→List TFrame×Nat
 | 0,a,l=>(l,a)
 | n+1,a,l=>match rf t a with
  | some x=>if x.1.Gen=gen then scanN t gen n x.2 (l++[x.1]) else (l,a)
  | none=>(l,a)
theorem Aa8 {t:List UInt8} {a:Nat} (h:t.length<a):rf t a=none:=by
 unfold rf
 rw [A2f h]
theorem Ux {t:List UInt8} (ht:t.length≤8388608) {gen:Int} {step:Int×List TFrame→Option ((Int×List TFrame) ⊕ ((List TFrame×Int) ⊕ Empty))}
  (h1:∀ (a:Nat) (l:List TFrame),step ((a:Int),l)=match rf t a with
   | some x=>if x.1.Gen=gen then (app? 32 l [x.1]).bind fun v=>some (.inl ((x.2:Int),v)) else some (.inr (.inl (l,(a:Int))))
   | none=>some (.inr (.inl (l,(a:Int))))) :
  ∀ (n a:Nat) (l:List TFrame),t.length<a+n→8*l.length≤a→iter step ((a:Int),l)=some (.inl ((scanN t gen n a l).1,((scanN t gen n a l).2:Int)))
 | 0,a,l,hn,_=>by
  refine D5 ?_
  rw [h1,Aa8 (by omega)]; rfl
 | n+1,a,l,hn,hl=>by
  rw [scanN]
  cases hr:rf t a with
  | none =>
   refine D5 ?_
   rw [h1,hr]
  | some x =>
   obtain ⟨b1,b2,b3⟩:=Uj hr
   dsimp only
   by_cases hg:x.1.Gen=gen
   ·rw [if_pos hg,K5 (s':=((x.2:Int),l++[x.1]))]
    ·exact Ux ht h1 n x.2 _ (by omega) (by simp; omega)
    ·rw [h1,hr]
     dsimp only
     rw [if_pos hg,app?_ok (by simp; omega) (by simp; omega)]; rfl
   ·rw [if_neg hg]
    refine D5 ?_
    rw [h1,hr]
    dsimp only
    rw [if_neg hg]
theorem Mt {t:List UInt8} {gen:Int}:∀ (n a:Nat) (l:List TFrame),8*l.length≤a→a≤t.length→8*(scanN t gen n a l).1.length≤t.length∧(scanN t gen n a l).2≤t.length∧l.length≤(scanN t gen n a l).1.length
 | 0,a,l,h,h2=>by simp only [scanN]; omega
 | n+1,a,l,h,h2=>by
  rw [scanN]
  cases hr:rf t a with
  | none=>dsimp only; omega
  | some x =>
   obtain ⟨b1,b2,b3⟩:=Uj hr
   dsimp only
   by_cases hg:x.1.Gen=gen
   ·rw [if_pos hg]
    have:=Mt (t:=t) (gen:=gen) n x.2 (l++[x.1]) (by simp; omega) b2
    simp at this
    omega
   ·rw [if_neg hg]; dsimp only; omega
theorem A4w {t:List UInt8} {gen:Int}:∀ (n a:Nat) (l:List TFrame),(∀ f∈l,D6 f=true)→∀ f∈(scanN t gen n a l).1,D6 f=true
 | 0,a,l,h=>h
 | n+1,a,l,h=>by
  rw [scanN]
  cases hr:rf t a with
  | none=>exact h
  | some x =>
   dsimp only
   by_cases hg:x.1.Gen=gen
   ·rw [if_pos hg]
    refine A4w n _ _ ?_
    intro f hf
    rcases List.mem_append.1 hf with hf | hf
    ·exact h f hf
    ·rw [List.mem_singleton] at hf; subst hf; exact (Uj hr).2.2
   ·rw [if_neg hg]; exact h
def scan (t:List UInt8) (gen:Int):List TFrame×Nat:=scanN t gen (t.length+1) 0 []
theorem A7n {t:List UInt8} (ht:t.length≤8388608) (gen:Int):X7 t gen=some ((scan t gen).1,((scan t gen).2:Int)):=by
 unfold X7
 have:=Ux (t:=t) ht (gen:=gen) (step:=Y6 t gen) ?_ (t.length+1) 0 [] (by omega) (by simp)
 ·rw [show ((0:Nat):Int)=0 from rfl] at this
  rw [this]; rfl
 ·intro a l
  unfold Y6
  rw [A6m ht,ob]
  cases rf t a with
  | none=>rfl
  | some x =>
   simp only [rfR]
   by_cases hg:x.1.Gen=gen
   ·rw [if_pos hg]
    simp [hg]
   ·rw [if_neg hg]
    simp [hg]
theorem A6z {t:List UInt8} (ht:t.length≤8388608) (gen:Int):X8 t gen=some ((scan t gen).1,((scan t gen).2:Int)):=by
 unfold X8
 have:=Ux (t:=t) ht (gen:=gen) (step:=Y7 t gen) ?_ (t.length+1) 0 [] (by omega) (by simp)
 ·rw [show ((0:Nat):Int)=0 from rfl] at this
  rw [this]; rfl
 ·intro a l
  unfold Y7
  rw [A6e ht,ob]
  cases rf t a with
  | none=>rfl
  | some x =>
   simp only [rfR]
   by_cases hg:x.1.Gen=gen
   ·rw [if_pos hg]
    simp [hg]
   ·rw [if_neg hg]
    simp [hg]
def segT (d:TDisk) (no:Int):List UInt8:=if inR no 0 10 then (sectorT d (8+8*no.toNat) 8).1 else []
theorem Mf {d:TDisk} (h:DkS d) (no:Int):(segT d no).length≤8388608:=by
 unfold segT
 split
 ·unfold sectorT
  split
  ·have:=Ti h (8+8*no.toNat) 8; dsimp only; omega
  ·simp
 ·simp
theorem A6a {no:Int} {k:Nat} (h:inR no 0 k=true):∃ n:Nat,no=n∧n≤k:=by
 unfold inR at h
 simp only [Bool.and_eq_true,decide_eq_true_eq] at h
 exact ⟨no.toNat,by omega,by omega⟩
theorem A27 {d:TDisk} (h:DkS d) (no:Int):Ah d no=some (segT d no):=by
 unfold Ah T0 segT
 rw [L1,ob]
 cases hr:inR no 0 10 with
 | false=>rfl
 | true =>
  obtain ⟨n,rfl,hn⟩:=A6a (k:=10) hr
  have e1:w64 ((n:Int)*8)=(n:Int)*8:=C0 (by omega) (by omega)
  have e2:w64 (8+(n:Int)*8)=((8+8*n:Nat):Int):=by rw [C0 (by omega) (by omega)]; omega
  rw [if_pos rfl,ob,if_pos rfl,e1,e2,ob]
  have:=Ws h (f:=8+8*n) (n:=8) (by omega) (by omega) (by omega)
  rw [show ((8:Nat):Int)=8 from rfl] at this
  rw [this,ob,if_pos rfl,Int.toNat_natCast]
theorem A1l {d:TDisk} (h:DkS d) (no:Int):Aj d no=some (segT d no):=by
 unfold Aj W6 segT
 rw [T9,ob]
 cases hr:inR no 0 10 with
 | false=>rfl
 | true =>
  obtain ⟨n,rfl,hn⟩:=A6a (k:=10) hr
  have e1:w64 ((n:Int)*8)=(n:Int)*8:=C0 (by omega) (by omega)
  have e2:w64 (8+(n:Int)*8)=((8+8*n:Nat):Int):=by rw [C0 (by omega) (by omega)]; omega
  rw [if_pos rfl,ob,if_pos rfl,e1,e2,ob]
  have:=Xj h (f:=8+8*n) (n:=8) (by omega) (by omega) (by omega)
  rw [show ((8:Nat):Int)=8 from rfl] at this
  rw [this,ob,if_pos rfl,Int.toNat_natCast]
def segGen (t:List UInt8):Int:=match rf t 0 with
 | some x=>if x.1.Body=[115,101,103] then x.1.Gen else 0
 | none=>0
theorem Wl {d:TDisk} (h:DkS d) (no:Int):Bp d no=some (segGen (segT d no)):=by
 unfold Bp segGen
 rw [A27 h,ob]
 have:=A6m (Mf h no) 0
 rw [show ((0:Nat):Int)=0 from rfl] at this
 rw [this,ob]
 cases rf (segT d no) 0 with
 | none=>rfl
 | some x =>
  simp only [rfR]
  by_cases hb:x.1.Body=[115,101,103]
  ·rw [if_pos hb]; simp [hb]
  ·rw [if_neg hb]; simp [hb]
theorem Mh {d:TDisk} (h:DkS d) (no:Int):Bs d no=some (segGen (segT d no)):=by
 unfold Bs segGen
 rw [A1l h,ob]
 have:=A6e (Mf h no) 0
 rw [show ((0:Nat):Int)=0 from rfl] at this
 rw [this,ob]
 cases rf (segT d no) 0 with
 | none=>simp [rfR,frame0]
 | some x =>
  simp only [rfR]
  by_cases hb:x.1.Body=[115,101,103]
  ·rw [if_pos hb]; simp [hb]
  ·rw [if_neg hb]; simp [hb]
def segFr (t:List UInt8):List TFrame×Nat:=if segGen t=0 then ([],0) else ((scan t (segGen t)).1.drop 1,(scan t (segGen t)).2)
theorem Zv {t:List UInt8} (h:segGen t≠0):1≤(scan t (segGen t)).1.length:=by
 have key:∃ x,rf t 0=some x∧x.1.Gen=segGen t:=by
  unfold segGen at h ⊢
  cases hr:rf t 0 with
  | none=>rw [hr] at h; exact absurd rfl h
  | some x =>
   rw [hr] at h
   dsimp only at h ⊢
   by_cases hb:x.1.Body=[115,101,103]
   ·exact ⟨x,rfl,by rw [if_pos hb]⟩
   ·rw [if_neg hb] at h; exact absurd rfl h
 obtain ⟨x,hr,hg⟩:=key
 unfold scan
 rw [scanN,hr]
 dsimp only
 rw [if_pos hg]
 obtain ⟨b1,b2,_⟩:=Uj hr
 have:=(Mt (t:=t) (gen:=segGen t) t.length x.2 ([]++[x.1]) (by simp; omega) b2).2.2
 simpa using this
theorem A6w {t:List UInt8}:8*(segFr t).1.length≤t.length:=by
 unfold segFr
 split
 ·simp
 ·have:=(Mt (t:=t) (gen:=segGen t) (t.length+1) 0 [] (by simp) (by omega)).1
  unfold scan
  simp only [List.length_drop]
  omega
theorem A8p {t:List UInt8}:∀ f∈(segFr t).1,D6 f=true:=by
 intro f hf
 unfold segFr at hf
 split at hf
 ·cases hf
 ·exact A4w _ _ _ (by simp) f (List.mem_of_mem_drop hf)
theorem A5f {d:TDisk} (h:DkS d) (no:Int):Ak d no=some ((segFr (segT d no)).1,((segFr (segT d no)).2:Int)):=by
 have hl:=Mf h no
 unfold Ak segFr
 rw [Wl h,ob]
 by_cases hg:segGen (segT d no)=0
 ·rw [if_pos (by simpa using hg),if_pos hg]; rfl
 ·have h1:=Zv hg
  have h2:=(Mt (t:=segT d no) (gen:=segGen (segT d no)) ((segT d no).length+1) 0 [] (by simp) (by omega)).1
  have h3:8*(scan (segT d no) (segGen (segT d no))).1.length≤(segT d no).length:=h2
  rw [if_neg (by simpa using hg),if_neg hg,A27 h,ob,A7n hl,ob]
  have e:=sub?_tail (l:=(scan (segT d no) (segGen (segT d no))).1) (i:=1) h1
  rw [show ((1:Nat):Int)=1 from rfl] at e
  dsimp only
  rw [e,ob,app?_ok (by simp; omega) (by simp; omega)]
  rfl
theorem Zp {d:TDisk} (h:DkS d) (no:Int):Af d no=some ((segFr (segT d no)).1,((segFr (segT d no)).2:Int)):=by
 have hl:=Mf h no
 unfold Af segFr
 rw [Mh h,ob]
 by_cases hg:segGen (segT d no)=0
 ·rw [if_pos (by simpa using hg),if_pos hg]; rfl
 ·have h1:=Zv hg
  rw [if_neg (by simpa using hg),if_neg hg,A1l h,ob,A6z hl,ob]
  have e:=sub?_tail (l:=(scan (segT d no) (segGen (segT d no))).1) (i:=1) h1
  rw [show ((1:Nat):Int)=1 from rfl] at e
  dsimp only
  rw [e,ob]
def rec0:TRec:={ Kind:=0,Valid:=0,Uid:=0,Next:=0,Flags:=0,User:=[],Name:=[],Text:=[] }
def goodR (t:List UInt8) (r:TRec):Prop:=recOk r=true∧t=recT r
theorem bt?_cons (c:UInt8) (s:List UInt8):bt? (c::s) 0=some c:=by simp [bt?]
theorem A6y (c:UInt8):ofI (IntKind.u8.wrap (w64 (c.toNat:Int)))=c:=by
 have:=c.toNat_lt
 rw [C0 (by omega) (by omega),Hb]
 have e:(c.toNat:Int)%256=c.toNat:=by omega
 rw [e,Um]
theorem A20 {s:List UInt8} (hs:s.length≤8388608) (a:Nat) (bad:Bool):F0 { mText:=s,mAt:=(a:Int),mBad:=bad }=some (if bad then ([],{ mText:=s,mAt:=(a:Int),mBad:=true }) else match rsA s a with | some x=>(x.1,{ mText:=s,mAt:=(x.2:Int),mBad:=false }) | none=>([],{ mText:=s,mAt:=(a:Int),mBad:=true })):=by
 unfold F0
 dsimp only
 rw [Rj hs a,ob]
 cases bad with
 | true=>rfl
 | false =>
  cases rsA s a with
  | none=>rfl
  | some x=>rfl
theorem Qe {s:List UInt8} (hs:s.length≤8388608) (a:Nat) (bad:Bool):∃ (u:List UInt8) (b:Nat) (bad':Bool),F0 { mText:=s,mAt:=(a:Int),mBad:=bad }=some (u,{ mText:=s,mAt:=(b:Int),mBad:=bad' })∧u.length≤20000:=by
 rw [A20 hs]
 cases bad with
 | true=>exact ⟨[],a,true,rfl,by simp⟩
 | false =>
  cases h:rsA s a with
  | none=>exact ⟨[],a,true,rfl,by simp⟩
  | some x=>exact ⟨x.1,x.2,false,rfl,(Mp h).2.2⟩
theorem A5y {A B u:List UInt8} (hs:(A++(short u++B)).length≤8388608) (h:u.length≤20000):F0 { mText:=A++(short u++B),mAt:=(A.length:Int),mBad:=false }=some (u,{ mText:=A++(short u++B),mAt:=((A++short u).length:Int),mBad:=false }):=by
 rw [A20 hs,A5m h]
 rfl
theorem A7s {t:List UInt8} (ht:t.length≤8388608):∃ q,M1 t=some q∧(q.2=true→goodR t q.1)∧(q.2=false→q.1=rec0):=by
 have fail:∃ q,some (rec0,false)=some q∧(q.2=true→goodR t q.1)∧(q.2=false→q.1=rec0):=⟨_,rfl,by simp,by simp⟩
 unfold M1
 cases t with
 | nil=>exact fail
 | cons c s =>
  rw [if_neg (by simp),bt?_cons,ob]
  obtain ⟨n1,a1,d1,e1⟩:=Mk ht 1 false
  rw [show ((1:Nat):Int)=1 from rfl] at e1
  obtain ⟨n2,a2,d2,e2⟩:=Mk ht a1 d1
  obtain ⟨n3,a3,d3,e3⟩:=Mk ht a2 d2
  obtain ⟨n4,a4,d4,e4⟩:=Mk ht a3 d3
  obtain ⟨u5,a5,d5,e5,l5⟩:=Qe ht a4 d4
  obtain ⟨u6,a6,d6,e6,l6⟩:=Qe ht a5 d5
  obtain ⟨u7,a7,d7,e7,l7⟩:=Qe ht a6 d6
  rw [e1,ob]
  dsimp only
  rw [e2,ob]
  dsimp only
  rw [e3,ob]
  dsimp only
  rw [e4,ob]
  dsimp only
  rw [e5,ob]
  dsimp only
  rw [e6,ob]
  dsimp only
  rw [e7,ob]
  dsimp only
  rw [Kp ⟨by dsimp only; omega,by dsimp only; omega,by dsimp only; omega⟩,ob]
  generalize hr:({ Kind:=w64 (c.toNat:Int),Valid:=n1,Uid:=n2,Next:=n3,Flags:=n4,User:=u5,Name:=u6,Text:=u7 }:TRec)=r
  cases d7 with
  | true=>exact fail
  | false =>
   rw [if_neg (by simp)]
   unfold recText
   by_cases hk:recOk r=true
   ·rw [if_pos hk,if_neg (by simp)]
    by_cases he:recT r=c::s
    ·rw [if_neg (by simp [he]),ob,if_neg (by simp)]
     exact ⟨_,rfl,fun _=>⟨hk,he.symm⟩,fun h=>absurd h (by simp)⟩
    ·rw [if_pos (by simp [he]),ob,if_pos rfl]
     exact fail
   ·rw [if_neg hk,if_pos (by simp),ob,if_pos rfl]
    exact fail
theorem A2e {t:List UInt8} (ht:t.length≤8388608) {r:TRec} (h:goodR t r):M1 t=some (r,true):=by
 obtain ⟨hk,hT⟩:=h
 obtain ⟨⟨v1,v2⟩,⟨u1,u2⟩,⟨n1,n2⟩,⟨f1,f2⟩,k1,k2⟩:=Mr hk
 obtain ⟨l1,l2,l3⟩:=Ye hk
 have rd:∀ {A B:List UInt8} {z:Int},t=A++(vt z++B)→0≤z∧z≤1000000000→J8 { mText:=t,mAt:=(A.length:Int),mBad:=false }=some (z,{ mText:=t,mAt:=((A++vt z).length:Int),mBad:=false }):=by
  intro A B z he hz
  rw [he] at ht ⊢
  exact A8a ht hz
 have rdS:∀ {A B u:List UInt8},t=A++(short u++B)→u.length≤20000→F0 { mText:=t,mAt:=(A.length:Int),mBad:=false }=some (u,{ mText:=t,mAt:=((A++short u).length:Int),mBad:=false }):=by
  intro A B u he hu
  rw [he] at ht ⊢
  exact A5y ht hu
 generalize hkb:[ofI (IntKind.u8.wrap r.Kind)]=kb
 have hT':t=kb++vt r.Valid++vt r.Uid++vt r.Next++vt r.Flags++short r.User++short r.Name++short r.Text:=by rw [hT,← hkb]; rfl
 have e1:=rd (A:=kb) (z:=r.Valid) (B:=vt r.Uid++(vt r.Next++(vt r.Flags++(short r.User++(short r.Name++short r.Text))))) (by rw [hT']; simp) (by omega)
 have e2:=rd (A:=kb++vt r.Valid) (z:=r.Uid) (B:=vt r.Next++(vt r.Flags++(short r.User++(short r.Name++short r.Text)))) (by rw [hT']; simp) (by omega)
 have e3:=rd (A:=kb++vt r.Valid++vt r.Uid) (z:=r.Next) (B:=vt r.Flags++(short r.User++(short r.Name++short r.Text))) (by rw [hT']; simp) (by omega)
 have e4:=rd (A:=kb++vt r.Valid++vt r.Uid++vt r.Next) (z:=r.Flags) (B:=short r.User++(short r.Name++short r.Text)) (by rw [hT']; simp) (by omega)
 have e5:=rdS (A:=kb++vt r.Valid++vt r.Uid++vt r.Next++vt r.Flags) (u:=r.User) (B:=short r.Name++short r.Text) (by rw [hT']; simp) (by omega)
 have e6:=rdS (A:=kb++vt r.Valid++vt r.Uid++vt r.Next++vt r.Flags++short r.User) (u:=r.Name) (B:=short r.Text) (by rw [hT']; simp) (by omega)
 have e7:=rdS (A:=kb++vt r.Valid++vt r.Uid++vt r.Next++vt r.Flags++short r.User++short r.Name) (u:=r.Text) (B:=[]) (by rw [hT']; simp) (by omega)
 have hkl:kb.length=1:=by rw [← hkb]; rfl
 rw [hkl] at e1
 have ht0:t=ofI (IntKind.u8.wrap r.Kind)::t.drop 1:=by rw [hT]; rfl
 have hb:bt? t 0=some (ofI (IntKind.u8.wrap r.Kind)):=by rw [ht0]; exact bt?_cons _ _
 have hkk:w64 ((ofI (IntKind.u8.wrap r.Kind)).toNat:Int)=r.Kind:=by
  have e:IntKind.u8.wrap r.Kind=((r.Kind.toNat:Nat):Int):=by rw [Hb]; omega
  rw [e,Ms (by omega),C0 (by omega) (by omega)]
  omega
 unfold M1
 rw [if_neg (by rw [ht0]; simp),hb,ob,show (1:Int)=((1:Nat):Int) from rfl,e1,ob]
 dsimp only
 rw [e2,ob]
 dsimp only
 rw [e3,ob]
 dsimp only
 rw [e4,ob]
 dsimp only
 rw [e5,ob]
 dsimp only
 rw [e6,ob]
 dsimp only
 rw [e7,ob]
 dsimp only
 rw [hkk]
 have hR:({ Kind:=r.Kind,Valid:=r.Valid,Uid:=r.Uid,Next:=r.Next,Flags:=r.Flags,User:=r.User,Name:=r.Name,Text:=r.Text }:TRec)=r:=rfl
 rw [hR,Kp ⟨by first | omega | (dsimp only; omega),by first | omega | (dsimp only; omega),by first | omega | (dsimp only; omega)⟩,ob]
 unfold recText
 rw [if_pos hk,if_neg (by simp),if_neg (by simp),if_neg (by simp [hT]),ob,if_neg (by simp)]
theorem A86 {t:List UInt8} (ht:t.length≤8388608):∃ q,Q6 t=some q∧(q.2=true→goodR t q.1)∧(q.2=false→q.1=rec0):=by
 have fail:∃ q,some (rec0,false)=some q∧(q.2=true→goodR t q.1)∧(q.2=false→q.1=rec0):=⟨_,rfl,by simp,by simp⟩
 unfold Q6
 cases ht0:t with
 | nil=>rw [← ht0]; rw [ht0]; exact ⟨_,rfl,by simp,by simp [rec0]⟩
 | cons c s =>
  rw [← ht0]
  rw [if_neg (by rw [ht0]; simp)]
  have hb:bt? t 0=some c:=by rw [ht0]; exact bt?_cons _ _
  have hd:t.drop 1=s:=by rw [ht0]; rfl
  rw [hb,ob,show (1:Int)=((1:Nat):Int) from rfl,Hd (by omega) 1,ob]
  cases h1:rv t 1 with
  | none=>rw [Gi,if_pos (by simp)]; exact fail
  | some x1 =>
   rw [Gf,if_neg (by simp)]
   dsimp only
   rw [Hd (by omega) x1.2,ob]
   cases h2:rv t x1.2 with
   | none=>rw [Gi,if_pos (by simp)]; exact fail
   | some x2 =>
    rw [Gf,if_neg (by simp)]
    dsimp only
    rw [Hd (by omega) x2.2,ob]
    cases h3:rv t x2.2 with
    | none=>rw [Gi,if_pos (by simp)]; exact fail
    | some x3 =>
     rw [Gf,if_neg (by simp)]
     dsimp only
     rw [Hd (by omega) x3.2,ob]
     cases h4:rv t x3.2 with
     | none=>rw [Gi,if_pos (by simp)]; exact fail
     | some x4 =>
      rw [Gf,if_neg (by simp)]
      dsimp only
      rw [Ho ht x4.2,ob]
      cases h5:rsA t x4.2 with
      | none=>rw [A0f,if_pos (by simp)]; exact fail
      | some x5 =>
       rw [Md,if_neg (by simp)]
       dsimp only
       rw [Ho ht x5.2,ob]
       cases h6:rsA t x5.2 with
       | none=>rw [A0f,if_pos (by simp)]; exact fail
       | some x6 =>
        rw [Md,if_neg (by simp)]
        dsimp only
        rw [Ho ht x6.2,ob]
        cases h7:rsA t x6.2 with
        | none=>rw [A0f,if_pos (by simp)]; exact fail
        | some x7 =>
         rw [Md,if_neg (by simp)]
         dsimp only
         have l5:=(Mp h5).2.2
         have l6:=(Mp h6).2.2
         have l7:=(Mp h7).2.2
         generalize hr:({ Kind:=w64 (c.toNat:Int),Valid:=(x1.1:Int),Uid:=(x2.1:Int),Next:=(x3.1:Int),Flags:=(x4.1:Int),User:=x5.1,Name:=x6.1,Text:=x7.1 }:TRec)=r
         by_cases hend:x7.2=t.length
         ·rw [if_neg (by simp [hend]),Kl (by rw [← hr]; exact ⟨by dsimp only; omega,by dsimp only; omega,by dsimp only; omega⟩),ob]
          by_cases hk:recOk r=true
          ·rw [if_pos hk,ob,if_neg (by simp)]
           refine ⟨_,rfl,fun _=>⟨hk,?_⟩,fun h=>absurd h (by simp)⟩
           have d1:=Ta h1
           rw [hd,Ta h2,Ta h3,Ta h4,Zi h5,Zi h6,Zi h7,hend,List.drop_length] at d1
           dsimp only
           rw [ht0,d1,← hr]
           unfold recT
           dsimp only
           rw [A6y]
           simp
          ·rw [if_neg hk,ob,if_pos rfl]; exact fail
         ·rw [if_pos (by simp; omega),ob,if_pos rfl]; exact fail
theorem A7e {t:List UInt8} (ht:t.length≤8388608) {r:TRec} (h:goodR t r):Q6 t=some (r,true):=by
 obtain ⟨hk,hT⟩:=h
 obtain ⟨⟨v1,v2⟩,⟨u1,u2⟩,⟨n1,n2⟩,⟨f1,f2⟩,k1,k2⟩:=Mr hk
 obtain ⟨l1,l2,l3⟩:=Ye hk
 have rd:∀ {A B:List UInt8} {z:Int},t=A++(vt z++B)→0≤z∧z≤1000000000→J9 t (A.length:Int)=some (z,((A++vt z).length:Int),true):=by
  intro A B z he hz
  rw [Hd (by omega),he,Aaw hz]
 have rdS:∀ {A B u:List UInt8},t=A++(short u++B)→u.length≤20000→L2 t (A.length:Int)=some (u,((A++short u).length:Int),true):=by
  intro A B u he hu
  rw [Ho ht,he,A5m hu]; rfl
 generalize hkb:[ofI (IntKind.u8.wrap r.Kind)]=kb
 have hT':t=kb++vt r.Valid++vt r.Uid++vt r.Next++vt r.Flags++short r.User++short r.Name++short r.Text:=by rw [hT,← hkb]; rfl
 have e1:=rd (A:=kb) (z:=r.Valid) (B:=vt r.Uid++(vt r.Next++(vt r.Flags++(short r.User++(short r.Name++short r.Text))))) (by rw [hT']; simp) (by omega)
 have e2:=rd (A:=kb++vt r.Valid) (z:=r.Uid) (B:=vt r.Next++(vt r.Flags++(short r.User++(short r.Name++short r.Text)))) (by rw [hT']; simp) (by omega)
 have e3:=rd (A:=kb++vt r.Valid++vt r.Uid) (z:=r.Next) (B:=vt r.Flags++(short r.User++(short r.Name++short r.Text))) (by rw [hT']; simp) (by omega)
 have e4:=rd (A:=kb++vt r.Valid++vt r.Uid++vt r.Next) (z:=r.Flags) (B:=short r.User++(short r.Name++short r.Text)) (by rw [hT']; simp) (by omega)
 have e5:=rdS (A:=kb++vt r.Valid++vt r.Uid++vt r.Next++vt r.Flags) (u:=r.User) (B:=short r.Name++short r.Text) (by rw [hT']; simp) (by omega)
 have e6:=rdS (A:=kb++vt r.Valid++vt r.Uid++vt r.Next++vt r.Flags++short r.User) (u:=r.Name) (B:=short r.Text) (by rw [hT']; simp) (by omega)
 have e7:=rdS (A:=kb++vt r.Valid++vt r.Uid++vt r.Next++vt r.Flags++short r.User++short r.Name) (u:=r.Text) (B:=[]) (by rw [hT']; simp) (by omega)
 have hkl:kb.length=1:=by rw [← hkb]; rfl
 rw [hkl] at e1
 have ht0:t=ofI (IntKind.u8.wrap r.Kind)::t.drop 1:=by rw [hT]; rfl
 have hb:bt? t 0=some (ofI (IntKind.u8.wrap r.Kind)):=by rw [ht0]; exact bt?_cons _ _
 have hkk:w64 ((ofI (IntKind.u8.wrap r.Kind)).toNat:Int)=r.Kind:=by
  have e:IntKind.u8.wrap r.Kind=((r.Kind.toNat:Nat):Int):=by rw [Hb]; omega
  rw [e,Ms (by omega),C0 (by omega) (by omega)]
  omega
 unfold Q6
 rw [if_neg (by rw [ht0]; simp),hb,ob,show (1:Int)=((1:Nat):Int) from rfl,e1,ob,if_neg (by simp)]
 dsimp only
 rw [e2,ob,if_neg (by simp)]
 dsimp only
 rw [e3,ob,if_neg (by simp)]
 dsimp only
 rw [e4,ob,if_neg (by simp)]
 dsimp only
 rw [e5,ob,if_neg (by simp)]
 dsimp only
 rw [e6,ob,if_neg (by simp)]
 dsimp only
 rw [e7,ob,if_neg (by simp)]
 dsimp only
 rw [hkk]
 have hR:({ Kind:=r.Kind,Valid:=r.Valid,Uid:=r.Uid,Next:=r.Next,Flags:=r.Flags,User:=r.User,Name:=r.Name,Text:=r.Text }:TRec)=r:=rfl
 have hend:(kb++vt r.Valid++vt r.Uid++vt r.Next++vt r.Flags++short r.User++short r.Name++short r.Text).length=t.length:=by rw [← hT']
 rw [hR,hend,if_neg (by simp),Kl ⟨by first | omega | (dsimp only; omega),by first | omega | (dsimp only; omega),by first | omega | (dsimp only; omega)⟩,ob,if_pos hk,ob,if_neg (by simp)]
noncomputable def readR (t:List UInt8):TRec×Bool:=(M1 t).getD (rec0,false)
theorem A08 {t:List UInt8} (ht:t.length≤8388608):M1 t=some (readR t)∧Q6 t=some (readR t)∧((readR t).2=true→goodR t (readR t).1):=by
 obtain ⟨⟨sc,sb⟩,k1,k2,k3⟩:=A7s ht
 have e:readR t=(sc,sb):=by unfold readR; rw [k1]; rfl
 obtain ⟨⟨rc,rb⟩,h1,h2,h3⟩:=A86 ht
 refine ⟨by rw [e,k1],?_,by rw [e]; exact k2⟩
 rw [e]
 cases rb with
 | true =>
  have:=A2e ht (h2 rfl)
  rw [k1] at this; cases this
  exact h1
 | false =>
  cases sb with
  | true=>exact A7e ht (k2 rfl)
  | false =>
   simp only at h3 k3
   rw [h1,h3 trivial,k3 trivial]
def itemZ:TItem:={ Seq:=0,Rec:=rec0 }
noncomputable def frameItem (f:TFrame):TItem×Bool:=if (readR f.Body).2=true∧D6 f=true then ({ Seq:=f.Seq,Rec:=(readR f.Body).1 },true) else (itemZ,false)
theorem A07 {f:TFrame} (hb:f.Body.length≤8388608):Ai f=some (frameItem f):=by
 unfold Ai frameItem
 rw [(A08 hb).1,ob,Ki,ob]
 cases D6 f <;> cases (readR f.Body).2 <;> simp [itemZ,rec0]
theorem Lo {f:TFrame} (hb:f.Body.length≤8388608):Ae f=some (frameItem f):=by
 unfold Ae frameItem
 rw [(A08 hb).2.1,ob,Gy]
 cases D6 f <;> cases (readR f.Body).2 <;> simp [itemZ,rec0]
noncomputable def itI (f:TFrame):List TItem:=if (frameItem f).2 then [(frameItem f).1] else []
theorem Aa6 (f:TFrame):(itI f).length≤1:=by unfold itI; split <;> simp
noncomputable def segItems (l:List TFrame):List TItem:=l.flatMap itI
theorem Qu:∀ l:List TFrame,(segItems l).length≤l.length
 | []=>by simp [segItems]
 | f::l=>by
  have h1:=Aa6 f
  have h2:=Qu l
  unfold segItems at h2 ⊢
  rw [List.flatMap_cons,List.length_append,List.length_cons]; omega
theorem A4h {l:List TFrame} (hl:l.length≤1048576) {step:Int×List TItem→Option ((Int×List TItem) ⊕ List TItem)}
  (h1:∀ (i:Nat) (o:List TItem) (hi:i<l.length),step ((i:Int),o)=if (frameItem l[i]).2 then (app? 96 o [(frameItem l[i]).1]).bind fun v=>some (.inl (((i+1:Nat):Int),v)) else some (.inl (((i+1:Nat):Int),o)))
  (h2:∀ o,step ((l.length:Int),o)=some (.inr o)):iter step (0,[])=some (segItems l):=by
 have:=J6 (step:=step) (fun i=>((i:Int),segItems (l.take i))) l.length (r:=segItems l) ?_ ?_
 ·simpa [segItems] using this
 ·intro i hi
  have hs:=Qu (l.take i)
  rw [List.length_take] at hs
  have e:segItems (l.take (i+1))=segItems (l.take i)++itI l[i]:=by
   unfold segItems
   rw [List.take_succ_eq_append_getElem hi,List.flatMap_append]; simp
  rw [h1 i _ hi,e]
  unfold itI
  by_cases c:(frameItem l[i]).2=true
  ·rw [if_pos c,if_pos c,app?_ok (by simp; omega) (by simp; omega)]; rfl
  ·rw [if_neg c,if_neg c,List.append_nil]
 ·rw [h2,List.take_length]
noncomputable def segOf (d:TDisk) (no:Int):TSeg:={ No:=no,Gen:=segGen (segT d no),End:=((segFr (segT d no)).2:Int),Items:=segItems (segFr (segT d no)).1 }
theorem Tx {d:TDisk} (h:DkS d) (no:Int):(segFr (segT d no)).1.length≤1048576:=by
 have h1:=A6w (t:=segT d no)
 have h2:=Mf h no
 omega
theorem A9l {t:List UInt8} {f:TFrame} (hf:f∈(segFr t).1):f.Body.length≤8388608:=by
 have:=(R1 (A8p f hf)).2.2.2
 omega
theorem U0 {f:TFrame} (h:D6 f=true):E4 f=(C8 f,true):=by unfold E4; rw [if_pos h]; rfl
theorem Aaj {A B:List UInt8} {f:TFrame} (h:D6 f=true):rf (A++(C8 f++B)) A.length=some (f,(A++C8 f).length):=by
 obtain ⟨⟨g1,g2⟩,⟨s1,s2⟩,b1,b2⟩:=R1 h
 obtain ⟨gn,hg⟩:∃ n:Nat,f.Gen=n:=⟨f.Gen.toNat,by omega⟩
 obtain ⟨sn,hs⟩:∃ n:Nat,f.Seq=n:=⟨f.Seq.toNat,by omega⟩
 have hF:C8 f=vt f.Gen++(vt f.Seq++(short f.Body++sealL (frameT f))):=by
  unfold C8
  generalize sealL (frameT f)=S
  unfold frameT short
  simp only [List.append_assoc]
 unfold rf
 rw [A3w (n:=gn) (r:=vt f.Seq++(short f.Body++sealL (frameT f))++B) (by rw [List.drop_left,hF,← hg]; simp only [List.append_assoc]) (by omega)]
 dsimp only
 have e2:rv (A++(C8 f++B)) (A.length+(vt (gn:Int)).length)=some (sn,A.length+(vt (gn:Int)).length+(vt (sn:Int)).length):=by
  refine A3w (r:=short f.Body++sealL (frameT f)++B) ?_ (by omega)
  rw [← List.drop_drop,List.drop_left,hF,← hg,← hs]
  simp only [List.append_assoc,List.drop_left]
 rw [e2]
 dsimp only
 have e3:rsA (A++(C8 f++B)) (A.length+(vt (gn:Int)).length+(vt (sn:Int)).length)=some (f.Body,A.length+(vt (gn:Int)).length+(vt (sn:Int)).length+(short f.Body).length):=by
  have:=A5m (A:=A++vt f.Gen++vt f.Seq) (B:=sealL (frameT f)++B) (s:=f.Body) (by omega)
  rw [hF]
  simp only [List.append_assoc,List.length_append] at this ⊢
  rw [← hg,← hs,Nat.add_assoc,this]
  congr 2; omega
 rw [e3]
 dsimp only
 have hf:({ Gen:=(gn:Int),Seq:=(sn:Int),Body:=f.Body }:TFrame)=f:=by rw [← hg,← hs]
 have hl:A.length+(vt (gn:Int)).length+(vt (sn:Int)).length+(short f.Body).length+4=(A++C8 f).length:=by
  rw [hF,← hg,← hs]
  simp only [List.length_append,Dg]; omega
 rw [hf,A37 h (by rw [hl]; simp) (by rw [hl,← List.append_assoc,List.take_left,List.drop_left]),hl]
theorem Aac {t:List UInt8} {a:Nat} {x:TFrame×Nat} (h:rf t a=some x):t.drop a=C8 x.1++t.drop x.2:=by
 have hb:=Uj h
 unfold rf at h
 split at h
 ·cases h
 ·split at h
  ·cases h
  ·split at h
   ·cases h
   ·rename_i b hb'
    unfold rfC at h
    split at h
    ·rename_i hc
     cases h
     rw [← hc.2.2]
     rw [← List.take_append_drop (b.2+4 - a) (t.drop a)]
     congr 1
     ·rw [List.drop_take]
     ·rw [List.drop_drop]; congr 1; simp only at hb; omega
    ·cases h
theorem A9u {t:List UInt8} {a:Nat} (hz:∀ b,t[a]?=some b→b=0):rf t a=none:=by
 cases h:rf t a with
 | none=>rfl
 | some x =>
  exfalso
  have hb:=Uj h
  obtain ⟨⟨g1,g2⟩,_⟩:=R1 hb.2.2
  have ht:=Aac h
  have h0:t[a]?=(t.drop a)[0]?:=by rw [List.getElem?_drop]; rfl
  rw [ht] at h0
  have e:∃ c r,vt x.1.Gen=c::r∧c≠0:=by
   unfold vt
   rw [if_pos (by omega)]
   by_cases hs:x.1.Gen.toNat≤127
   ·rw [Ap hs]
    exact ⟨_,_,rfl,A5a _ (by omega) (by omega)⟩
   ·rw [Ml (by omega)]
    refine ⟨_,_,rfl,?_⟩
    have:∀ m:Nat,m<128→ofI ((m+128:Nat):Int)≠0:=by decide
    exact this _ (Nat.mod_lt _ (by omega))
  obtain ⟨c,r,e1,e2⟩:=e
  have hF:C8 x.1=vt x.1.Gen++(vt x.1.Seq++vt x.1.Body.length++x.1.Body++sealL (frameT x.1)):=by
   unfold C8
   generalize sealL (frameT x.1)=S
   unfold frameT
   simp only [List.append_assoc]
  rw [hF,e1] at h0
  exact e2 (hz c (by rw [h0]; rfl))
theorem A23 {gen:Int} {Z:List UInt8} (hz:∀ b,Z[0]?=some b→b=0):∀ (F:List TFrame) (A:List UInt8) (n:Nat) (l:List TFrame),F.length<n→(∀ f∈F,D6 f=true∧f.Gen=gen)→scanN (A++(F.flatMap C8++Z)) gen n A.length l=(l++F,(A++F.flatMap C8).length)
 | [],A,0,l,hn,_=>by simp at hn
 | [],A,n+1,l,hn,_=>by
  rw [scanN,A9u]
  ·simp
  ·intro b hb
   refine hz b ?_
   rw [← hb,List.getElem?_append_right (Nat.le_refl _),Nat.sub_self]; rfl
 | f::F,A,0,l,hn,_=>by simp at hn
 | f::F,A,n+1,l,hn,h=>by
  have hf:=h f List.mem_cons_self
  have e:A++((f::F).flatMap C8++Z)=A++(C8 f++(F.flatMap C8++Z)):=by simp
  rw [e,scanN,Aaj hf.1]
  dsimp only
  rw [if_pos hf.2]
  have ih:=A23 hz F (A++C8 f) n (l++[f]) (by simp at hn; omega) (fun g hg=>h g (List.mem_cons_of_mem _ hg))
  rw [List.append_assoc] at ih
  rw [ih]
  simp
def itF (x:TItem) (gen:Int):TFrame:={ Gen:=gen,Seq:=x.Seq,Body:=recT x.Rec }
def segF (s:TSeg):List TFrame:=hdF s.Gen::s.Items.map fun x=>itF x s.Gen
def segB (s:TSeg):List UInt8:=(segF s).flatMap C8
theorem A3m {x:TItem} {gen:Int} (h:(E5 x gen).2=true):(E5 x gen).1=itF x gen∧D6 (itF x gen)=true∧recOk x.Rec=true:=by
 unfold E5 at h ⊢
 split at h
 ·rename_i hc
  rw [if_pos hc]
  simp only [Bool.and_eq_true] at hc
  have hr:recOk x.Rec=true:=by
   have:=hc.1
   unfold recText at this
   split at this
   ·assumption
   ·cases this
  have e:(recText x.Rec).1=recT x.Rec:=by unfold recText; rw [if_pos hr]
  rw [e] at hc
  refine ⟨by simp only; rw [e]; rfl,hc.2,hr⟩
 ·cases h
theorem Ks {x:TItem} {gen:Int} (h:D6 (itF x gen)=true) (hr:recOk x.Rec=true):frameItem (itF x gen)=(x,true):=by
 have hb:=(R1 h).2.2.2
 have e:readR (itF x gen).Body=(x.Rec,true):=by
  have h1:=A2e (t:=recT x.Rec) (r:=x.Rec) (by unfold itF at hb; simp only at hb; omega) ⟨hr,rfl⟩
  unfold readR itF
  rw [h1]; rfl
 unfold frameItem
 rw [e,if_pos ⟨rfl,h⟩]; rfl
theorem A82 {s:TSeg} {t:List UInt8} {Z:List UInt8} (ht:t=segB s++Z) (hz:∀ b,Z[0]?=some b→b=0) (hg:1≤s.Gen∧s.Gen≤1000000000) (hi:∀ x∈s.Items,D6 (itF x s.Gen)=true∧recOk x.Rec=true):segGen t=s.Gen∧segFr t=(s.Items.map fun x=>itF x s.Gen,(segB s).length):=by
 have hh:D6 (hdF s.Gen)=true:=by unfold D6 hdF inR; simp; omega
 have e0:t=[]++(C8 (hdF s.Gen)++((s.Items.map fun x=>itF x s.Gen).flatMap C8++Z)):=by
  rw [ht]; unfold segB segF; simp
 have e1:rf t 0=some (hdF s.Gen,([]++C8 (hdF s.Gen)).length):=by
  rw [e0]; exact Aaj (A:=[]) hh
 have hG:segGen t=s.Gen:=by
  unfold segGen
  rw [e1]
  simp [hdF]
 have hF:∀ f∈segF s,D6 f=true∧f.Gen=s.Gen:=by
  intro f hf
  rcases List.mem_cons.1 hf with e | hf
  ·rw [e]; exact ⟨hh,rfl⟩
  ·obtain ⟨x,hx,rfl⟩:=List.mem_map.1 hf
   exact ⟨(hi x hx).1,rfl⟩
 have hlen:∀ l:List TFrame,(∀ f∈l,D6 f=true∧f.Gen=s.Gen)→l.length≤(l.flatMap C8).length:=by
  intro l
  induction l with
  | nil=>intro _; simp
  | cons f l ih =>
   intro h
   have:=ih fun g hg=>h g (List.mem_cons_of_mem _ hg)
   have h4:4≤(C8 f).length:=by unfold C8; rw [List.length_append,Dg]; omega
   rw [List.flatMap_cons,List.length_append,List.length_cons]; omega
 have hl:=hlen _ hF
 have hs:scan t s.Gen=(segF s,(segB s).length):=by
  unfold scan
  have:=A23 hz (segF s) [] (t.length+1) [] (by rw [ht,List.length_append]; unfold segB; omega) hF
  rw [ht]
  rw [ht] at this
  exact this
 refine ⟨hG,?_⟩
 unfold segFr
 rw [hG,if_neg (by omega),hs]
 simp [segF]
def byteAt (d:TDisk) (p:Nat):Option UInt8:=(rsec d (p / 32))[p%32]?
theorem Mm {d:TDisk} (h:E0 d=true) {b:Nat} {T:List UInt8} {p:Nat} (hp:p<32*d.Sectors.length):byteAt (poke d b T) p=if b≤p∧p<b+T.length then T[p - b]? else byteAt d p:=by
 unfold byteAt
 rw [A6q h (by omega) (by omega)]
 by_cases c:b≤p∧p<b+T.length
 ·rw [if_pos c,if_pos (by omega)]; congr 1; omega
 ·rw [if_neg c,if_neg (by omega)]
def segAt (g:TLog) (j:Nat):List UInt8:=match g.Used[j]? with | some s=>segB s | none=>[]
structure Z (n:Nat) (g:TLog):Prop where
 ends:∀ (j:Nat) (s:TSeg),g.Used[j]?=some s→s.End=((segB s).length:Int)
 good:∀ (j:Nat) (s:TSeg),g.Used[j]?=some s→∀ x∈s.Items,D6 (itF x s.Gen)=true∧recOk x.Rec=true
 bytes:∀ j,j<n→∀ i,i<256→byteAt g.Disk (256*(j+1)+i)=some ((segAt g j).getD i 0)
theorem A2h {gen:Int} (h:1≤gen∧gen≤1000000000):hdT gen=C8 (hdF gen):=by
 have hh:D6 (hdF gen)=true:=by unfold D6 hdF inR; simp; omega
 unfold hdT
 rw [U0 hh]
theorem Z.openG {n:Nat} {S0:Nat→List UInt8} {g:TLog} (hw:W n S0 g) (hz:Z n g) (hu:g.Used.length<n):Z n (openG g):=by
 have hn:=hw.rng
 have hs:=hw.sec
 have hgen:1≤g.NextGen∧g.NextGen≤1000000000:=by rw [hw.gen]; omega
 have hT:=A2h hgen
 have hTl:=Rc g.NextGen
 have hlast:∀ (j:Nat) (s:TSeg),(V.openG g).Used[j]?=some s→(j<g.Used.length∧g.Used[j]?=some s)∨(j=g.Used.length∧s={ No:=(g.Used.length:Int),Gen:=g.NextGen,End:=((hdT g.NextGen).length:Int),Items:=[] }):=by
  intro j s h
  simp only [V.openG] at h
  by_cases c:j<g.Used.length
  ·rw [List.getElem?_append_left c] at h; exact .inl ⟨c,h⟩
  ·rw [List.getElem?_append_right (by omega)] at h
   have e:j - g.Used.length=0:=by
    by_cases e:j - g.Used.length=0
    ·exact e
    ·rw [List.getElem?_eq_none (by simp; omega)] at h; cases h
   rw [e] at h
   simp only [List.getElem?_cons_zero,qS] at h
   exact .inr ⟨by omega,h.symm⟩
 have hB:segB { No:=(g.Used.length:Int),Gen:=g.NextGen,End:=((hdT g.NextGen).length:Int),Items:=[] }=hdT g.NextGen:=by
  rw [hT]; unfold segB segF; simp
 refine ⟨?_,?_,?_⟩
 ·intro j s h
  rcases hlast j s h with ⟨_,h⟩ | ⟨_,h⟩
  ·exact hz.ends j s h
  ·rw [h,hB]
 ·intro j s h
  rcases hlast j s h with ⟨_,h⟩ | ⟨_,h⟩
  ·exact hz.good j s h
  ·rw [h]; simp
 ·intro j hj i hi
  show byteAt (poke g.Disk _ _) _=_
  rw [Mm hw.ok (by omega),hz.bytes j hj i hi]
  have hsegAt:segAt (V.openG g) j=if j=g.Used.length then hdT g.NextGen else segAt g j:=by
   unfold segAt
   by_cases c:j=g.Used.length
   ·rw [if_pos c,c]
    simp only [V.openG]
    rw [List.getElem?_append_right (Nat.le_refl _),Nat.sub_self]
    exact hB
   ·rw [if_neg c]
    simp only [V.openG]
    by_cases c2:j<g.Used.length
    ·rw [List.getElem?_append_left c2]
    ·rw [List.getElem?_eq_none (by simp; omega),List.getElem?_eq_none (by omega)]
  rw [hsegAt]
  by_cases c:j=g.Used.length
  ·rw [if_pos c]
   have h0:segAt g j=[]:=by unfold segAt; rw [List.getElem?_eq_none (by omega)]
   rw [h0]
   by_cases c2:i<(hdT g.NextGen).length
   ·rw [if_pos (by subst c; omega),qG (by subst c; omega),List.getD_eq_getElem?_getD,qG c2]
    simp only [Option.getD_some,qS]
    congr 1; subst c; omega
   ·rw [if_neg (by subst c; omega),List.getD_eq_getElem?_getD,List.getD_eq_getElem?_getD,List.getElem?_eq_none (by simp),List.getElem?_eq_none (by omega)]
  ·rw [if_neg c,if_neg (by omega)]
theorem A8l (s:TSeg) (x:TItem) (e:Int):segB { No:=s.No,Gen:=s.Gen,End:=e,Items:=s.Items++[x] }=segB s++C8 (itF x s.Gen):=by
 unfold segB segF; simp
theorem Z.appG {n:Nat} {S0:Nat→List UInt8} {g:TLog} (hw:W n S0 g) (hz:Z n g) {x:TItem} {T:List UInt8} (hT:T=C8 (itF x (V.hd g).Gen)) (hf:D6 (itF x (V.hd g).Gen)=true) (hr:recOk x.Rec=true) (hE:(V.hd g).End+(T.length:Int)≤256):Z n (appG g x T):=by
 have hn:=hw.rng
 have hs:=hw.sec
 have hl:=hw.len
 have hu:=Mj hl.1
 have hat:=Wj hl.1
 have hend:=hz.ends _ _ hat
 have hgood:=hz.good _ _ hat
 have hdl:g.Used.dropLast.length=g.Used.length - 1:=by simp
 have hlast:∀ (j:Nat) (s:TSeg),(V.appG g x T).Used[j]?=some s→(j<g.Used.length - 1∧g.Used[j]?=some s)∨(j=g.Used.length - 1∧s={ No:=(V.hd g).No,Gen:=(V.hd g).Gen,End:=(V.hd g).End+(T.length:Int),Items:=(V.hd g).Items++[x] }):=by
  intro j s h
  simp only [V.appG] at h
  by_cases c:j<g.Used.length - 1
  ·rw [List.getElem?_append_left (by omega)] at h
   refine .inl ⟨c,?_⟩
   rw [hu,List.getElem?_append_left (by omega)]; exact h
  ·rw [List.getElem?_append_right (by omega)] at h
   have e:j - g.Used.dropLast.length=0:=by
    by_cases e:j - g.Used.dropLast.length=0
    ·exact e
    ·rw [List.getElem?_eq_none (by simp at e ⊢; omega)] at h; cases h
   rw [e] at h
   simp only [List.getElem?_cons_zero,qS] at h
   exact .inr ⟨by omega,h.symm⟩
 have hB:∀ e,segB { No:=(V.hd g).No,Gen:=(V.hd g).Gen,End:=e,Items:=(V.hd g).Items++[x] }=segB (V.hd g)++T:=by
  intro e; rw [A8l,hT]
 refine ⟨?_,?_,?_⟩
 ·intro j s h
  rcases hlast j s h with ⟨_,h⟩ | ⟨_,h⟩
  ·exact hz.ends j s h
  ·rw [h,hB,List.length_append]; simp only; omega
 ·intro j s h
  rcases hlast j s h with ⟨_,h⟩ | ⟨_,h⟩
  ·exact hz.good j s h
  ·rw [h]
   intro y hy
   rcases List.mem_append.1 hy with hy | hy
   ·exact hgood y hy
   ·rw [List.mem_singleton] at hy; subst hy; exact ⟨hf,hr⟩
 ·intro j hj i hi
  show byteAt (poke g.Disk _ _) _=_
  rw [Mm hw.ok (by omega),hz.bytes j hj i hi]
  have hsegAt:segAt (V.appG g x T) j=if j=g.Used.length - 1 then segB (V.hd g)++T else segAt g j:=by
   unfold segAt
   by_cases c:j=g.Used.length - 1
   ·rw [if_pos c,c]
    simp only [V.appG]
    rw [List.getElem?_append_right (by omega),hdl,Nat.sub_self]
    exact hB _
   ·rw [if_neg c]
    simp only [V.appG]
    by_cases c2:j<g.Used.length - 1
    ·rw [List.getElem?_append_left (by omega)]
     conv=>rhs; rw [hu]
     rw [List.getElem?_append_left (by omega)]
    ·rw [List.getElem?_eq_none (by simp; omega),List.getElem?_eq_none (by omega)]
  rw [hsegAt]
  by_cases c:j=g.Used.length - 1
  ·rw [if_pos c]
   have h0:segAt g j=segB (V.hd g):=by unfold segAt; rw [c,hat]
   rw [h0]
   by_cases c1:i<(segB (V.hd g)).length
   ·rw [if_neg (by omega),List.getD_eq_getElem?_getD,List.getD_eq_getElem?_getD,List.getElem?_append_left c1]
   ·by_cases c2:i<(segB (V.hd g)).length+T.length
    ·rw [if_pos (by omega),qG (by omega),List.getD_eq_getElem?_getD,List.getElem?_append_right (by omega),qG (by omega)]
     simp only [Option.getD_some,qS]
     congr 1; omega
    ·rw [if_neg (by omega),List.getD_eq_getElem?_getD,List.getD_eq_getElem?_getD,List.getElem?_eq_none (by omega),List.getElem?_eq_none (by simp; omega)]
  ·rw [if_neg c,if_neg (by omega)]
theorem A8z {n:Nat} {S0:Nat→List UInt8} {g:TLog} (hw:W n S0 g) (hz:Z n g) {j:Nat} {s:TSeg} (hj:g.Used[j]?=some s):segT g.Disk (j:Int)=segB s++List.replicate (256 - (segB s).length) 0:=by
 have hn:=hw.rng
 have hs:=hw.sec
 have hl:=hw.len
 have hjl:=(qI hj).1
 have hu:=hw.used j s hj
 have he:=hz.ends j s hj
 unfold segT
 rw [if_pos (by unfold inR; simp; omega),Int.toNat_natCast,A64 (by omega)]
 refine List.ext_getElem? fun i=>?_
 have h32:=A30 hw.ok (8+8*j) 8 (by omega)
 by_cases c:i<256
 ·rw [A4a hw.ok (8+8*j) 8 (by omega) i (by omega)]
  have hb:=hz.bytes j (by omega) i c
  unfold byteAt at hb
  rw [show (256*(j+1)+i) / 32=8+8*j+i / 32 by omega,show (256*(j+1)+i)%32=i%32 by omega] at hb
  rw [hb]
  have h0:segAt g j=segB s:=by unfold segAt; rw [hj]
  rw [h0]
  by_cases c1:i<(segB s).length
  ·rw [List.getElem?_append_left c1,List.getD_eq_getElem?_getD,qG c1]; rfl
  ·rw [List.getElem?_append_right (by omega),List.getElem?_replicate,if_pos (by omega),List.getD_eq_getElem?_getD,List.getElem?_eq_none (by omega)]; rfl
 ·rw [List.getElem?_eq_none (by show (secT g.Disk (8+8*j) 8).length≤i; omega),List.getElem?_eq_none (by simp; omega)]
theorem A4p {n:Nat} {S0:Nat→List UInt8} {g:TLog} (hw:W n S0 g) (hz:Z n g) {j:Nat} {s:TSeg} (hj:g.Used[j]?=some s):segGen (segT g.Disk (j:Int))=s.Gen∧segFr (segT g.Disk (j:Int))=(s.Items.map fun x=>itF x s.Gen,(segB s).length):=by
 have hn:=hw.rng
 have hl:=hw.len
 have hjl:=(qI hj).1
 have hu:=hw.used j s hj
 refine A82 (A8z hw hz hj) ?_ (by omega) (hz.good j s hj)
 intro b hb
 rw [List.getElem?_replicate] at hb
 split at hb
 ·cases hb; rfl
 ·cases hb
theorem W.itemsOk {n:Nat} {S0:Nat→List UInt8} {g:TLog} (h:W n S0 g) (hm:(B7 g).length≤100):itemsOk (B7 g)=true:=by
 refine Lv.2 ⟨by omega,?_,?_⟩
 ·intro x hx
  obtain ⟨i,hi⟩:=List.getElem?_of_mem hx
  have hl:=(qI hi).1
  have:=h.its i x hi
  exact ⟨by omega,this.2.1.ok⟩
 ·intro x hx y hy e
  obtain ⟨i,hi⟩:=List.getElem?_of_mem hx
  obtain ⟨j,hj⟩:=List.getElem?_of_mem hy
  have h1:=(h.its i x hi).1
  have h2:=(h.its j y hj).1
  have:i=j:=by omega
  subst this
  rw [hi] at hj; exact Option.some.inj hj
theorem W.szI {n:Nat} {S0:Nat→List UInt8} {g:TLog} (h:W n S0 g) (hm:(B7 g).length≤100):SzI (B7 g):=⟨by omega,fun y hy=>⟨(A2u h y hy).sz⟩⟩
theorem Aa1 {g:TLog} {j:Nat} {s:TSeg} (hj:g.Used[j]?=some s) {x:TItem} (hx:x∈s.Items):x∈B7 g:=List.mem_flatMap.2 ⟨s,qM hj,hx⟩
theorem W.below {n:Nat} {S0:Nat→List UInt8} {g:TLog} (h:W n S0 g) {x:TItem} (hx:x∈B7 g):x.Seq<g.NextSeq∧x.Rec.Valid<g.NextValid∧1≤x.Seq:=by
 obtain ⟨i,hi⟩:=List.getElem?_of_mem hx
 have hl:=(qI hi).1
 have:=h.its i x hi
 have hs:=h.seq
 exact ⟨by omega,this.2.2,by omega⟩
theorem A95 {n:Nat} {S0:Nat→List UInt8} {g:TLog} (h:W n S0 g):w64 (Int.tdiv (w64 ((g.Disk.Sectors.length:Int) - 8)) 8)=(n:Int):=by
 have hn:=h.rng
 have hs:=h.sec
 rw [C0 (n:=(g.Disk.Sectors.length:Int) - 8) (by omega) (by omega),Int.tdiv_eq_ediv_of_nonneg (by omega),C0 (by omega) (by omega)]
 omega
theorem A45 {n:Nat} {S0:Nat→List UInt8} {g:TLog} (hw:W n S0 g) (hz:Z n g) {j:Nat} {s:TSeg} (hj:g.Used[j]?=some s):U4 g.Disk s=some true:=by
 have hD:=DkS.ofOk hw.ok
 have hu:=hw.used j s hj
 obtain ⟨r1,r2⟩:=A4p hw hz hj
 have hgood:=hz.good j s hj
 have hlen:=Yr hw.len.1
 unfold U4
 rw [Zp hD,ob,Mh hD,ob,hu.1,r1,r2]
 dsimp only
 rw [if_neg (by simp),if_neg (by rw [hu.2.1]; simp; omega),if_neg (by rw [hz.ends j s hj]; simp),if_neg (by simp),ob,if_neg (by simp)]
 have hcnt:=Tx hD (j:Int)
 rw [r2] at hcnt
 simp only [List.length_map] at hcnt
 rw [El (n:=s.Items.length) hcnt]
 ·rfl
 ·intro i hi
  have hx:=hgood _ (List.getElem_mem hi)
  have hb:=(R1 hx.1).2.2.2
  unfold X0
  simp only [List.length_map]
  rw [if_pos (dlt hi),at?_nat (by simpa using hi),ob,List.getElem_map,Lo (by omega),ob,Ks hx.1 hx.2]
  simp [at?_nat hi,C4 (show i<9223372036854775807 by omega)]
 ·unfold X0
  simp
theorem A63 {n:Nat} {S0:Nat→List UInt8} {g:TLog} (hw:W n S0 g) (hz:Z n g) (hm:(B7 g).length≤100):P8 g=some true:=by
 have hD:=DkS.ofOk hw.ok
 have hn:=hw.rng
 have hl:=hw.len
 have hs:=hw.sec
 have a1:inR (n:Int) 5 11=true:=Df.2 (by omega)
 have a2:inR (g.Used.length:Int) 1 (n:Int)=true:=Df.2 (by omega)
 have a3:inR g.NextGen 1 1000000000=true:=Df.2 (by rw [hw.gen]; omega)
 have a4:inR g.NextSeq 1 1000000000=true:=Df.2 (by rw [hw.seq]; omega)
 have a5:inR g.NextValid 1 1000000000=true:=Df.2 (by have:=hw.valid; omega)
 have a6:inR g.Stamp 1 1000000000=true:=Df.2 (by rw [hw.stamp]; omega)
 unfold P8 Ea
 simp only [T9]
 rw [Gg hD,hw.ok,ob,if_pos rfl,if_neg (by rw [hw.cache]; simp),if_neg (by rw [hw.segs]; simp; omega),A95 hw,ob,a1,if_pos rfl,ob,if_neg (by rw [hw.segs]; simp),hw.segs,a2,ob,if_pos rfl,ob,if_neg (by simp),a3,a4,a5,a6]
 simp only [ob,if_true,Bool.false_eq_true,if_false]
 rw [El (n:=g.Used.length) (by omega)]
 ·simp only [ob,Sum.elim_inr]
  rw [Ha (hw.lgn (by omega)),ob,Kt (hw.szI hm),hw.itemsOk hm]; rfl
 ·intro i hi
  have hgi:=qG hi
  have hu:=hw.used i _ hgi
  have hon:=A45 hw hz hgi
  have hk:D4 (g.Used.take i) g.Used[i]=some false:=by
   rw [W4 (q:=fun y=>y.No==g.Used[i].No) (by simp; omega) (fun y _=>rfl)]
   congr 1
   rw [List.any_eq_false]
   intro y hy
   obtain ⟨k,hk⟩:=List.getElem?_of_mem hy
   have hki:k<i:=by
    have:=(qI hk).1
    simp at this; omega
   rw [List.getElem?_take_of_lt hki] at hk
   have:=hw.used k y hk
   simp; omega
  have hit:D2 g.Used[i].Items g=some false:=by
   have hlen:=Xl g.Used (List.getElem_mem hi)
   have ht:(B7 g).length=(g.Used.map fun x=>x.Items.length).sum:=by unfold B7; rw [List.length_flatMap]
   rw [W0 (q:=fun y=>decide (y.Seq≥g.NextSeq)||decide (y.Rec.Valid≥g.NextValid)) (by omega) (fun y _=>by
    unfold P2
    cases decide (y.Seq≥g.NextSeq) <;> rfl)]
   congr 1
   rw [List.any_eq_false]
   intro y hy
   have:=hw.below (Aa1 hgi hy)
   simp; omega
  have b1:inR g.Used[i].No 0 (w64 (g.Segs - 1))=true:=by rw [hw.segs,C0 (by omega) (by omega)]; exact Df.2 (by omega)
  unfold Z0
  simp only [T9]
  rw [if_pos (dlt hi),at?_nat hi,ob,b1,ob,if_pos rfl,if_neg (by rw [hw.gen]; simp; omega)]
  have hsub:=sub?_take (l:=g.Used) (i:=i) (by omega)
  by_cases c:i=0
  ·subst c
   rw [if_neg (by simp),hon,ob,if_pos rfl,ob,if_neg (by simp),hsub,ob,hk,ob,if_neg (by simp),hit,ob,if_neg (by simp)]
   rfl
  ·have hu':=hw.used (i - 1) _ (qG (by omega))
   rw [if_pos (by simp; omega),C0 (by omega) (by omega),show (i:Int) - 1=((i - 1:Nat):Int) by omega,at?_nat (by omega),ob,if_neg (by simp; omega),hon,ob,if_pos rfl,ob,if_neg (by simp),hsub,ob,hk,ob,if_neg (by simp),hit,ob,if_neg (by simp),C4 (by omega)]
 ·unfold Z0
  simp
theorem Mg {g:TLog} (hD:DkS g.Disk) (h:LgN g):L7 g=some g:=by
 have hul:=h.used
 unfold L7
 rw [Jy hD,ob]
 have:=J6 (step:=R3 g) (fun i=>((i:Int),g.Used.take i)) g.Used.length (r:=g.Used) ?_ ?_
 ·have e:iter (R3 g) (0,[])=some g.Used:=by simpa using this
  rw [e]; rfl
 ·intro i hi
  have hx:=(h.items _ (List.getElem_mem hi)).1
  unfold R3 Du
  rw [if_pos (dlt hi),at?_nat hi,ob,app?_ok (by simp; omega) (by simp; omega),ob,app?_ok (by simp; omega) (by simp; omega),ob,C4 (by omega),List.take_succ_eq_append_getElem hi]
  rfl
 ·unfold R3; simp
theorem A2z {x0 d d':TDisk} {T:List UInt8} {s t j i m:Nat} (h:Wst d (32*s+t) T j i d') (hT:T.length≤1000) (hs:s≤1000) (ht:t≤3200) (hj:j<60) (hi:i<T.length) (hk:(32*s+t+i) / 32<d.Sectors.length) (hm:m=min (32 - (32*s+t+i)%32) (T.length - i)) :
  ∃ d'',K2 (s:Int) x0 (((t+i:Nat):Int),T.drop i,d'.Sectors,d'.Cache)=some (.inl (((t+(i+m):Nat):Int),T.drop (i+m),d''.Sectors,d''.Cache))∧Wst d (32*s+t) T (j+1) (i+m) d'':=by
 obtain ⟨d'',hw,hst⟩:=h.step hj hi hk hm
 refine ⟨d'',?_,hst⟩
 have hD:=DkS.ofOk h.ok
 have hc:=h.cache
 have h32:(rsec d' ((32*s+t+i) / 32)).length=32:=Ja h.ok (by rw [h.sec]; exact hk)
 have hlen:(T.drop i).length=T.length - i:=by simp
 have e1:(t+i)%32=(32*s+t+i)%32:=by omega
 have w4:w64 ((s:Int)+w64 (((t+i) / 32:Nat):Int))=(((32*s+t+i) / 32:Nat):Int):=by rw [Fh (by omega),C0 (by omega) (by omega)]; omega
 have w5:w64 (32 - (((32*s+t+i)%32:Nat):Int))=((32 - (32*s+t+i)%32:Nat):Int):=by rw [C0 (by omega) (by omega)]; omega
 have hdd:({ Sectors:=d'.Sectors,Cache:=d'.Cache }:TDisk)=d':=rfl
 have hmm:(if ((32 - (32*s+t+i)%32:Nat):Int)<((T.drop i).length:Int) then ((32 - (32*s+t+i)%32:Nat):Int) else ((T.drop i).length:Int))=(m:Int):=by
  rw [hlen]
  split <;> omega
 have f1:w64 (((t+i:Nat):Int)+(m:Int))=((t+(i+m):Nat):Int):=by rw [C0 (by omega) (by omega)]; omega
 have f2:w64 ((((32*s+t+i)%32:Nat):Int)+(m:Int))=(((32*s+t+i)%32+m:Nat):Int):=by rw [C0 (by omega) (by omega)]; omega
 unfold K2
 rw [if_pos (by simp only [Bool.not_eq_true',beq_eq_false_iff_ne,ne_eq]; intro h0; have:=congrArg List.length h0; rw [hlen] at this; simp at this; omega)]
 dsimp only
 rw [A3q,A4g,w4,e1,w5,hdd,hmm,f1,f2,Gn hD,ob,Me (by rw [h.sec]; exact hk)]
 dsimp only
 rw [if_neg (by simp),if_neg (by simp [h32]),ob,if_neg (by simp),sub?_take (by omega),ob,sub?_take (by omega),ob,cat?_ok (by simp; omega),ob,sub?_tail (by omega),ob,cat?_ok (by simp; omega),ob,Aa7 hD (by simp; omega) (by omega),ob,hw]
 simp only [wrR,Bool.not_true,Bool.false_eq_true,if_false]
 rw [sub?_tail (by omega),ob,List.drop_drop]
theorem Tf {x0 d:TDisk} {T:List UInt8} {s t:Nat} (hT:T.length≤1000) (hs:s≤1000) (ht:t≤3200) (hn:32*s+t+T.length≤32*d.Sectors.length):∀ (n i j:Nat) (d':TDisk),T.length≤i+n→i≤T.length→(i=T.length∨32*j≤i+31∧(i=0∨(32*s+t+i)%32=0))→Wst d (32*s+t) T j i d' →
  ∃ d1 j1,iter (K2 (s:Int) x0) (((t+i:Nat):Int),T.drop i,d'.Sectors,d'.Cache)=some (.inr (d1.Sectors,d1.Cache))∧Wst d (32*s+t) T j1 T.length d1
 | 0,i,j,d',h1,h2,_,h=>by
  have:i=T.length:=by omega
  subst this
  refine ⟨d',j,D5 ?_,h⟩
  unfold K2
  rw [if_neg (by simp)]
 | n+1,i,j,d',h1,h2,h3,h=>by
  by_cases c:i<T.length
  ·obtain ⟨d'',e,hw⟩:=A2z (x0:=x0) (m:=min (32 - (32*s+t+i)%32) (T.length - i)) h hT hs ht (by omega) c (by omega) rfl
   rw [K5 e]
   exact Tf hT hs ht hn n _ (j+1) d'' (by omega) (by omega) (by omega) hw
  ·have:i=T.length:=by omega
   subst this
   refine ⟨d',j,D5 ?_,h⟩
   unfold K2
   rw [if_neg (by simp)]
theorem A73 {d:TDisk} (h:E0 d=true) (hc:d.Cache=[]) {T:List UInt8} {s t:Nat} (hT:T.length≤1000) (hs:s<d.Sectors.length) (ht:t≤3200) (hn:32*s+t+T.length≤32*d.Sectors.length) :
  ∃ d1,Y5 d (s:Int) (t:Int) T=some (d1,true)∧K1 d1=some (poke d (32*s+t) T):=by
 have hD:=DkS.ofOk h
 have h1:=hD.sec.1
 have h100:=(L4.1 h).1.2
 obtain ⟨d1,j1,e,hw⟩:=Tf (x0:=d) hT (show s≤1000 by omega) ht hn T.length 0 0 d (by omega) (by omega) (by omega) (Wst.start h hc _ T)
 refine ⟨d1,?_,by rw [A5n (DkS.ofOk hw.ok),hw.flush h]⟩
 unfold Y5
 rw [Jy hD,ob,T9,ob,if_pos (by unfold inR; simp; omega),T9,ob,C0 (n:=(d.Sectors.length:Int) - 1) (by omega) (by omega)]
 rw [if_pos (by unfold inR; simp; omega),ob,if_neg (by simp),ob]
 have e':iter (K2 (s:Int) d) ((t:Int),T,d.Sectors,d.Cache)=_:=e
 rw [e']; rfl
theorem A1y {d:TDisk} (h:E0 d=true) (hc:d.Cache=[]) {T:List UInt8} {no t:Nat} (hno:no≤10) (hs:16+8*no≤d.Sectors.length) (ht:t+T.length≤256) :
  ∃ d1,K8 d (no:Int) (t:Int) T=some (d1,true)∧K1 d1=some (poke d (256*(no+1)+t) T):=by
 obtain ⟨d1,e1,e2⟩:=A73 h hc (T:=T) (s:=8+8*no) (t:=t) (by omega) (by omega) (by omega) (by omega)
 refine ⟨d1,?_,by rw [e2]; congr 2; omega⟩
 unfold K8 W6
 rw [T9,ob,if_pos (by unfold inR; simp; omega),T9,ob,if_pos (by unfold inR; simp; omega)]
 rw [if_neg (by rw [C0 (by omega) (by omega)]; simp; omega),ob,if_neg (by simp)]
 simp only [T9,ob]
 rw [if_pos (by unfold inR; simp; omega),ob,C0 (n:=(no:Int)*8) (by omega) (by omega),C0 (by omega) (by omega),show (8:Int)+(no:Int)*8=((8+8*no:Nat):Int) by omega,e1]
 rfl
theorem A8j {s:TSeg} (h:s.Items.length≤1048576):K6 s s=some true:=by
 unfold K6
 simp only [bne_self_eq_false,Bool.false_eq_true,if_false,ob]
 rw [El (n:=s.Items.length) h]
 ·rfl
 ·intro i hi
  unfold P1
  simp [at?_nat hi,hi,C4 (show i<9223372036854775807 by omega)]
 ·unfold P1; simp
theorem A4n {g:TLog} (h:LgN g):Au g g=some true:=by
 have hu:=h.used
 unfold Au
 simp only [bne_self_eq_false,Bool.false_eq_true,if_false,ob]
 rw [El (n:=g.Used.length) hu]
 ·rfl
 ·intro i hi
  unfold Dd
  rw [if_pos (dlt hi),at?_nat hi,ob,ob,A8j ((h.items _ (List.getElem_mem hi)).1),ob,if_pos rfl,C4 (by omega)]
 ·unfold Dd; simp
theorem A97:headT=hdT 1:=rfl
theorem Aak {k:Nat} {g:TLog} (h:5≤k∧k≤8) (e:fmt (k:Int)=(g,true)):Z k g:=by
 have h':5≤k∧k≤11:=by omega
 have ho:=Qa h'
 have hf:=A1z h'
 have hg:g={ log1 k with Disk:=(fixd k).1,Stamp:=1 }:=by
  unfold fmt fmtK at e
  rw [if_pos (by unfold inR; simp; omega),Int.toNat_natCast,if_pos (by rw [ho.1,hf]; rfl)] at e
  exact (congrArg Prod.fst e).symm
 have hT:headT=C8 (hdF 1):=by rw [A97]; exact A2h (by omega)
 have hl:=Ri
 have hc:=(Yb k).2
 have hnd:(newDisk (8+k*8)).Sectors.length=8+k*8:=by simp [newDisk]
 have hused:∀ (j:Nat) (s:TSeg),g.Used[j]?=some s→j=0∧s={ No:=0,Gen:=1,End:=(headT.length:Int),Items:=[] }:=by
  intro j s hs
  rw [hg] at hs
  simp only [log1] at hs
  cases j with
  | zero=>simp only [List.getElem?_cons_zero,qS] at hs; exact ⟨rfl,hs.symm⟩
  | succ j=>simp at hs
 have hB:∀ e,segB { No:=0,Gen:=1,End:=e,Items:=[] }=headT:=by
  intro e; rw [hT]; unfold segB segF; simp
 refine ⟨?_,?_,?_⟩
 ·intro j s hs
  rw [(hused j s hs).2,hB]
 ·intro j s hs
  rw [(hused j s hs).2]; simp
 ·intro j hj i hi
  have hd:g.Disk=poke (poke (newDisk (8+k*8)) 256 headT) 128 (ctOut (checkOf (log1 k))):=by
   rw [hg]; simp only; rw [hf,ho.2]
  rw [hd,Mm (Aad h') (by rw [Ev,hnd]; omega),if_neg (by omega),Mm (A4b h') (by rw [hnd]; omega)]
  have hseg:segAt g j=if j=0 then headT else []:=by
   unfold segAt
   rw [hg]
   simp only [log1]
   cases j with
   | zero=>simp only [List.getElem?_cons_zero,if_pos]; exact hB _
   | succ j=>simp
  have hzero:byteAt (newDisk (8+k*8)) (256*(j+1)+i)=some 0:=by
   unfold byteAt
   rw [A21 rfl]
   have:((newDisk (8+k*8)).Sectors[(256*(j+1)+i) / 32]?).getD []=zero32:=by
    simp only [newDisk]
    rw [List.getElem?_replicate,if_pos (by omega)]; rfl
   rw [this]
   unfold zero32
   rw [List.getElem?_replicate,if_pos (by omega)]
  rw [hseg]
  by_cases c:j=0
  ·subst c
   rw [if_pos rfl]
   by_cases c2:i<headT.length
   ·rw [if_pos (by omega),List.getD_eq_getElem?_getD,qG c2,qG (by omega)]
    simp only [Option.getD_some,qS]
    congr 1; omega
   ·rw [if_neg (by omega),hzero,List.getD_eq_getElem?_getD,List.getElem?_eq_none (by omega)]; rfl
  ·rw [if_neg c,if_neg (by omega),hzero]; rfl
theorem Z.appS {n:Nat} {S0:Nat→List UInt8} {g:TLog} (hw:W n S0 g) (hz:Z n g) {x:TItem} {keep:Int} (hk:0≤keep):Z n (appS n g x keep).2:=by
 rcases Xq n g x keep with ⟨e,_⟩ | ⟨e,_,c⟩ | ⟨T,e,eT,h1,h2,c⟩ | ⟨T,e,eT,h1,h2,c,c'⟩
 ·rw [e]; exact hz
 ·rw [e]; exact hz.openG hw (by omega)
 ·rw [e]
  obtain ⟨i1,i2,i3⟩:=A3m h1
  rw [i1,U0 i2] at eT
  exact hz.appG hw eT i2 i3 c
 ·rw [e]
  obtain ⟨i1,i2,i3⟩:=A3m h1
  have hu:g.Used.length<n:=by omega
  have e4:frT (V.openG g) (E5 x (V.hd g).Gen).1=E4 (itF x (V.hd (V.openG g)).Gen):=by
   unfold frT; rw [i1]; rfl
  rw [e4] at eT h2
  have i4:D6 (itF x (V.hd (V.openG g)).Gen)=true:=by
   unfold E4 at h2
   split at h2
   ·assumption
   ·cases h2
  rw [U0 i4] at eT
  exact (hz.openG hw hu).appG (hw.openG hu) eT i4 i3 c
theorem A7g {b:List Int} (hb:b.length≤1048576):∃ g,Co b=some g∧∃ n,(5≤n∧n≤8)∧W n (first8 n) g∧(B7 g).length≤33∧Z n g:=by
 obtain ⟨h,e⟩:=A54 hb
 unfold Co
 rw [e,ob]
 exact Dr.get (A68 (Q:=Z) (fun k g hk e _=>Aak hk e) (fun k g x hw _ hz _ _=>hz.appS hw (by omega)) (iok0 hb)) fun g i h hg _=>⟨g,rfl,hg⟩
theorem A9b {d:TDisk} (h:DkS d) (no:Int):U3 d no=some (segOf d no):=by
 have hc:=Tx h no
 unfold U3
 rw [A5f h,ob,Wl h,ob,A4h hc]
 ·rfl
 ·intro i o hi
  unfold Ec
  rw [if_pos (dlt hi),at?_nat hi,ob,A07 (A9l (List.getElem_mem hi)),ob,C4 (by omega)]
 ·intro o; unfold Ec; simp
theorem A4m {l:List TItem} {gen:Int} (h:∀ x∈l,D6 (itF x gen)=true∧recOk x.Rec=true):segItems (l.map fun x=>itF x gen)=l:=by
 induction l with
 | nil=>rfl
 | cons x l ih =>
  have hx:=h x List.mem_cons_self
  have ih:=ih fun y hy=>h y (List.mem_cons_of_mem _ hy)
  unfold segItems at ih ⊢
  rw [List.map_cons,List.flatMap_cons,ih]
  unfold itI
  rw [Ks hx.1 hx.2]; rfl
theorem Qg {g:TLog} (hD:DkS g.Disk) (h:LgN g):G6 g=some g:=by
 have hul:=h.used
 unfold G6
 rw [Z4 hD,ob]
 have:=J6 (step:=U6 g) (fun i=>((i:Int),g.Used.take i)) g.Used.length (r:=g.Used) ?_ ?_
 ·have e:iter (U6 g) (0,[])=some g.Used:=by simpa using this
  rw [e]; rfl
 ·intro i hi
  have hx:=(h.items _ (List.getElem_mem hi)).1
  unfold U6
  rw [if_pos (dlt hi),at?_nat hi,ob,app?_ok (by simp; omega) (by simp; omega),ob,app?_ok (by simp; omega) (by simp; omega),ob,C4 (by omega),List.take_succ_eq_append_getElem hi]
  rfl
 ·unfold U6; simp
theorem A6s {α β ρ:Type} {l:List α} {m:List β} (hl:l.length=m.length) {q:α→β→Bool} {step:Int→Option (Int ⊕ ρ)} {bad good:ρ} (h1:∀ (i:Nat) (h:i<l.length) (h':i<m.length),step (i:Int)=if q l[i] m[i] then some (.inl ((i+1:Nat):Int)) else some (.inr bad)) (h2:step (l.length:Int)=some (.inr good)):iter step 0=some (if (l.zip m).all (fun p=>q p.1 p.2) then good else bad):=by
 have hz:(l.zip m).length=l.length:=by simp [hl]
 have h:=Ka (l:=l.zip m) (k:=l.length) (by omega) (q:=fun p=>!q p.1 p.2) (step:=step) (bad:=bad) (good:=good) (by
  intro i h _
  rw [h1 i (by omega) (by omega),List.getElem_zip]
  cases q l[i] m[i] <;> rfl) h2
 rw [h]
 have e:(l.zip m).take l.length=l.zip m:=by rw [← hz,List.take_length]
 rw [e]
 have e2:(l.zip m).any (fun p=>!q p.1 p.2)=!((l.zip m).all fun p=>q p.1 p.2):=by
  rw [List.all_eq_not_any_not,Bool.not_not]
 rw [e2]
 cases (l.zip m).all fun p=>q p.1 p.2 <;> rfl
def itemsEq (l m:List TItem):Bool:=(l.length==m.length)&&(l.zip m).all fun p=>itemEq p.1 p.2
def segEq (a b:TSeg):Bool:=a.No==b.No&&(a.Gen==b.Gen&&(a.End==b.End&&itemsEq a.Items b.Items))
def SegN (x:TSeg):Prop:=x.Items.length≤1048576
theorem A2r {a b:TSeg} (ha:SegN a):K6 a b=some (segEq a b):=by
 unfold SegN at ha
 unfold K6 segEq itemsEq
 by_cases c1:a.No=b.No
 ·by_cases c2:a.Gen=b.Gen
  ·by_cases c3:a.End=b.End
   ·by_cases c4:a.Items.length=b.Items.length
    ·have h:=A6s c4 (q:=itemEq) (step:=P1 a b) (bad:=.inl false) (good:=.inr ()) (by
      intro i h h'
      unfold P1
      simp only [dlt h,if_true,at?_nat h,at?_nat h',ob,C4 (show i<9223372036854775807 by omega)]
      show (if (!itemEq a.Items[i] b.Items[i])=true then _ else _)=_
      cases itemEq a.Items[i] b.Items[i] <;> rfl) (by unfold P1; simp)
     simp only [c1,c2,c3,c4,bne_self_eq_false,Bool.false_eq_true,if_false,ob,h,beq_self_eq_true,Bool.true_and]
     cases (a.Items.zip b.Items).all fun p=>itemEq p.1 p.2 <;> rfl
    ·have c4':¬ ((a.Items.length:Int)=b.Items.length):=by omega
     simp [c1,c2,c3,c4,c4']
   ·simp [c1,c2,c3]
  ·simp [c1,c2]
 ·simp [c1]
theorem A5o {l:List TItem}:itemsEq l l=true:=by
 unfold itemsEq
 rw [Bool.and_eq_true]
 refine ⟨by simp,?_⟩
 rw [List.all_eq_true]
 intro p hp
 obtain ⟨i,hi,rfl⟩:=List.mem_iff_getElem.1 hp
 simp [itemEq]
theorem A1p {q:Nat→Bool}:∀ n:Nat,(∃ i,i<n∧q i=false)→∃ k,k<n∧q k=false∧∀ i,i<k→q i=true
 | 0,⟨i,h,_⟩=>absurd h (by omega)
 | n+1,⟨i,h,e⟩=>by
  by_cases c:∃ i,i<n∧q i=false
  ·obtain ⟨k,h1,h2,h3⟩:=A1p n c
   exact ⟨k,by omega,h2,h3⟩
  ·have hi:i=n:=by
    by_cases c2:i<n
    ·exact absurd ⟨i,c2,e⟩ c
    ·omega
   subst hi
   refine ⟨i,by omega,e,fun j hj=>?_⟩
   cases hq:q j
   ·exact absurd ⟨j,hj,hq⟩ c
   ·rfl
theorem Jn {n:Nat} {q:Nat→Bool} {step:Int→Option (Int ⊕ (Bool ⊕ Unit))} (hn:n≤1048576) (h1:∀ i:Nat,i<n→step (i:Int)=some (if q i then .inl ((i+1:Nat):Int) else .inr (.inl false))) (h2:step (n:Int)=some (.inr (.inr ()))):iter step 0=some (if (List.range n).all q then .inr () else .inl false):=by
 by_cases c:∃ i,i<n∧q i=false
 ·obtain ⟨k,k1,k2,k3⟩:=A1p n c
  have ha:(List.range n).all q=false:=by
   rw [List.all_eq_false]
   exact ⟨k,List.mem_range.2 k1,by simp [k2]⟩
  rw [ha]
  exact J6 (step:=step) (fun i=>(i:Int)) k (fun i hi=>by rw [h1 i (by omega),k3 i hi]; rfl) (by rw [h1 k k1,k2]; rfl)
 ·have hq:∀ i,i<n→q i=true:=by
   intro i hi
   cases h:q i
   ·exact absurd ⟨i,hi,h⟩ c
   ·rfl
  have ha:(List.range n).all q=true:=by
   rw [List.all_eq_true]
   exact fun i hi=>hq i (List.mem_range.1 hi)
  rw [ha]
  exact El hn (fun i hi=>by rw [h1 i hi,hq i hi]; rfl) h2
def Cl (d:TDisk) (s:TSeg):Prop:=∃ gn e,segGen (segT d s.No)=gn∧(1≤gn∧gn≤1000000000)∧segFr (segT d s.No)=(s.Items.map fun x=>itF x gn,e)∧e≤256∧∀ x∈s.Items,D6 (itF x gn)=true∧recOk x.Rec=true
def onS (d:TDisk) (s:TSeg):Bool:=segGen (segT d s.No)==s.Gen&&((segFr (segT d s.No)).2:Int)==s.End
theorem A3b {d:TDisk} (hD:DkS d) {s:TSeg} (hl:s.Items.length≤1000) (h:Cl d s):U4 d s=some (onS d s):=by
 obtain ⟨gn,e,r1,r3,r2,_,hgood⟩:=h
 have hcnt:=Tx hD s.No
 unfold U4 onS
 rw [Zp hD,ob,Mh hD,ob,r1,r2]
 dsimp only
 by_cases c1:gn=s.Gen
 ·rw [if_neg (by simp [c1]),if_neg (by simp; omega)]
  by_cases c2:(e:Int)=s.End
  ·rw [if_neg (by simp [c2]),if_neg (by simp),ob,if_neg (by simp),El (n:=s.Items.length) (by omega)]
   ·simp [c1,c2]
   ·intro i hi
    have hx:=hgood _ (List.getElem_mem hi)
    have hb:=(R1 hx.1).2.2.2
    unfold X0
    simp only [List.length_map]
    rw [if_pos (dlt hi),at?_nat (by simpa using hi),ob,List.getElem_map,Lo (by omega),ob,Ks hx.1 hx.2]
    simp [at?_nat hi,C4 (show i<9223372036854775807 by omega)]
   ·unfold X0
    simp
  ·rw [if_pos (by simpa using c2),ob,if_pos rfl]
   simp [c2]
 ·rw [if_pos (by simpa using c1),ob,if_pos rfl]
  simp [c1]
theorem A5r {d:TDisk} (hD:DkS d) {s:TSeg} (hl:s.Items.length≤1000) (h:Cl d s):((U3 d s.No).bind fun v=>K6 s v)=some (onS d s):=by
 obtain ⟨gn,e,r1,r3,r2,_,hgood⟩:=h
 rw [A9b hD,ob,A2r (by unfold SegN; omega)]
 congr 1
 unfold segEq segOf onS
 rw [r1,r2]
 dsimp only
 rw [A4m hgood,A5o]
 simp only [beq_self_eq_true,Bool.true_and,Bool.and_true]
 rw [Bool.eq_iff_iff]
 simp only [Bool.and_eq_true,beq_iff_eq]
 omega
structure M (n:Nat) (g:TLog):Prop where
 rng:5≤n∧n≤8
 ok:E0 g.Disk=true
 sec:g.Disk.Sectors.length=8+8*n
 cl:g.Disk.Cache=[]→∀ s∈g.Used,Cl g.Disk s
 no:∀ s∈g.Used,0≤s.No∧s.No<(n:Int)
 len:g.Used.length≤11
 its:(B7 g).length≤33∧∀ x∈B7 g,RecD x.Rec
 segs:0≤g.Segs∧g.Segs≤11
theorem M.dk {n:Nat} {g:TLog} (h:M n g):DkS g.Disk:=DkS.ofOk h.ok
theorem M.segLen {n:Nat} {g:TLog} (h:M n g) {s:TSeg} (hs:s∈g.Used):s.Items.length≤33:=by
 have:s.Items.length≤(B7 g).length:=by
  unfold B7
  rw [List.length_flatMap]
  exact Xl _ hs
 have:=h.its.1
 omega
theorem M.szI {n:Nat} {g:TLog} (h:M n g):SzI (B7 g):=⟨by have:=h.its.1; omega,fun y hy=>⟨(h.its.2 y hy).sz⟩⟩
theorem M.lgn {n:Nat} {g:TLog} (h:M n g):LgN g:=by
 refine ⟨by have:=h.len; omega,fun s hs=>⟨by have:=h.segLen hs; omega,fun y hy=>⟨(h.its.2 y (List.mem_flatMap.2 ⟨s,hs,hy⟩)).sz⟩⟩,?_⟩
 have:=h.its.1
 unfold B7 at this
 rw [List.length_flatMap] at this
 omega
theorem M.segsV {n:Nat} {g:TLog} (h:M n g):w64 (Int.tdiv (w64 ((g.Disk.Sectors.length:Int) - 8)) 8)=(n:Int):=by
 have hn:=h.rng
 have hs:=h.sec
 rw [C0 (n:=(g.Disk.Sectors.length:Int) - 8) (by omega) (by omega),Int.tdiv_eq_ediv_of_nonneg (by omega),C0 (by omega) (by omega)]
 omega
def baseL (n:Nat) (g:TLog):Bool:=g.Disk.Cache.length==0&&(g.Segs==(n:Int)&&(inR (g.Used.length:Int) 1 g.Segs&&(inR g.NextGen 1 1000000000&&(inR g.NextSeq 1 1000000000&&(inR g.NextValid 1 1000000000&&inR g.Stamp 1 1000000000)))))
def ascL (g:TLog) (i:Nat):Bool:=i==0||!decide (((g.Used[i - 1]?).getD { No:=0,Gen:=0,End:=0,Items:=[] }).Gen≥((g.Used[i]?).getD { No:=0,Gen:=0,End:=0,Items:=[] }).Gen)
def sg (g:TLog) (i:Nat):TSeg:=(g.Used[i]?).getD { No:=0,Gen:=0,End:=0,Items:=[] }
def chkL (g:TLog) (i:Nat):Bool:=inR (sg g i).No 0 (g.Segs - 1)&&(!decide ((sg g i).Gen≥g.NextGen)&&(ascL g i&&(onS g.Disk (sg g i)&&!(g.Used.take i).any fun y=>y.No==(sg g i).No)))
def badI (g:TLog) (y:TItem):Bool:=decide (y.Seq≥g.NextSeq)||decide (y.Rec.Valid≥g.NextValid)
def L (n:Nat) (g:TLog):Bool:=baseL n g&&((List.range g.Used.length).all (fun i=>chkL g i&&!(sg g i).Items.any (badI g))&&itemsOk (B7 g))
theorem A1w {g:TLog} {i:Nat} (h:i<g.Used.length):sg g i=g.Used[i]:=by unfold sg; rw [qG h]; rfl
theorem Lp {n:Nat} {g:TLog} (h:M n g):P8 g=some (L n g):=by
 have hD:=h.dk
 have hn:=h.rng
 have hl:=h.len
 have a1:inR (n:Int) 5 11=true:=Df.2 (by omega)
 unfold P8 Ea L baseL
 simp only [T9]
 rw [Gg hD,h.ok,ob,if_pos rfl]
 by_cases c1:g.Disk.Cache.length=0
 ·rw [if_neg (by simp [c1])]
  have b1:(g.Disk.Cache.length==0)=true:=by simp [c1]
  rw [b1]
  simp only [h.segsV,ob,a1,if_true]
  by_cases c2:g.Segs=(n:Int)
  ·rw [if_neg (by simp; omega),if_neg (by simp [c2])]
   have b2:(g.Segs==(n:Int))=true:=by simp [c2]
   rw [b2]
   cases b3:inR (g.Used.length:Int) 1 g.Segs
   ·rfl
   cases b4:inR g.NextGen 1 1000000000
   ·rfl
   cases b5:inR g.NextSeq 1 1000000000
   ·rfl
   cases b6:inR g.NextValid 1 1000000000
   ·rfl
   cases b7:inR g.Stamp 1 1000000000
   ·rfl
   simp only [ob,if_true,Bool.false_eq_true,if_false,Bool.true_and]
   rw [Jn (n:=g.Used.length) (q:=fun i=>chkL g i&&!(sg g i).Items.any (badI g)) (by omega)]
   ·rw [ob]
    cases hq:(List.range g.Used.length).all fun i=>chkL g i&&!(sg g i).Items.any (badI g)
    ·rfl
    ·simp only [if_true,Sum.elim_inr,Bool.true_and]
     rw [Ha h.lgn,ob,Kt h.szI]; rfl
   ·intro i hi
    have hmem:=List.getElem_mem hi
    have hon:=A3b hD (by have:=h.segLen hmem; omega) (h.cl (List.eq_nil_of_length_eq_zero c1) _ hmem)
    have hk:D4 (g.Used.take i) g.Used[i]=some ((g.Used.take i).any fun y=>y.No==g.Used[i].No) :=
     W4 (q:=fun y=>y.No==g.Used[i].No) (by simp; omega) (fun y _=>rfl)
    have hit:D2 g.Used[i].Items g=some (g.Used[i].Items.any (badI g)) :=
     W0 (q:=badI g) (by have:=h.segLen hmem; omega) (fun y _=>by
      unfold P2 badI
      cases decide (y.Seq≥g.NextSeq) <;> rfl)
    have hsub:=sub?_take (l:=g.Used) (i:=i) (by omega)
    have w1:w64 (g.Segs - 1)=g.Segs - 1:=C0 (by omega) (by omega)
    unfold Z0 chkL ascL
    rw [A1w hi]
    simp only [T9]
    rw [if_pos (dlt hi),at?_nat hi,ob,ob,w1,hon,hsub]
    simp only [ob,hk,hit,qG hi,Option.getD_some]
    cases inR g.Used[i].No 0 (g.Segs - 1)
    ·rfl
    simp only [if_true,Bool.true_and]
    cases decide (g.Used[i].Gen≥g.NextGen)
    ·by_cases c:i=0
     ·subst c
      simp only [Bool.false_eq_true,if_false,Bool.not_false,Bool.true_and]
      rw [if_neg (by simp)]
      cases onS g.Disk g.Used[0]
      ·rfl
      cases (g.Used.take 0).any fun y=>y.No==g.Used[0].No
      ·cases g.Used[0].Items.any (badI g) <;> rfl
      ·rfl
     ·have w2:w64 ((i:Int) - 1)=((i - 1:Nat):Int):=by rw [C0 (by omega) (by omega)]; omega
      have e0:(i==0)=false:=by simp [c]
      simp only [Bool.false_eq_true,if_false,Bool.not_false,Bool.true_and]
      rw [if_pos (by simp; omega),w2,at?_nat (show i - 1<g.Used.length by omega),ob,qG (show i - 1<g.Used.length by omega),e0]
      simp only [Option.getD_some,Bool.false_or]
      cases decide (g.Used[i - 1].Gen≥g.Used[i].Gen)
      ·simp only [Bool.false_eq_true,if_false,Bool.not_false,Bool.true_and]
       cases onS g.Disk g.Used[i]
       ·rfl
       cases (g.Used.take i).any fun y=>y.No==g.Used[i].No
       ·cases g.Used[i].Items.any (badI g)
        ·simp only [if_true,ob,Bool.false_eq_true,if_false,Bool.not_false,Bool.true_and,C4 (show i<9223372036854775807 by omega)]
        ·rfl
       ·rfl
      ·rfl
    ·rfl
   ·unfold Z0
    simp
  ·by_cases c3:g.Segs=0
   ·rw [if_pos (by simp [c3]),ob,if_pos rfl]
    have b2:(g.Segs==(n:Int))=false:=by simp [c2]
    rw [b2]; rfl
   ·rw [if_neg (by simp [c3]),if_pos (by simp [c2]),ob,if_pos rfl]
    have b2:(g.Segs==(n:Int))=false:=by simp [c2]
    rw [b2]; rfl
 ·rw [if_pos (by simp; exact fun e=>c1 (by rw [e]; rfl)),ob,if_pos rfl]
  have b1:(g.Disk.Cache.length==0)=false:=by simp; exact fun e=>c1 (by rw [e]; rfl)
  rw [b1]; rfl
theorem A5i {d:TDisk} (hD:DkS d) {s:TSeg} (hl:s.Items.length≤1000) (h:Cl d s):∃ v,U3 d s.No=some v∧K6 s v=some (onS d s) :=
 Option.bind_eq_some_iff.1 (A5r hD hl h)
theorem A49 (g:TLog) (k:Int):∀ i:Nat,i≤g.Used.length→(List.range i).all (fun j=>!((sg g j).No==k))=!(g.Used.take i).any fun y=>y.No==k
 | 0,_=>rfl
 | i+1,h=>by
  rw [List.range_succ,List.all_append,A49 g k i (by omega),List.take_succ_eq_append_getElem (by omega),List.any_append,← A1w (by omega)]
  simp
theorem A3a {α:Type} {q:Nat→Bool} {p:α→Bool}:∀ {l:List α},(∀ i (h:i<l.length),q i=!p l[i])→(List.range l.length).all q=!l.any p:=by
 intro l h
 rw [Bool.eq_iff_iff,List.all_eq_true,Bool.not_eq_true',List.any_eq_false]
 constructor
 ·intro a x hx
  obtain ⟨i,hi,e⟩:=List.getElem_of_mem hx
  have:=a i (List.mem_range.2 hi)
  rw [h i hi,e] at this
  simpa using this
 ·intro a i hi
  have hi':=List.mem_range.1 hi
  rw [h i hi']
  simpa using a _ (List.getElem_mem hi')
theorem A6h {q r:Nat→Bool}:∀ {l:List Nat},l.all (fun i=>q i&&r i)=(l.all q&&l.all r)
 | []=>rfl
 | a::l=>by
  simp only [List.all_cons,A6h (l:=l)]
  cases q a <;> cases r a <;> cases l.all q <;> rfl
theorem L_eq (n:Nat) (g:TLog):L n g=(baseL n g&&((List.range g.Used.length).all (chkL g)&&(!(B7 g).any (badI g)&&itemsOk (B7 g)))):=by
 have:(List.range g.Used.length).all (fun i=>!(sg g i).Items.any (badI g))=!(B7 g).any (badI g):=by
  rw [A3a (l:=g.Used) (p:=fun s=>s.Items.any (badI g)) (fun i hi=>by rw [A1w hi])]
  unfold B7
  rw [List.any_flatMap]
 unfold L
 rw [A6h,this,Bool.and_assoc]
theorem Lk {n:Nat} {g:TLog} (h:M n g):Ba g=some (L n g):=by
 have hD:=h.dk
 have hn:=h.rng
 have hl:=h.len
 have a1:inR (n:Int) 5 11=true:=Df.2 (by omega)
 rw [L_eq]
 unfold Ba Gb baseL
 simp only [L1]
 rw [Eo hD,h.ok,ob,if_pos rfl]
 by_cases c1:g.Disk.Cache.length=0
 ·rw [if_neg (by simp [c1])]
  have b1:(g.Disk.Cache.length==0)=true:=by simp [c1]
  rw [b1]
  simp only [h.segsV,ob,a1,if_true]
  by_cases c2:g.Segs=(n:Int)
  ·rw [if_neg (by simp; omega),if_neg (by simp [c2])]
   have b2:(g.Segs==(n:Int))=true:=by simp [c2]
   rw [b2]
   cases b3:inR (g.Used.length:Int) 1 g.Segs
   ·rfl
   cases b4:inR g.NextGen 1 1000000000
   ·rfl
   cases b5:inR g.NextSeq 1 1000000000
   ·rfl
   cases b6:inR g.NextValid 1 1000000000
   ·rfl
   cases b7:inR g.Stamp 1 1000000000
   ·rfl
   simp only [ob,if_true,Bool.false_eq_true,if_false,Bool.true_and]
   rw [Jn (n:=g.Used.length) (q:=chkL g) (by omega)]
   ·rw [ob]
    cases hq:(List.range g.Used.length).all (chkL g)
    ·rfl
    ·simp only [if_true,Sum.elim_inr,Bool.true_and]
     have hil:=h.its.1
     rw [Gx h.lgn,ob,Jn (n:=(B7 g).length) (q:=fun i=>!((B7 g)[i]?.map (badI g)).getD false) (by omega)]
     ·rw [ob,A3a (l:=B7 g) (p:=badI g) (fun i hi=>by rw [qG hi]; rfl)]
      cases (B7 g).any (badI g)
      ·simp only [Bool.not_false,if_true,Sum.elim_inr,Bool.true_and]
       rw [A38 h.szI]; rfl
      ·rfl
     ·intro i hi
      unfold Ex
      rw [if_pos (dlt hi),at?_nat hi,qG hi]
      simp only [ob,Option.map_some,Option.getD_some,badI]
      have w3:=C4 (show i<9223372036854775807 by omega)
      by_cases k1:(B7 g)[i].Seq≥g.NextSeq
      ·simp [k1]
      ·by_cases k2:(B7 g)[i].Rec.Valid≥g.NextValid
       ·simp [k1,k2]
       ·simp only [k1,k2,decide_false,Bool.false_eq_true,if_false,ob,Bool.or_self,Bool.not_false,if_true,w3]
     ·unfold Ex; simp
   ·intro i hi
    have hmem:=List.getElem_mem hi
    obtain ⟨v,e1,e2⟩:=A5i hD (by have:=h.segLen hmem; omega) (h.cl (List.eq_nil_of_length_eq_zero c1) _ hmem)
    have hgn:(g.Used[i].Gen==0)=true→onS g.Disk g.Used[i]=false:=by
     intro e
     obtain ⟨gn,_,r1,r2,_⟩:=h.cl (List.eq_nil_of_length_eq_zero c1) _ hmem
     unfold onS
     rw [r1]
     have e':=beq_iff_eq.1 e
     have:(gn==g.Used[i].Gen)=false:=by simp; omega
     rw [this]; rfl
    have w1:w64 (g.Segs - 1)=g.Segs - 1:=C0 (by omega) (by omega)
    have hk:iter (Cm g (i:Int) g.Used[i]) 0=some (if !(g.Used.take i).any (fun y=>y.No==g.Used[i].No) then .inr () else .inl false):=by
     rw [← A49 g g.Used[i].No i (by omega)]
     refine Jn (n:=i) (by omega) ?_ ?_
     ·intro k hk
      unfold Cm
      rw [if_pos (by simpa using hk),at?_nat (by omega),ob,A1w (by omega)]
      cases g.Used[k].No==g.Used[i].No
      ·simp only [Bool.false_eq_true,if_false,Bool.not_false,if_true,C4 (show k<9223372036854775807 by omega)]
      ·rfl
     ·unfold Cm; simp
    unfold Fg chkL ascL
    rw [A1w hi]
    simp only [L1]
    rw [if_pos (dlt hi),at?_nat hi,ob,ob,w1]
    simp only [hk,e1,e2,ob,qG hi,Option.getD_some]
    cases inR g.Used[i].No 0 (g.Segs - 1)
    ·rfl
    simp only [if_true,Bool.true_and]
    by_cases cg:(g.Used[i].Gen==0)=true
    ·rw [hgn cg,if_pos cg]
     simp
    rw [if_neg cg]
    by_cases c4:g.Used[i].Gen≥g.NextGen
    ·simp only [c4,decide_true,if_true,ob,Bool.not_true,Bool.false_and,Bool.false_eq_true,if_false]
    simp only [c4,decide_false]
    simp only [Bool.false_eq_true,if_false,Bool.not_false,Bool.true_and]
    have fin:(if (if onS g.Disk g.Used[i] then false else true)=true then (some (.inr (.inl false)):Option (Int ⊕ (Bool ⊕ Unit))) else (if !(g.Used.take i).any (fun y=>y.No==g.Used[i].No) then (.inr ():Bool ⊕ Unit) else .inl false).elim (fun r=>some (.inr (.inl r))) (fun _=>some (.inl (w64 ((i:Int)+1)))))=some (if onS g.Disk g.Used[i]&&!(g.Used.take i).any (fun y=>y.No==g.Used[i].No) then .inl ((i+1:Nat):Int) else .inr (.inl false)):=by
     cases onS g.Disk g.Used[i]
     ·rfl
     cases (g.Used.take i).any fun y=>y.No==g.Used[i].No
     ·simp only [C4 (show i<9223372036854775807 by omega)]; rfl
     ·rfl
    by_cases c:i=0
    ·subst c
     rw [if_neg (by simp)]
     refine Eq.trans ?_ fin
     cases onS g.Disk g.Used[0] <;> rfl
    ·have w2:w64 ((i:Int) - 1)=((i - 1:Nat):Int):=by rw [C0 (by omega) (by omega)]; omega
     have e0:(i==0)=false:=by simp [c]
     rw [if_pos (by simp; omega),w2,at?_nat (show i - 1<g.Used.length by omega),ob,qG (show i - 1<g.Used.length by omega),e0]
     simp only [Option.getD_some,Bool.false_or]
     cases decide (g.Used[i - 1].Gen≥g.Used[i].Gen)
     ·simp only [Bool.false_eq_true,if_false,Bool.not_false,Bool.true_and]
      refine Eq.trans ?_ fin
      cases onS g.Disk g.Used[i] <;> rfl
     ·rfl
   ·unfold Fg
    simp
  ·by_cases c3:g.Segs=0
   ·rw [if_pos (by simp [c3]),ob,if_pos rfl]
    have b2:(g.Segs==(n:Int))=false:=by simp [c2]
    rw [b2]; rfl
   ·rw [if_neg (by simp [c3]),if_pos (by simp [c2]),ob,if_pos rfl]
    have b2:(g.Segs==(n:Int))=false:=by simp [c2]
    rw [b2]; rfl
 ·rw [if_pos (by simp; omega),ob,if_pos rfl]
  have b1:(g.Disk.Cache.length==0)=false:=by simp; exact fun e=>c1 (by rw [e]; rfl)
  rw [b1]; rfl
structure R (n:Nat) (g:TLog):Prop where
 m:M n g
 cache:g.Disk.Cache=[]
 segs:g.Segs=(n:Int)
 len:1≤g.Used.length∧g.Used.length≤n
 gen:1≤g.NextGen∧g.NextGen≤1000000000
 used:∀ s∈g.Used,(0≤s.No∧s.No<(n:Int))∧(1≤s.Gen∧s.Gen≤1000000000)∧0≤s.End∧s.End≤256
 itsok:itemsOk (B7 g)=true
theorem R.of {n:Nat} {g:TLog} (h:M n g) (e:L n g=true):R n g:=by
 unfold L baseL at e
 simp only [Bool.and_eq_true,beq_iff_eq,List.all_eq_true,Df] at e
 obtain ⟨⟨c1,c2,c3,c4,c5,c6,c7⟩,hq,hi⟩:=e
 have hc:=List.eq_nil_of_length_eq_zero c1
 refine ⟨h,hc,c2,by omega,c4,?_,hi⟩
 intro s hs
 obtain ⟨i,hl,rfl⟩:=List.getElem_of_mem hs
 have:=(hq i (List.mem_range.2 hl)).1
 unfold chkL at this
 rw [A1w hl] at this
 simp only [Bool.and_eq_true] at this
 have ho:=this.2.2.2.1
 obtain ⟨gn,e,r1,r2,r3,r4,_⟩:=h.cl hc _ hs
 unfold onS at ho
 rw [r1,r3] at ho
 simp only [Bool.and_eq_true,beq_iff_eq] at ho
 refine ⟨h.no _ hs,by omega,by omega,by omega⟩
def opX (g:TLog) (no:Nat):TLog:={ g with Disk:=poke g.Disk (256*(no+1)) (hdT g.NextGen),Used:=g.Used++[{ No:=(no:Int),Gen:=g.NextGen,End:=((hdT g.NextGen).length:Int),Items:=[] }],NextGen:=g.NextGen+1 }
def opB (g:TLog) (keep:Int):Option Nat:=if keep<0∨((freeSegs g).length:Int)≤keep∨g.NextGen≥1000000000 then none else some (((freeSegs g)[0]?).getD 0).toNat
theorem A2s {n:Nat} {g:TLog} (h:R n g) {keep:Int} (hk:¬ keep<0) (hc:¬ ((freeSegs g).length:Int)≤keep):∃ k:Nat,k<n∧at? (freeSegs g) 0=some (k:Int)∧(((freeSegs g)[0]?).getD 0).toNat=k:=by
 have hl:0<(freeSegs g).length:=by omega
 have hm:(freeSegs g)[0]∈freeSegs g:=List.getElem_mem hl
 have hm':=hm
 unfold freeSegs at hm'
 rw [List.mem_map] at hm'
 obtain ⟨k,hk',e⟩:=hm'
 rw [List.mem_filter,List.mem_range] at hk'
 have hn:nSegs g=n:=by
  have:=h.m.rng
  unfold nSegs
  rw [h.segs,if_neg (by omega)]; omega
 have e':(freeSegs g)[0]=(k:Int):=e.symm
 refine ⟨k,by omega,?_,?_⟩
 ·rw [show (0:Int)=((0:Nat):Int) from rfl,at?_nat hl,e']
 ·rw [qG hl,Option.getD_some,e']; omega
theorem Zm {n:Nat} {g:TLog} (h:R n g) (keep:Int):Z1 g keep=some (match opB g keep with | none=>(zlog,false) | some no=>(opX g no,true)):=by
 have hl:=h.len
 have hn:=h.m.rng
 have hg:=h.gen
 unfold Z1 opB
 rw [Ps (by omega),ob]
 by_cases c1:keep<0
 ·rw [if_pos (by simpa using c1),ob,if_pos rfl,if_pos (Or.inl c1)]; rfl
 rw [if_neg (by simpa using c1)]
 by_cases c2:((freeSegs g).length:Int)≤keep
 ·rw [if_pos (by simpa using c2),ob,if_pos rfl,if_pos (Or.inr (Or.inl c2))]; rfl
 rw [if_neg (by simpa using c2)]
 by_cases c3:g.NextGen≥1000000000
 ·rw [if_pos (by simp; omega),ob,if_pos rfl,if_pos (Or.inr (Or.inr c3))]; rfl
 rw [if_neg (by simp; omega),ob,if_neg (by simp),if_neg (by omega)]
 obtain ⟨k,hk,e1,e2⟩:=A2s h c1 c2
 rw [e2]
 show (G5 (hdF g.NextGen)).bind _=_
 rw [Cx,ob,e1,ob]
 have ht:=Rc g.NextGen
 obtain ⟨d1,e3,e4⟩:=A1y h.m.ok h.cache (T:=hdT g.NextGen) (no:=k) (t:=0) (by omega) (by rw [h.m.sec]; omega) (by omega)
 show (K8 g.Disk (k:Int) ((0:Nat):Int) (hdT g.NextGen)).bind _=_
 rw [e3,ob,if_neg (by simp),Mg h.m.dk h.m.lgn,ob,e4,ob,ob,app?_ok (by simp; omega) (by simp; omega),ob,C0 (n:=g.NextGen+1) (by omega) (by omega)]
 rfl
theorem Zr {n:Nat} {g:TLog} (h:R n g) (keep:Int):G7 g keep=some (match opB g keep with | none=>(false,g) | some no=>(true,opX g no)):=by
 have hl:=h.len
 have hn:=h.m.rng
 have hg:=h.gen
 unfold G7 opB
 show (K7 g).bind _=_
 rw [Gd (by omega),ob]
 by_cases c1:keep<0
 ·rw [if_pos (by simpa using c1),ob,if_pos rfl,if_pos (Or.inl c1)]
 rw [if_neg (by simpa using c1)]
 by_cases c2:((freeSegs g).length:Int)≤keep
 ·rw [if_pos (by simpa using c2),ob,if_pos rfl,if_pos (Or.inr (Or.inl c2))]
 rw [if_neg (by simpa using c2),ob,if_neg (by simp)]
 obtain ⟨k,hk,e1,e2⟩:=A2s h c1 c2
 show (F6 (hdF g.NextGen)).bind _=_
 have ho:=A9e (gen:=g.NextGen) (by omega)
 rw [Q4,ob,e1,ob]
 have ht:=Rc g.NextGen
 obtain ⟨d1,e3,e4⟩:=Mo h.m.ok h.cache (T:=hdT g.NextGen) (no:=k) (t:=0) (by omega) (by rw [h.m.sec]; omega) (by omega)
 show (D9 g.Disk (k:Int) ((0:Nat):Int) (hdT g.NextGen)).bind _=_
 rw [e3,ob,ho,if_neg (by simp),if_neg (by simp)]
 by_cases c3:g.NextGen≥1000000000
 ·rw [if_pos (by simpa using c3),ob,if_pos rfl,if_pos (Or.inr (Or.inr c3))]
 rw [if_neg (by simpa using c3),ob,if_neg (by simp),if_neg (by omega),e2,e4,ob,app?_ok (by simp; omega) (by simp; omega),ob,ob,app?_ok (by simp; omega) (by simp; omega),ob,C0 (n:=g.NextGen+1) (by omega) (by omega)]
 rfl
def resO (n:Nat) (g:TLog) (keep:Int):TLog×Bool:=if L n g then (match opB g keep with | none=>(g,false) | some no=>(opX g no,true)) else (g,false)
theorem A11 {n:Nat} {g:TLog} (h:M n g) (keep:Int):Cf g keep=some (resO n g keep):=by
 unfold Cf resO
 rw [Lp h,ob,Mg h.dk h.lgn]
 cases e:L n g
 ·rfl
 ·rw [if_pos rfl,if_pos rfl,Zm (R.of h e) keep]
  cases opB g keep <;> rfl
theorem A1j {n:Nat} {g:TLog} (h:M n g) (keep:Int):Cu g keep=some (resO n g keep):=by
 unfold Cu resO
 rw [Qg h.dk h.lgn,ob,Lk h,ob]
 cases e:L n g
 ·rfl
 ·rw [if_pos rfl,if_pos rfl]
  show (G7 g keep).bind _=_
  rw [Zr (R.of h e) keep]
  cases opB g keep <;> rfl
theorem A24 {gen:Int} (h:1≤gen∧gen≤1000000000):(hdT gen).length≤39:=by
 rw [A2h h]
 unfold C8 frameT
 have e1:=J7 (n:=(hdF gen).Gen) (by unfold hdF; simp only; omega)
 have e2:=A1k (n:=(hdF gen).Seq) (by simp [hdF]) (by simp [hdF])
 have e3:(vt ((3:Nat):Int)).length=1:=A1k (by omega) (by omega)
 have e4:(hdF gen).Body.length=3:=rfl
 simp only [List.length_append,Dg,e4,e2,e3]
 omega
theorem Gz {f:TFrame} (h:D6 f=true):(C8 f).length≤217:=by
 have:=Fp h
 unfold C8
 rw [List.length_append,Dg]; omega
def fitQ (x y:TItem):Bool:=!(y.Seq==x.Seq)||(y.Seq==x.Seq&&(y.Rec.Kind==x.Rec.Kind&&(y.Rec.Valid==x.Rec.Valid&&(y.Rec.Uid==x.Rec.Uid&&(y.Rec.Next==x.Rec.Next&&(y.Rec.Flags==x.Rec.Flags&&(y.Rec.User==x.Rec.User&&(y.Rec.Name==x.Rec.Name&&(y.Rec.Text==x.Rec.Text&&true)))))))))
theorem A3x {x y:TItem}:fitQ x y=true↔(y.Seq=x.Seq→y=x):=by
 obtain ⟨q,⟨k,v,u,n,f,us,nm,tx⟩⟩:=x
 obtain ⟨q',⟨k',v',u',n',f',us',nm',tx'⟩⟩:=y
 unfold fitQ
 by_cases c:q'=q
 ·simp [c]
 ·simp [c]
def fitB (g:TLog) (x:TItem):Bool:=!(B7 g).any fun y=>!fitQ x y
theorem A9c {g:TLog} {x:TItem}:fitB g x=true↔∀ y∈B7 g,y.Seq=x.Seq→y=x:=by
 unfold fitB
 rw [Bool.not_eq_true',List.any_eq_false]
 constructor
 ·intro h y hy
  have:=h y hy
  exact A3x.1 (by simpa using this)
 ·intro h y hy
  have:=A3x.2 (h y hy)
  simp [this]
theorem A59 {n:Nat} {g:TLog} (h:M n g) (x:TItem):M3 g x=some (fitB g x):=by
 have hil:=h.its.1
 unfold M3 fitB
 rw [Gx h.lgn,ob,Jn (n:=(B7 g).length) (q:=fun i=>!((B7 g)[i]?.map (fun y=>!fitQ x y)).getD false) (by omega)]
 ·rw [ob,A3a (l:=B7 g) (p:=fun y=>!fitQ x y) (fun i hi=>by rw [qG hi]; rfl)]
  cases (B7 g).any fun y=>!fitQ x y
  ·simp only [Bool.not_false,if_true,Sum.elim_inr]
   rw [decide_eq_true (by omega)]
  ·rfl
 ·intro i hi
  have w3:=C4 (show i<9223372036854775807 by omega)
  unfold P3
  rw [if_pos (dlt hi),at?_nat hi,qG hi]
  simp only [ob,Option.map_some,Option.getD_some,Bool.not_not]
  unfold fitQ
  by_cases c:((B7 g)[i].Seq==x.Seq)=true
  ·rw [if_pos c,c]
   simp only [Bool.not_true,Bool.false_or,Bool.true_and,ob]
   generalize ((B7 g)[i].Rec.Kind==x.Rec.Kind&&((B7 g)[i].Rec.Valid==x.Rec.Valid&&((B7 g)[i].Rec.Uid==x.Rec.Uid&&((B7 g)[i].Rec.Next==x.Rec.Next&&((B7 g)[i].Rec.Flags==x.Rec.Flags&&((B7 g)[i].Rec.User==x.Rec.User&&((B7 g)[i].Rec.Name==x.Rec.Name&&((B7 g)[i].Rec.Text==x.Rec.Text&&true))))))))=b
   cases b
   ·rfl
   ·simp only [Bool.not_true,Bool.false_eq_true,if_false,ob,if_true,w3]
  ·rw [if_neg c,ob,if_neg (by simp),w3]
   have:((B7 g)[i].Seq==x.Seq)=false:=by simpa using c
   rw [this]; rfl
 ·unfold P3; simp
theorem Aab {n:Nat} {g:TLog} (h:R n g) {x:TItem} (h1:1≤x.Seq∧x.Seq≤1000000000) (h2:recOk x.Rec=true):itemsOk (B7 g++[x])=fitB g x:=by
 have hil:=h.m.its.1
 have h0:=Lv.1 h.itsok
 rw [Bool.eq_iff_iff,A9c,Lv]
 constructor
 ·rintro ⟨_,_,h3⟩ y hy e
  exact h3 y (List.mem_append_left _ hy) x (by simp) e
 ·intro h3
  refine ⟨by simp; omega,?_,?_⟩
  ·intro y hy
   rcases List.mem_append.1 hy with hy | hy
   ·exact h0.2.1 y hy
   ·rw [List.mem_singleton] at hy; subst hy; exact ⟨h1,h2⟩
  ·intro y hy z hz e
   rcases List.mem_append.1 hy with ky | ky <;> rcases List.mem_append.1 hz with kz | kz
   ·exact h0.2.2 y ky z kz e
   ·rw [List.mem_singleton] at kz; subst kz; exact h3 y ky e
   ·rw [List.mem_singleton] at ky; subst ky; exact (h3 z kz e.symm).symm
   ·rw [List.mem_singleton] at ky kz; rw [ky,kz]
def putX (g:TLog) (x:TItem) (T:List UInt8):TLog:={ g with Disk:=poke g.Disk (256*((hd g).No.toNat+1)+(hd g).End.toNat) T,Used:=g.Used.dropLast++[{ No:=(hd g).No,Gen:=(hd g).Gen,End:=(hd g).End+(T.length:Int),Items:=(hd g).Items++[x] }],NextSeq:=if x.Seq≥g.NextSeq then x.Seq+1 else g.NextSeq,NextValid:=if x.Rec.Valid≥g.NextValid then x.Rec.Valid+1 else g.NextValid }
structure P (n:Nat) (g:TLog):Prop where
 rng:n≤8
 ok:E0 g.Disk=true
 cache:g.Disk.Cache=[]
 sec:g.Disk.Sectors.length=8+8*n
 len:1≤g.Used.length∧g.Used.length≤12
 no:0≤(hd g).No∧(hd g).No<(n:Int)
 fin:0≤(hd g).End
 its:(hd g).Items.length≤1000
theorem A47 {n:Nat} {g:TLog} (h:P n g) {x:TItem} (hx:0≤x.Seq∧x.Seq≤1000000000) (hv:0≤x.Rec.Valid∧x.Rec.Valid≤1000000000) {T:List UInt8} (hT:(hd g).End+(T.length:Int)≤256) :
  ((D9 g.Disk (hd g).No (hd g).End T).bind fun v4=>(if !v4.2 then some (false,g) else (F5 v4.1).bind fun v5=>(app? 96 ([]:List TItem) (hd g).Items).bind fun v6=>(app? 96 v6 ([x]:List TItem)).bind fun v7=>(some (hd g)).bind fun v8=>(some (set' g.Used (w64 ((g.Used.length:Int) - 1)) ({ No:=(hd g).No,Gen:=(hd g).Gen,End:=(hd g).End+(T.length:Int),Items:=v7 }:TSeg))).bind fun v9=>(if decide (x.Seq≥g.NextSeq) then (if decide (x.Rec.Valid≥g.NextValid) then some (true,({ Disk:=({ Sectors:=v5.Sectors,Cache:=v5.Cache }:TDisk),Segs:=g.Segs,Used:=v9,NextGen:=g.NextGen,NextSeq:=w64 (x.Seq+1),Stamp:=g.Stamp,NextValid:=w64 (x.Rec.Valid+1) }:TLog)) else some (true,({ Disk:=({ Sectors:=v5.Sectors,Cache:=v5.Cache }:TDisk),Segs:=g.Segs,Used:=v9,NextGen:=g.NextGen,NextSeq:=w64 (x.Seq+1),Stamp:=g.Stamp,NextValid:=g.NextValid }:TLog))) else (if decide (x.Rec.Valid≥g.NextValid) then some (true,({ Disk:=({ Sectors:=v5.Sectors,Cache:=v5.Cache }:TDisk),Segs:=g.Segs,Used:=v9,NextGen:=g.NextGen,NextSeq:=g.NextSeq,Stamp:=g.Stamp,NextValid:=w64 (x.Rec.Valid+1) }:TLog)) else some (true,({ Disk:=({ Sectors:=v5.Sectors,Cache:=v5.Cache }:TDisk),Segs:=g.Segs,Used:=v9,NextGen:=g.NextGen,NextSeq:=g.NextSeq,Stamp:=g.Stamp,NextValid:=g.NextValid }:TLog))))):Option (Bool×TLog))=some (true,putX g x T):=by
 have hn:=h.rng
 have hl:=h.len
 have hno:=h.no
 have hfin:=h.fin
 have hit:=h.its
 obtain ⟨d1,e1,e2⟩:=Mo h.ok h.cache (T:=T) (no:=(hd g).No.toNat) (t:=(hd g).End.toNat) (by omega) (by rw [h.sec]; omega) (by omega)
 have e1':D9 g.Disk (hd g).No (hd g).End T=some (d1,true):=by
  rw [← e1]; congr 1 <;> omega
 rw [e1',ob,if_neg (by simp),e2,ob,app?_ok (by simp; omega) (by simp; omega),ob,app?_ok (by simp; omega) (by simp; omega),ob]
 rw [C0 (n:=(g.Used.length:Int) - 1) (by omega) (by omega),show (g.Used.length:Int) - 1=((g.Used.length - 1:Nat):Int) by omega,ob,ob,Ew,Zf hl.1]
 rw [C0 (n:=x.Seq+1) (by omega) (by omega),C0 (n:=x.Rec.Valid+1) (by omega) (by omega)]
 unfold putX
 by_cases c1:x.Seq≥g.NextSeq
 ·rw [if_pos (by simpa using c1),if_pos c1]
  by_cases c2:x.Rec.Valid≥g.NextValid
  ·rw [if_pos (by simpa using c2),if_pos c2]; rfl
  ·rw [if_neg (by simpa using c2),if_neg c2]; rfl
 ·rw [if_neg (by simpa using c1),if_neg c1]
  by_cases c2:x.Rec.Valid≥g.NextValid
  ·rw [if_pos (by simpa using c2),if_pos c2]; rfl
  ·rw [if_neg (by simpa using c2),if_neg c2]; rfl
theorem A4k {n:Nat} {G g:TLog} (h:P n G) {x:TItem} (hx:0≤x.Seq∧x.Seq≤1000000000) (hv:0≤x.Rec.Valid∧x.Rec.Valid≤1000000000) {T:List UInt8} (hT:(hd G).End+(T.length:Int)≤256) :
  ((K8 ({ Sectors:=G.Disk.Sectors,Cache:=G.Disk.Cache }:TDisk) (hd G).No (hd G).End T).bind fun v14=>(if !v14.2 then some (({ Disk:=({ Sectors:=g.Disk.Sectors,Cache:=g.Disk.Cache }:TDisk),Segs:=g.Segs,Used:=g.Used,NextGen:=g.NextGen,NextSeq:=g.NextSeq,Stamp:=g.Stamp,NextValid:=g.NextValid }:TLog),false) else (K1 v14.1).bind fun v15=>(app? 96 (hd G).Items [x]).bind fun v16=>(some (set' G.Used (w64 ((G.Used.length:Int) - 1)) ({ No:=(hd G).No,Gen:=(hd G).Gen,End:=w64 ((hd G).End+(T.length:Int)),Items:=v16 }:TSeg))).bind fun v17=>some (({ Disk:=({ Sectors:=v15.Sectors,Cache:=v15.Cache }:TDisk),Segs:=G.Segs,Used:=v17,NextGen:=G.NextGen,NextSeq:=(if w64 (x.Seq+1)>G.NextSeq then w64 (x.Seq+1) else G.NextSeq),Stamp:=G.Stamp,NextValid:=(if w64 (x.Rec.Valid+1)>G.NextValid then w64 (x.Rec.Valid+1) else G.NextValid) }:TLog),true)):Option (TLog×Bool))=some (putX G x T,true):=by
 have hn:=h.rng
 have hl:=h.len
 have hno:=h.no
 have hfin:=h.fin
 have hit:=h.its
 obtain ⟨d1,e1,e2⟩:=A1y h.ok h.cache (T:=T) (no:=(hd G).No.toNat) (t:=(hd G).End.toNat) (by omega) (by rw [h.sec]; omega) (by omega)
 have e1':K8 G.Disk (hd G).No (hd G).End T=some (d1,true):=by
  rw [← e1]; congr 1 <;> omega
 rw [e1',ob,if_neg (by simp),e2,ob,app?_ok (by simp; omega) (by simp; omega),ob,ob,C0 (n:=(G.Used.length:Int) - 1) (by omega) (by omega),show (G.Used.length:Int) - 1=((G.Used.length - 1:Nat):Int) by omega,Ew,Zf hl.1]
 rw [C0 (n:=x.Seq+1) (by omega) (by omega),C0 (n:=x.Rec.Valid+1) (by omega) (by omega),C0 (n:=(hd G).End+_) (by omega) (by omega)]
 unfold putX
 congr 2
 have s1:(if x.Seq+1>G.NextSeq then x.Seq+1 else G.NextSeq)=(if x.Seq≥G.NextSeq then x.Seq+1 else G.NextSeq):=by
  split <;> split <;> omega
 have s2:(if x.Rec.Valid+1>G.NextValid then x.Rec.Valid+1 else G.NextValid)=(if x.Rec.Valid≥G.NextValid then x.Rec.Valid+1 else G.NextValid):=by
  split <;> split <;> omega
 rw [s1,s2]
def appL (g:TLog) (x:TItem) (keep:Int):Option TLog :=
 if (E5 x (hd g).Gen).2=false then none else if x.Seq≥1000000000 then none
 else if (hd g).End+((C8 (itF x (hd g).Gen)).length:Int)>256 then (match opB g keep with | none=>none | some no=>some (putX (opX g no) x (C8 (itF x g.NextGen))))
 else some (putX g x (C8 (itF x (hd g).Gen)))
theorem A0e (g:TLog) (no:Nat):hd (opX g no)={ No:=(no:Int),Gen:=g.NextGen,End:=((hdT g.NextGen).length:Int),Items:=[] }:=A6f rfl
theorem R.p {n:Nat} {g:TLog} (h:R n g):P n g:=by
 have hl:=h.len
 have hn:=h.m.rng
 have hm:hd g∈g.Used:=qM (Wj hl.1)
 have hu:=h.used _ hm
 have:=h.m.segLen hm
 exact ⟨by omega,h.m.ok,h.cache,h.m.sec,by omega,hu.1,by omega,by omega⟩
theorem A4l {n:Nat} {g:TLog} (h:R n g) {keep:Int} {no:Nat} (e:opB g keep=some no):no<n∧g.NextGen<1000000000:=by
 unfold opB at e
 split at e
 ·cases e
 ·rename_i c
  obtain ⟨k,hk,_,e2⟩:=A2s h (keep:=keep) (by omega) (by omega)
  rw [e2] at e
  cases e
  omega
theorem R.px {n:Nat} {g:TLog} (h:R n g) {no:Nat} (hno:no<n):P n (opX g no):=by
 have hl:=h.len
 have hn:=h.m.rng
 refine ⟨by omega,Tn h.m.ok _ _,rfl,?_,?_,?_,?_,?_⟩
 ·unfold opX; simp only; rw [Ev]; exact h.m.sec
 ·unfold opX; simp only [List.length_append,List.length_singleton]; omega
 ·rw [A0e]; simp only; omega
 ·rw [A0e]; simp only; omega
 ·rw [A0e]; simp
theorem Wk {x:TItem} {a b:Int} (h:D6 (itF x a)=true) (hb:1≤b∧b≤1000000000):D6 (itF x b)=true:=by
 unfold D6 itF at h ⊢
 simp only [Bool.and_eq_true] at h ⊢
 exact ⟨⟨Df.2 hb,h.1.2⟩,h.2⟩
theorem Vu {g:TLog} (h:1≤g.Used.length∧g.Used.length≤12):at? g.Used (w64 ((g.Used.length:Int) - 1))=some (hd g):=by
 rw [C0 (n:=(g.Used.length:Int) - 1) (by omega) (by omega),show (g.Used.length:Int) - 1=((g.Used.length - 1:Nat):Int) by omega,at?_eq (Wj h.1)]
theorem A1u {x:TItem} {gen:Int} (h:D6 (itF x gen)=true) (hr:recOk x.Rec=true):(1≤x.Seq∧x.Seq≤1000000000)∧1≤x.Rec.Valid∧x.Rec.Valid≤9999:=⟨(R1 h).2.1,Wg hr⟩
theorem A2m {n:Nat} {g:TLog} (h:R n g) {x:TItem} (hx:RecS x.Rec) (keep:Int):F9 g x keep=some (match appL g x keep with | none=>(false,g) | some G=>(true,G)):=by
 have hl:=h.len
 have hn:=h.m.rng
 have hp:=h.p
 have hu:=h.used _ (qM (Wj hl.1))
 unfold F9 appL
 rw [Vu hp.len,ob,Ln hx,ob,Q4,ob]
 cases c1:(E5 x (hd g).Gen).2
 ·rw [if_pos rfl]; rfl
 obtain ⟨i1,i2,i3⟩:=A3m c1
 have hv:=A1u i2 i3
 rw [i1,U0 i2]
 dsimp only
 rw [if_neg (show ¬ ((!true)=true) by simp),if_neg (show ¬ ((!true)=true) by simp),if_neg (show ¬ (true=false) by simp)]
 by_cases c3:x.Seq≥1000000000
 ·rw [if_pos (by simpa using c3),if_pos c3]; rfl
 have l1:=Gz i2
 rw [if_neg (by simpa using c3),if_neg c3,ob,if_neg (by simp),C0 (n:=(hd g).End+_) (by omega) (by omega)]
 by_cases c4:(hd g).End+((C8 (itF x (hd g).Gen)).length:Int)>256
 ·rw [if_pos (by simpa using c4),if_pos c4]
  show (G7 g keep).bind _=_
  rw [Zr h keep]
  cases c5:opB g keep with
  | none=>rfl
  | some no =>
   obtain ⟨k1,k2⟩:=A4l h c5
   have hq:=h.px k1
   have i4:=Wk i2 (b:=g.NextGen) (by have:=h.gen; omega)
   have l2:=Gz i4
   have l3:=A24 (gen:=g.NextGen) (by have:=h.gen; omega)
   have e5:=A0e g no
   rw [ob]
   dsimp only
   rw [if_pos rfl,Vu hq.len,ob]
   have e6:F6 ({ Gen:=(hd (opX g no)).Gen,Seq:=(itF x (hd g).Gen).Seq,Body:=(itF x (hd g).Gen).Body }:TFrame)=some (C8 (itF x g.NextGen),true):=by
    rw [Q4,e5]
    exact congrArg some (U0 i4)
   have hend:(hd (opX g no)).End+((C8 (itF x g.NextGen)).length:Int)≤256:=by rw [e5]; simp only; omega
   have hfin:=hq.fin
   rw [e6,ob]
   dsimp only
   rw [if_neg (by simp),C0 (n:=(hd (opX g no)).End+_) (by omega) (by omega),if_neg (by simpa using hend),ob,if_neg (by simp)]
   exact A47 hq (x:=x) (by omega) (by omega) hend
 ·rw [if_neg (by simpa using c4),if_neg c4]
  exact A47 hp (x:=x) (by omega) (by omega) (by omega)
def resA (n:Nat) (g:TLog) (x:TItem) (keep:Int):TLog×Bool:=if L n g then (if keep<0 then (g,false) else if fitB g x then (match appL g x keep with | none=>(g,false) | some G=>(G,true)) else (g,false)) else (g,false)
theorem Tt {n:Nat} {g:TLog} (h:M n g) {x:TItem} (hx:RecS x.Rec) (keep:Int):X6 g x keep=some (resA n g x keep):=by
 unfold X6 resA
 rw [Qg h.dk h.lgn,ob,Lk h,ob]
 cases e:L n g
 ·rfl
 ·rw [if_pos rfl,if_pos rfl]
  by_cases c:keep<0
  ·rw [if_pos (by simpa using c),if_pos c]; rfl
  ·rw [if_neg (by simpa using c),if_neg c,A59 h,ob]
   cases fitB g x
   ·rfl
   ·rw [if_pos rfl,if_pos rfl]
    show (F9 g x keep).bind _=_
    rw [A2m (R.of h e) hx keep]
    cases appL g x keep <;> rfl
theorem A51 {n:Nat} {g:TLog} (h:R n g):Q7 g=some (hd g):=by
 have hl:=h.len
 unfold Q7
 rw [if_neg (by simp only [beq_iff_eq]; omega),Vu h.p.len]; rfl
theorem A62 {n:Nat} {g:TLog} (h:M n g):∃ s,Q7 g=some s:=by
 have hl:=h.len
 unfold Q7
 by_cases c:g.Used.length=0
 ·rw [if_pos (by simp [c])]; exact ⟨_,rfl⟩
 ·rw [if_neg (by simp only [beq_iff_eq]; omega),Vu (by omega)]; exact ⟨_,rfl⟩
theorem Tz {n:Nat} {g:TLog} (h:M n g) {x:TItem} (hx:RecS x.Rec) (keep:Int):X9 g x keep=some (resA n g x keep):=by
 unfold X9 resA
 rw [Mg h.dk h.lgn,ob,Lp h]
 cases e:L n g
 ·obtain ⟨s,es⟩:=A62 h
  rw [es,ob,Lz hx,ob]; rfl
 have hr:=R.of h e
 have hl:=hr.len
 have hn:=h.rng
 have hp:=hr.p
 have hil:=h.its.1
 have hu:=hr.used _ (qM (Wj hl.1))
 have hmax:(if (hd g).Gen>1 then (hd g).Gen else 1)=(hd g).Gen:=by split <;> omega
 rw [A51 hr,ob,hmax,Lz hx,ob,ob,if_pos rfl,if_pos rfl]
 cases c1:(E5 x (hd g).Gen).2
 ·have:appL g x keep=none:=by unfold appL; rw [if_pos c1]
  rw [this,if_pos (show (!false)=true from rfl),ob,if_pos rfl]
  split
  ·rfl
  ·split <;> rfl
 rw [if_neg (by simp)]
 obtain ⟨i1,i2,i3⟩:=A3m c1
 have hv:=A1u i2 i3
 by_cases c3:x.Seq≥1000000000
 ·have:appL g x keep=none:=by unfold appL; rw [c1,if_neg (by simp),if_pos c3]
  rw [this,if_pos (by simp; omega),ob,if_pos rfl]
  split
  ·rfl
  ·split <;> rfl
 rw [if_neg (by simp; omega)]
 by_cases c2:keep<0
 ·rw [if_pos (by simpa using c2),if_pos c2,ob,if_pos rfl]
 have hszx:SzI (B7 g++[x]):=by
  refine ⟨by simp; omega,fun y hy=>?_⟩
  rcases List.mem_append.1 hy with ky | ky
  ·exact h.szI.2 y ky
  ·rw [List.mem_singleton] at ky; subst ky; exact ⟨⟨hx.user,hx.name,hx.text⟩⟩
 rw [if_neg (by simpa using c2),if_neg c2,Ha h.lgn,ob,app?_ok (by simp; omega) (by simp; omega),ob,Kt hszx,ob,Aab hr hv.1 i3]
 cases fitB g x
 ·rfl
 rw [if_pos rfl,if_pos rfl,ob,if_neg (by simp),ob,ob,A09,ob,i1]
 unfold frameSize appL
 rw [c1,if_neg (show ¬ (true=false) by simp),if_neg c3,U0 i2]
 dsimp only
 have l1:=Gz i2
 rw [C0 (n:=(hd g).End+_) (by omega) (by omega)]
 by_cases c4:(hd g).End+((C8 (itF x (hd g).Gen)).length:Int)>256
 ·rw [if_pos (by simpa using c4),if_pos c4,Zm hr keep]
  cases c5:opB g keep with
  | none=>rfl
  | some no =>
   obtain ⟨k1,k2⟩:=A4l hr c5
   have hq:=hr.px k1
   have i4:=Wk i2 (b:=g.NextGen) (by have:=hr.gen; omega)
   have l2:=Gz i4
   have l3:=A24 (gen:=g.NextGen) (by have:=hr.gen; omega)
   have e5:=A0e g no
   rw [ob]
   dsimp only
   rw [if_neg (by simp),Vu hq.len,ob]
   have e6:G5 ({ Gen:=(hd (opX g no)).Gen,Seq:=(itF x (hd g).Gen).Seq,Body:=(itF x (hd g).Gen).Body }:TFrame)=some (C8 (itF x g.NextGen),true):=by
    rw [Cx,e5]
    exact congrArg some (U0 i4)
   have hend:(hd (opX g no)).End+((C8 (itF x g.NextGen)).length:Int)≤256:=by rw [e5]; simp only; omega
   rw [e6,ob]
   exact A4k hq (x:=x) (by omega) (by omega) hend
 ·rw [if_neg (by simpa using c4),if_neg c4,Vu hp.len,ob]
  have e6:G5 ({ Gen:=(hd g).Gen,Seq:=(itF x (hd g).Gen).Seq,Body:=(itF x (hd g).Gen).Body }:TFrame)=some (C8 (itF x (hd g).Gen),true):=by
   rw [Cx]
   exact congrArg some (U0 i2)
  rw [e6,ob]
  exact A4k hp (x:=x) (T:=C8 (itF x (hd g).Gen)) (by omega) (by omega) (by omega)
theorem A28 {n:Nat} (hn:n≤1048576) (c:Int):M2 (n:Int) c=some ((List.replicate n c).map ofI):=by
 unfold M2
 rw [mk?_ok (by omega) (by omega),ob]
 have h:=A6i (l:=List.replicate n c) (z:=(0:Int)) (step:=L9 (n:Int) c) (by simp; omega) ?_ ?_
 ·rw [List.length_replicate] at h
  rw [h]; rfl
 ·intro i hi o ho
  rw [List.length_replicate] at hi ho
  have hio:i<o.length:=by omega
  unfold L9
  simp only [dlt hi,if_true,at?_nat hio,ob,C4 (show i<9223372036854775807 by omega),Ew,List.getElem_replicate]
 ·intro o
  unfold L9
  simp
theorem tmodB {x n:Int} (h:0≤x) (hn:0<n):0≤Int.tmod x n∧Int.tmod x n<n:=⟨Int.tmod_nonneg _ h,Int.tmod_lt_of_pos _ hn⟩
theorem at?_in {α:Type} {l:List α} {i:Int} (h:0≤i∧i<(l.length:Int)):∃ x,at? l i=some x∧x∈l:=by
 obtain ⟨n,rfl⟩:∃ n:Nat,i=n:=⟨i.toNat,by omega⟩
 exact ⟨_,at?_nat (by omega),List.getElem_mem _⟩
theorem A7q {b:List Int} {i h:Int} (hi:IOk b i):Dr b (Bi ⟨b,i,h⟩) Xp:=by
 unfold Bi
 refine Dr.bind (Q9 hi (by omega) (by omega)) fun k i h hk hi=>Dr.bind (Q9 hi (by omega) (by omega)) fun x i h hx hi=>Dr.bind (A9j hi) fun r i h hr hi=>?_
 have hs:=hr.sz
 have h1:=hs.sUser
 have h2:=hs.sName
 have h3:=hs.sText
 dsimp only
 by_cases k0:(k==0)=true
 ·rw [if_pos k0]; exact Dr.ret hi ⟨h1,h2,h3⟩
 rw [if_neg k0]
 by_cases k1:(k==1)=true
 ·rw [if_pos k1]
  obtain ⟨y,e,_⟩:=at?_in (l:=([0,9999,10000]:List Int)) (tmodB (n:=3) hx.1 (by omega))
  rw [e,ob]; exact Dr.ret hi ⟨h1,h2,h3⟩
 rw [if_neg k1]
 by_cases k2:(k==2)=true
 ·rw [if_pos k2]
  obtain ⟨y,e,_⟩:=at?_in (l:=([0,9999,10000,(-1)]:List Int)) (tmodB (n:=4) hx.1 (by omega))
  rw [e,ob]; exact Dr.ret hi ⟨h1,h2,h3⟩
 rw [if_neg k2]
 by_cases k3:(k==3)=true
 ·rw [if_pos k3]; exact Dr.ret hi ⟨h1,h2,h3⟩
 rw [if_neg k3]
 by_cases k4:(k==4)=true
 ·rw [if_pos k4]
  obtain ⟨y,e,hy⟩:=at?_in (l:=([[],[65],[110,105,110,101,98,121,116,101,115]]:List (List UInt8))) (tmodB (n:=3) hx.1 (by omega))
  rw [e,ob]
  refine Dr.ret hi ⟨?_,h2,h3⟩
  simp only [List.mem_cons,List.not_mem_nil,or_false] at hy
  rcases hy with rfl | rfl | rfl <;> simp
 rw [if_neg k4]
 by_cases k5:(k==5)=true
 ·rw [if_pos k5]
  have ht:=tmodB (x:=x) (n:=2) hx.1 (by omega)
  rw [C0 (by omega) (by omega)]
  obtain ⟨n,hn⟩:∃ n:Nat,100+Int.tmod x 2=n:=⟨(100+Int.tmod x 2).toNat,by omega⟩
  rw [hn,A28 (by omega),ob]
  refine Dr.ret hi ⟨h1,h2,?_⟩
  simp; omega
 rw [if_neg k5]
 by_cases k6:(k==6)=true
 ·rw [if_pos k6]; exact Dr.ret hi ⟨h1,h2,h3⟩
 rw [if_neg k6]
 exact Dr.ret hi hs
def DrP {α β:Type} (b:List Int) (o:Option (α×TL01Cur×List β×Int×Int)) (g:α→List β) (P:α→Prop):Prop:=∃ r i h l lo hi,o=some (r,⟨b,i,h⟩,l,lo,hi)∧sub? l lo hi=some (g r)∧P r∧IOk b i
theorem DrP.bind {α β γ:Type} {b:List Int} {o:Option (γ×TL01Cur)} {P:γ→Prop} {f:γ×TL01Cur→Option (α×TL01Cur×List β×Int×Int)} {g:α→List β} {Q:α→Prop} (h:Dr b o P) (k:∀ r i h,P r→IOk b i→DrP b (f (r,⟨b,i,h⟩)) g Q):DrP b (o.bind f) g Q:=by
 obtain ⟨r,i,h',rfl,hp,hi⟩:=h
 exact k r i h' hp hi
theorem sub?_all {α:Type} {l:List α}:sub? l 0 (l.length:Int)=some l:=by
 have:=sub?_take (l:=l) (i:=l.length) (by omega)
 simpa using this
theorem DrP.ret {α β:Type} {b:List Int} {r:α} {i h:Int} {l:List β} {lo hi':Int} {g:α→List β} {Q:α→Prop} (hi:IOk b i) (hs:sub? l lo hi'=some (g r)) (hq:Q r):DrP b (some (r,(⟨b,i,h⟩:TL01Cur),l,lo,hi')) g Q:=⟨r,i,h,l,lo,hi',rfl,hs,hq,hi⟩
theorem M.of {n:Nat} {S0:Nat→List UInt8} {g:TLog} (hn:5≤n∧n≤8) (hw:W n S0 g) (hz:Z n g) (hm:(B7 g).length≤33):M n g:=by
 have hl:=hw.len
 refine ⟨hn,hw.ok,hw.sec,?_,?_,by omega,⟨hm,A2u hw⟩,by rw [hw.segs]; omega⟩
 ·intro _ s hs
  obtain ⟨j,hj⟩:=List.getElem?_of_mem hs
  have hjl:=(qI hj).1
  obtain ⟨k1,k2,k3,k4⟩:=hw.used j s hj
  obtain ⟨r1,r2⟩:=A4p hw hz hj
  have he:=hz.ends j s hj
  rw [← k1] at r1 r2
  exact ⟨s.Gen,(segB s).length,r1,by omega,r2,by omega,hz.good j s hj⟩
 ·intro s hs
  obtain ⟨j,hj⟩:=List.getElem?_of_mem hs
  have hjl:=(qI hj).1
  have:=(hw.used j s hj).1
  omega
theorem M.new {n:Nat} {g:TLog} (h:M n g) {u:List TSeg} {a b c d e:Int} (hu:∀ s∈u,∃ s'∈g.Used,s'.No=s.No∧s'.Items=s.Items) (hl:u.length≤11) (hi:(u.flatMap fun x=>x.Items).length≤33) (hs:0≤a∧a≤11):M n { Disk:={ Sectors:=g.Disk.Sectors,Cache:=g.Disk.Cache },Segs:=a,Used:=u,NextGen:=b,NextSeq:=c,Stamp:=d,NextValid:=e }:=by
 refine ⟨h.rng,h.ok,h.sec,?_,?_,hl,⟨hi,?_⟩,hs⟩
 ·intro hc s hs
  obtain ⟨s',h1,h2,h3⟩:=hu s hs
  have:=h.cl hc s' h1
  unfold Cl at this ⊢
  rw [← h2,← h3]
  exact this
 ·intro s hs
  obtain ⟨s',h1,h2,_⟩:=hu s hs
  rw [← h2]
  exact h.no s' h1
 ·intro y hy
  obtain ⟨s,h1,h2⟩:=List.mem_flatMap.1 hy
  obtain ⟨s',h3,_,h4⟩:=hu s h1
  exact h.its.2 y (List.mem_flatMap.2 ⟨s',h3,by rw [h4]; exact h2⟩)
theorem M.same {n:Nat} {g:TLog} (h:M n g) {a b c d e:Int} (hs:0≤a∧a≤11):M n { Disk:={ Sectors:=g.Disk.Sectors,Cache:=g.Disk.Cache },Segs:=a,Used:=g.Used,NextGen:=b,NextSeq:=c,Stamp:=d,NextValid:=e } :=
 h.new (fun s hs=>⟨s,hs,rfl,rfl⟩) h.len h.its.1 hs
theorem A6r {l:List TSeg} {i:Nat} (hi:i<l.length) {s:TSeg} (h:s.Items=l[i].Items):(l.set i s).flatMap (fun x=>x.Items)=l.flatMap fun x=>x.Items:=by
 rw [List.flatMap_def,List.flatMap_def,List.map_set]
 congr 1
 have:s.Items=(l.map fun x=>x.Items)[i]'(by simpa using hi):=by rw [List.getElem_map]; exact h
 rw [this,List.set_getElem_self]
theorem M.setU {n:Nat} {g:TLog} (h:M n g) {i:Nat} (hi:i<g.Used.length) {s:TSeg} (h1:s.No=g.Used[i].No) (h2:s.Items=g.Used[i].Items) {a b c d e:Int} (hs:0≤a∧a≤11):M n { Disk:={ Sectors:=g.Disk.Sectors,Cache:=g.Disk.Cache },Segs:=a,Used:=g.Used.set i s,NextGen:=b,NextSeq:=c,Stamp:=d,NextValid:=e }:=by
 refine h.new (fun y hy=>?_) (by rw [List.length_set]; exact h.len) (by rw [A6r hi h2]; exact h.its.1) hs
 rcases List.mem_or_eq_of_mem_set hy with hy | rfl
 ·exact ⟨y,hy,rfl,rfl⟩
 ·exact ⟨_,List.getElem_mem hi,h1.symm,h2.symm⟩
theorem M.drop {n:Nat} {g:TLog} (h:M n g) {a b c d e:Int} (hs:0≤a∧a≤11):M n { Disk:={ Sectors:=g.Disk.Sectors,Cache:=g.Disk.Cache },Segs:=a,Used:=g.Used.drop 1,NextGen:=b,NextSeq:=c,Stamp:=d,NextValid:=e }:=by
 refine h.new (fun y hy=>⟨y,List.mem_of_mem_drop hy,rfl,rfl⟩) (by rw [List.length_drop]; have:=h.len; omega) ?_ hs
 have:=h.its.1
 unfold B7 at this
 cases hu:g.Used with
 | nil=>simp
 | cons s t =>
  rw [hu] at this
  simp only [List.flatMap_cons,List.length_append] at this
  simp only [List.drop_succ_cons,List.drop_zero]
  omega
theorem M.disk {n:Nat} {g:TLog} (h:M n g) {t:TDisk} (h1:E0 t=true) (h2:t.Sectors=g.Disk.Sectors) (h3:t.Cache≠[]) {b c d e:Int}:M n { Disk:={ Sectors:=t.Sectors,Cache:=t.Cache },Segs:=g.Segs,Used:=g.Used,NextGen:=b,NextSeq:=c,Stamp:=d,NextValid:=e } :=
 ⟨h.rng,h1,by rw [← h.sec,← h2],fun hc=>absurd hc h3,h.no,h.len,h.its,h.segs⟩
theorem A8n {d d':TDisk} {k:Int} {t:List UInt8} (h:wr d k t=some d'):d'.Cache≠[]:=by
 unfold wr at h
 split at h
 ·cases h; simp
 ·cases h
theorem A6o {b:List Int} {i h:Int} (hi:IOk b i):DrP b (W5 ⟨b,i,h⟩) TLog.Used fun g=>∃ n,M n g:=by
 unfold W5
 refine DrP.bind (Q9 hi (by omega) (by omega)) fun k i h hk hi=>DrP.bind (Q9 hi (by omega) (by omega)) fun x i h hx hi=>DrP.bind (A68 (Q:=Z) (fun k g hk e _=>Aak hk e) (fun k g x hw _ hz _ _=>hz.appS hw (by omega)) hi) fun g i h hg hi=>?_
 obtain ⟨n,hn,hw,hm,hz⟩:=hg
 have hM:=M.of hn hw hz hm
 have hl:=hw.len
 have hsg:=hM.segs
 dsimp only
 show DrP b ((G6 g).bind _) _ _
 rw [Qg hM.dk hM.lgn,ob]
 have hr:rem? x (g.Used.length:Int)=some (Int.tmod x (g.Used.length:Int)):=by unfold rem?; rw [if_neg (by omega)]
 have hb:=tmodB (x:=x) (n:=(g.Used.length:Int)) hx.1 (by omega)
 rw [hr,ob]
 obtain ⟨m,hm'⟩:∃ m:Nat,Int.tmod x (g.Used.length:Int)=m:=⟨(Int.tmod x (g.Used.length:Int)).toNat,by omega⟩
 rw [hm'] at hb ⊢
 have hml:m<g.Used.length:=by omega
 by_cases k0:(k==0)=true
 ·rw [if_pos k0,at?_nat hml,ob,ob,Ew]
  exact DrP.ret hi sub?_all ⟨n,hM.setU hml (s:={ No:=g.Used[m].No,Gen:=g.Used[m].Gen,End:=x,Items:=g.Used[m].Items }) rfl rfl hsg⟩
 rw [if_neg k0]
 by_cases k1:(k==1)=true
 ·rw [if_pos k1,at?_nat hml,ob,ob,Ew]
  exact DrP.ret hi sub?_all ⟨n,hM.setU hml (s:={ No:=g.Used[m].No,Gen:=Int.tmod x 5,End:=g.Used[m].End,Items:=g.Used[m].Items }) rfl rfl hsg⟩
 rw [if_neg k1]
 by_cases k2:(k==2)=true
 ·rw [if_pos k2]
  obtain ⟨y,e,_⟩:=at?_in (l:=([0,1,1000000000]:List Int)) (tmodB (n:=3) hx.1 (by omega))
  rw [e,ob]
  exact DrP.ret hi sub?_all ⟨n,hM.same hsg⟩
 rw [if_neg k2]
 by_cases k3:(k==3)=true
 ·rw [if_pos k3]
  have:=tmodB (x:=x) (n:=12) hx.1 (by omega)
  exact DrP.ret hi sub?_all ⟨n,hM.same (by omega)⟩
 rw [if_neg k3]
 by_cases k4:(k==4)=true
 ·rw [if_pos k4]
  have hz':sub? g.Used 1 (g.Used.length:Int)=some (g.Used.drop 1):=sub?_from (l:=g.Used) (n:=1) (by omega)
  rw [hz',ob]
  exact DrP.ret hi hz' ⟨n,hM.drop hsg⟩
 rw [if_neg k4]
 by_cases k5:(k==5)=true
 ·rw [if_pos k5]
  have e':M2 32 (IntKind.u8.wrap x)=some ((List.replicate 32 (IntKind.u8.wrap x)).map ofI):=A28 (n:=32) (by omega) (IntKind.u8.wrap x)
  rw [e',ob]
  show DrP b ((G8 g.Disk _ _).bind _) _ _
  rw [A2g hM.dk,ob]
  cases ew:wr g.Disk (Int.tmod x 40) ((List.replicate 32 (IntKind.u8.wrap x)).map ofI) with
  | none=>exact DrP.ret hi sub?_all ⟨n,hM.same hsg⟩
  | some d' =>
   have hd:=A8k ew
   exact DrP.ret hi sub?_all ⟨n,hM.disk hd.1 hd.2 (A8n ew)⟩
 rw [if_neg k5]
 by_cases k6:(k==6)=true
 ·rw [if_pos k6]
  exact DrP.ret hi sub?_all ⟨n,hM.same hsg⟩
 rw [if_neg k6]
 by_cases k7:(k==7)=true
 ·rw [if_pos k7]
  obtain ⟨y,e,_⟩:=at?_in (l:=([0,1,1000000000]:List Int)) (tmodB (n:=3) hx.1 (by omega))
  rw [e,ob]
  exact DrP.ret hi sub?_all ⟨n,hM.same hsg⟩
 rw [if_neg k7]
 exact DrP.ret hi sub?_all ⟨n,hM.same hsg⟩
theorem A2n {b:List Int} (hb:b.length≤1048576):∃ g keep,V4 b=some (g,keep)∧∃ n,M n g:=by
 obtain ⟨h,e⟩:=A54 hb
 unfold V4
 rw [e,ob]
 obtain ⟨k,i1,h1,e1,_,hi1⟩:=Pz (h:=h) (iok0 hb) (l:=([0,1,2,5,(-1)]:List Int)) (by simp) (by simp)
 have e1':H7 ({ mB:=b,mI:=0,mH:=h }:TL01Cur) ([0,1,2,5,(-1)]:List Int)=some (k,⟨b,i1,h1⟩):=e1
 dsimp only
 rw [e1',ob]
 obtain ⟨g,i2,h2,l,lo,hi,e2,hs,hg,_⟩:=A6o (h:=h1) hi1
 dsimp only
 rw [A29 e2 hs,ob]
 exact ⟨g,k,rfl,hg⟩
theorem Xa {b:List Int} (hb:b.length≤1048576):∃ g x keep,P0 b=some (g,x,keep)∧RecS x.Rec∧∃ n,M n g:=by
 obtain ⟨h,e⟩:=A54 hb
 unfold P0
 rw [e,ob]
 obtain ⟨k,i1,h1,e1,_,hi1⟩:=Pz (h:=h) (iok0 hb) (l:=([0,1,2,5,(-1)]:List Int)) (by simp) (by simp)
 have e1':H7 ({ mB:=b,mI:=0,mH:=h }:TL01Cur) ([0,1,2,5,(-1)]:List Int)=some (k,⟨b,i1,h1⟩):=e1
 dsimp only
 rw [e1',ob]
 dsimp only
 obtain ⟨q,i2,h2,e2,_,hi2⟩:=Q9 (h:=h1) hi1 (n:=40) (by omega) (by omega)
 rw [e2,ob]
 dsimp only
 obtain ⟨r,i3,h3,e3,hr,hi3⟩:=A7q (h:=h2) hi2
 rw [e3,ob]
 dsimp only
 obtain ⟨z,i4,h4,e4,_,hi4⟩:=Q9 (h:=h3) hi3 (n:=4) (by omega) (by omega)
 rw [e4,ob]
 dsimp only
 obtain ⟨g,i5,h5,l,lo,hi,e5,hs,hg,_⟩:=A6o (h:=h4) hi4
 rw [A29 e5 hs,ob]
 dsimp only
 have hR:RecS r:=⟨hr.sUser,hr.sName,hr.sText⟩
 split
 ·exact ⟨_,_,_,rfl,hR,hg⟩
 ·exact ⟨_,_,_,rfl,hR,hg⟩
theorem A0s {l:List Int} (h:l.length≤1048576):Bn l l=some true:=by
 unfold Bn
 rw [if_neg (by simp),El (n:=l.length) h]
 ·rfl
 ·intro i hi
  unfold Bz
  simp only [dlt hi,if_true,at?_nat hi,ob,C4 (show i<9223372036854775807 by omega),bne_self_eq_false,Bool.false_eq_true,if_false]
 ·unfold Bz; simp
theorem A6g {g:TLog} (h:LgN g) (hl:1≤g.Used.length) (hm:(B7 g).length≤1000) {x:TItem} (hx:Rx x) (T:List UInt8):LgN (putX g x T):=by
 have hu:=h.used
 have e:=Mj hl
 have hi:=Yr hl
 have hmem:hd g∈g.Used:=qM (Wj hl)
 have hlen:(B7 (putX g x T)).length≤1001:=by
  have e2:(B7 g).length=(g.Used.dropLast.flatMap fun y=>y.Items).length+(hd g).Items.length:=by
   unfold B7
   conv=>lhs; rw [e]
   simp
  unfold B7 putX
  simp only [List.flatMap_append,List.length_append,List.flatMap_cons,List.flatMap_nil,List.append_nil,List.length_cons,List.length_nil]
  omega
 refine ⟨by unfold putX; simp; omega,?_,?_⟩
 ·intro s hs
  unfold putX at hs
  simp only at hs
  rcases List.mem_append.1 hs with hs | hs
  ·exact h.items s ((List.dropLast_sublist _).subset hs)
  ·rw [List.mem_singleton] at hs
   subst hs
   refine ⟨by simp; omega,fun y hy=>?_⟩
   rcases List.mem_append.1 hy with hy | hy
   ·exact (h.items _ hmem).2 y hy
   ·rw [List.mem_singleton] at hy; subst hy; exact hx
 ·unfold B7 at hlen
  rw [List.length_flatMap] at hlen
  omega
theorem A93 {g:TLog} (h:LgN g) (hl:g.Used.length≤1000) (no:Nat):LgN (opX g no):=by
 refine ⟨by unfold opX; simp; omega,?_,?_⟩
 ·intro s hs
  unfold opX at hs
  simp only at hs
  rcases List.mem_append.1 hs with hs | hs
  ·exact h.items s hs
  ·rw [List.mem_singleton] at hs
   subst hs
   exact ⟨by simp,fun y hy=>by simp at hy⟩
 ·have:=h.tot
  unfold opX
  simp; omega
theorem A9i (g:TLog) (no:Nat):B7 (opX g no)=B7 g:=by unfold B7 opX; simp
theorem A9a {n:Nat} {g:TLog} (h:M n g) (keep:Int):LgN (resO n g keep).1:=by
 have hl:=h.len
 unfold resO
 split
 ·split
  ·exact h.lgn
  ·exact A93 h.lgn (by omega) _
 ·exact h.lgn
theorem A8w {n:Nat} {g:TLog} (h:M n g) {x:TItem} (hx:RecS x.Rec) (keep:Int):LgN (resA n g x keep).1:=by
 have hl:=h.len
 have hi:=h.its.1
 have hs:Rx x:=⟨⟨hx.user,hx.name,hx.text⟩⟩
 unfold resA
 split
 ·rename_i e
  have hr:=(R.of h e).len
  split
  ·exact h.lgn
  ·split
   ·split
    ·exact h.lgn
    ·rename_i G eG
     unfold appL at eG
     split at eG
     ·cases eG
     ·split at eG
      ·cases eG
      ·split at eG
       ·split at eG
        ·cases eG
        ·cases eG
         exact A6g (A93 h.lgn (by omega) _) (by unfold opX; simp) (by rw [A9i]; omega) hs _
       ·cases eG
        exact A6g h.lgn (by omega) (by omega) hs _
   ·exact h.lgn
 ·exact h.lgn
theorem Wv {x:List Int} (_w:x.length≤maxLen∧∀ a∈x,(Lit.int .u8 a).wf=true):Bx x=some true:=by
 unfold Bx
 by_cases hb:(x.length:Int)>1048576
 ·rw [Aaa hb]; rfl
 rw [Aap hb,ob,if_neg (by simp)]
 have hx:x.length≤1048576:=by omega
 obtain ⟨g,it,k1,e1,hit,n,hM⟩:=Xa hx
 obtain ⟨g2,k2,e2,n2,hM2⟩:=A2n hx
 obtain ⟨g3,e3,n3,hn3,hw3,hm3,hz3⟩:=A7g hx
 have hl:=hM.len
 have hi:=hM.its.1
 rw [e1,ob]
 dsimp only
 rw [Tz hM hit,ob,Tt hM hit,ob,e2,ob]
 dsimp only
 rw [A11 hM2,ob,A1j hM2,ob,e3,ob]
 rw [if_pos (by simp),A4n (A8w hM hit k1),ob,if_pos rfl,if_pos (by simp),A4n (A9a hM2 k2),ob,if_pos rfl,Lp hM,ob,Lk hM,ob,if_pos (by simp),Ps (by omega),ob,Gd (by omega),ob,A0s (by have:=A2y g; omega),ob,if_pos rfl,Ha hM.lgn,ob,Gx hM.lgn,ob,A04 (by omega),ob,if_pos rfl,A63 hw3 hz3 (by omega)]
 rfl
end Go.Proofs.YtldndhdohlfpgaaGreat.V
