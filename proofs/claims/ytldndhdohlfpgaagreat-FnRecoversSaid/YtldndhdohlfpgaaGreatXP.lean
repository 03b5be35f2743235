/- The pure part. -/
import Derived.Test.YtldndhdohlfpgaaGreatXT
namespace Go.Proofs.YtldndhdohlfpgaaGreat.V
open Go Go.Proofs Go.RowKit
set_option maxRecDepth 100000
theorem ob {α β:Type} (a:α) (f:α→Option β):(some a).bind f=f a:=rfl
theorem H8 {σ ρ:Type} {step:σ→Option (σ ⊕ ρ)} (st:Nat→σ) (n:Nat) {r:ρ} (hs:∀ i,i<n→step (st i)=some (.inl (st (i+1)))) (he:step (st n)=some (.inr r)):iter step (st 0)=some r:=by
 have key:∀ d i,i+d=n→iter step (st i)=some r:=by
  intro d
  induction d with
  | zero => intro i hi; have : i = n := by omega
            subst this; exact D0 he
  | succ d ih=>intro i hi; rw [Q6 (hs i (by omega))]; exact ih (i+1) (by omega)
 exact key n 0 (by omega)
theorem B4 {n:Int} (h:-9223372036854775808≤n) (h':n<9223372036854775808):w64 n=n:=by
 unfold w64 IntKind.wrap
 simp [IntKind.bits,IntKind.signed]
 omega
theorem Fo {n:Nat} (h:n<9223372036854775808):w64 (n:Int)=n:=B4 (by omega) (by omega)
theorem B9 {n:Nat} (h:n<9223372036854775807):w64 ((n:Int)+1)=((n+1:Nat):Int):=by rw [B4 (by omega) (by omega)]; omega
theorem Gs (n:Int):IntKind.u8.wrap n=n%256:=by
 unfold IntKind.wrap
 simp [IntKind.bits,IntKind.signed]
theorem Rr (n:Int):IntKind.u32.wrap n=n%4294967296:=by
 unfold IntKind.wrap
 simp [IntKind.bits,IntKind.signed]
theorem at?_nat {α:Type} {l:List α} {i:Nat} (h:i<l.length):at? l (i:Int)=some l[i]:=by
 unfold at?
 rw [if_pos ⟨by omega,by omega⟩]
 simp [h]
theorem bt?_nat {s:List UInt8} {i:Nat} (h:i<s.length):bt? s (i:Int)=some s[i]:=by
 unfold bt?
 rw [if_pos (by omega)]
 simp [h]
theorem cat?_ok {s t:List UInt8} (h:s.length+t.length≤4611686018427387904):cat? s t=some (s++t):=by unfold cat?; rw [if_pos h]
theorem app?_ok {α:Type} {byt:Nat} {l m:List α} (h:l.length+m.length≤1099511627776) (h2:(l.length+m.length)*byt≤140737488355328):app? byt l m=some (l++m):=by unfold app?; rw [if_pos ⟨h,h2⟩]
theorem andv127 {n:Nat} (h':n<9223372036854775808):andv .i64 n 127=((n%128:Nat):Int):=by
 show IntKind.i64.wrap ((BitVec.ofInt 64 (n:Int) &&& BitVec.ofInt 64 127).toNat:Int)=_
 have e1:BitVec.ofInt 64 (n:Int)=BitVec.ofNat 64 n:=by simp
 have e2:BitVec.ofInt 64 (127:Int)=BitVec.ofNat 64 127:=by simp
 rw [e1,e2]
 have e3:(BitVec.ofNat 64 n &&& BitVec.ofNat 64 127).toNat=n%128:=by
  rw [BitVec.toNat_and]
  simp only [BitVec.toNat_ofNat]
  rw [Nat.mod_eq_of_lt (a:=n) (by omega)]
  exact Nat.and_two_pow_sub_one_eq_mod n 7
 rw [e3]
 exact Fo (by omega)
theorem orv128 {n:Nat} (h:n<128):orv .i64 n 128=((n+128:Nat):Int):=by
 show IntKind.i64.wrap ((BitVec.ofInt 64 (n:Int) ||| BitVec.ofInt 64 128).toNat:Int)=_
 have e1:BitVec.ofInt 64 (n:Int)=BitVec.ofNat 64 n:=by simp
 have e2:BitVec.ofInt 64 (128:Int)=BitVec.ofNat 64 128:=by simp
 rw [e1,e2]
 have e3:(BitVec.ofNat 64 n ||| BitVec.ofNat 64 128).toNat=n+128:=by
  rw [BitVec.toNat_or]
  simp only [BitVec.toNat_ofNat]
  rw [Nat.mod_eq_of_lt (a:=n) (by omega)]
  have:=Nat.two_pow_add_eq_or_of_lt (i:=7) (b:=n) (by omega) 1
  rw [Nat.or_comm] at this
  simp at this ⊢
  omega
 rw [e3]
 exact Fo (by omega)
theorem andv1 {n:Nat} (h':n<4294967296):andv .u32 n 1=((n%2:Nat):Int):=by
 show IntKind.u32.wrap ((BitVec.ofInt 32 (n:Int) &&& BitVec.ofInt 32 1).toNat:Int)=_
 have e1:BitVec.ofInt 32 (n:Int)=BitVec.ofNat 32 n:=by simp
 have e2:BitVec.ofInt 32 (1:Int)=BitVec.ofNat 32 1:=by simp
 rw [e1,e2]
 have e3:(BitVec.ofNat 32 n &&& BitVec.ofNat 32 1).toNat=n%2:=by
  rw [BitVec.toNat_and]
  simp only [BitVec.toNat_ofNat]
  rw [Nat.mod_eq_of_lt (a:=n) (by omega)]
  exact Nat.and_two_pow_sub_one_eq_mod n 1
 rw [e3,Rr]
 omega
theorem shrv7 (n:Int):shrv .i64 n 7=n / 128:=by
 unfold shrv
 rw [Int.fdiv_eq_ediv_of_nonneg _ (by decide)]
 rfl
theorem shrv1 (n:Int):shrv .u32 n 1=n / 2:=by
 unfold shrv
 rw [Int.fdiv_eq_ediv_of_nonneg _ (by decide)]
 rfl
def vtl (n:Nat):List Int:=if h:127<n then ((n%128+128:Nat):Int)::vtl (n / 128) else [(n:Int)]
 termination_by n
 decreasing_by omega
theorem Ml {n:Nat} (h:127<n):vtl n=((n%128+128:Nat):Int)::vtl (n / 128):=by rw [vtl,dif_pos h]
theorem X4 {n:Nat} (h:n≤127):vtl n=[(n:Int)]:=by rw [vtl,dif_neg (by omega)]
theorem A55:∀ (k n:Nat),n<128 ^ k→(vtl n).length≤k+1
 | 0,n,h=>by rw [X4 (by simp at h; omega)]; simp
 | k+1,n,h=>by
  by_cases hb:127<n
  ·rw [Ml hb]
   have:=A55 k (n / 128) (by rw [Nat.pow_succ] at h; exact Nat.div_lt_of_lt_mul (by rw [Nat.mul_comm]; exact h))
   simp; omega
  ·rw [X4 (by omega)]; simp
theorem A5r {n:Nat} (h:n<9223372036854775808):(vtl n).length≤11:=A55 10 n (Nat.lt_trans h (by decide))
theorem A2t {step:Int×List Int→Option ((Int×List Int) ⊕ (Int×List Int))}
  (hbig:∀ (n:Nat) out,127<n→n<9223372036854775808→out.length≤1000→step ((n:Int),out)=some (.inl (((n / 128:Nat):Int),out++[((n%128+128:Nat):Int)])))
  (hsmall:∀ (n:Int) out,n≤127→step (n,out)=some (.inr (n,out))) :
  ∀ (n:Nat) (out:List Int),n<9223372036854775808→out.length+11≤1000→∃ (m:Nat) (o:List Int),iter step ((n:Int),out)=some ((m:Int),o)∧m≤127∧o++[(m:Int)]=out++vtl n∧o.length≤1000:=by
 have key:∀ (k n:Nat) (out:List Int),n<128 ^ k→n<9223372036854775808→out.length+k≤1000→∃ (m:Nat) (o:List Int),iter step ((n:Int),out)=some ((m:Int),o)∧m≤127∧o++[(m:Int)]=out++vtl n∧o.length≤1000:=by
  intro k
  induction k with
  | zero =>
   intro n out hk hn ho
   have h1:n≤127:=by simp at hk; omega
   exact ⟨n,out,D0 (hsmall n out (by omega)),h1,by rw [X4 h1],by omega⟩
  | succ k ih =>
   intro n out hk hn ho
   by_cases hb:127<n
   ·obtain ⟨m,o,h1,h2,h3,h4⟩:=ih (n / 128) (out++[((n%128+128:Nat):Int)]) (by rw [Nat.pow_succ] at hk; exact Nat.div_lt_of_lt_mul (by rw [Nat.mul_comm]; exact hk)) (by omega) (by simp; omega)
    refine ⟨m,o,?_,h2,?_,h4⟩
    ·rw [Q6 (hbig n out hb hn (by omega))]; exact h1
    ·rw [h3,Ml hb]; simp
   ·exact ⟨n,out,D0 (hsmall n out (by omega)),by omega,by rw [X4 (by omega)],by omega⟩
 intro n out hn ho
 exact key 11 n out (Nat.lt_trans hn (by decide)) hn ho
def vt (n:Int):List UInt8:=if 0≤n then (vtl n.toNat).map ofI else [ofI (n%256)]
theorem T7 {n:Int} (h:-9223372036854775808≤n) (h':n<9223372036854775808):D8 n=some (vt n):=by
 have hsmall:∀ (n:Int) out,n≤127→X3 (n,out)=some (.inr (n,out)):=by
  intro n out hn
  unfold X3
  simp [show ¬ n>127 by omega]
 unfold D8 vt
 by_cases h0:0≤n
 ·obtain ⟨m,rfl⟩:∃ m:Nat,n=m:=⟨n.toNat,by omega⟩
  obtain ⟨m',o,h1,h2,h3,h4⟩:=A2t (step:=X3) (by
   intro n out hb hn ho
   unfold X3
   have e1:w64 (Int.tmod (n:Int) 128+128)=((n%128+128:Nat):Int):=by
    rw [Int.tmod_eq_emod_of_nonneg (by omega),B4 (by omega) (by omega)]; omega
   have e2:w64 (Int.tdiv (n:Int) 128)=((n / 128:Nat):Int):=by
    rw [Int.tdiv_eq_ediv_of_nonneg (by omega),B4 (by omega) (by omega)]; omega
   have e3:IntKind.u8.wrap ((n%128+128:Nat):Int)=((n%128+128:Nat):Int):=by rw [Gs]; omega
   simp only [show decide ((n:Int)>127)=true from by simp; omega,if_true,e1,e2,e3]
   rw [app?_ok (by simp; omega) (by simp; omega)]
   rfl) hsmall m [] (by omega) (by simp)
  rw [if_pos h0,h1]
  simp only [ob]
  rw [app?_ok (by simp; omega) (by simp; omega)]
  simp only [ob,Gs]
  rw [show ((m':Int)%256)=m' by omega,h3]
  simp
 ·rw [if_neg h0,D0 (hsmall n [] (by omega))]
  simp only [ob]
  rw [app?_ok (by simp) (by simp)]
  simp [Gs]
theorem Bx {n:Int} (h:-9223372036854775808≤n) (h':n<9223372036854775808):G0 n=some (vt n):=by
 have hsmall:∀ (n:Int) out,n≤127→U7 (n,out)=some (.inr (n,out)):=by
  intro n out hn
  unfold U7
  simp [show ¬ n>127 by omega]
 unfold G0 vt
 by_cases h0:0≤n
 ·obtain ⟨m,rfl⟩:∃ m:Nat,n=m:=⟨n.toNat,by omega⟩
  obtain ⟨m',o,h1,h2,h3,h4⟩:=A2t (step:=U7) (by
   intro n out hb hn ho
   unfold U7
   have e1:orv .i64 (andv .i64 (n:Int) 127) 128=((n%128+128:Nat):Int):=by
    rw [andv127 hn,orv128 (by omega)]
   have e2:shrv .i64 (n:Int) 7=((n / 128:Nat):Int):=by rw [shrv7]; omega
   have e3:IntKind.u8.wrap ((n%128+128:Nat):Int)=((n%128+128:Nat):Int):=by rw [Gs]; omega
   simp only [show decide ((n:Int)>127)=true from by simp; omega,if_true,e1,e2,e3]
   rw [app?_ok (by simp; omega) (by simp; omega)]
   rfl) hsmall m [] (by omega) (by simp)
  rw [if_pos h0,h1]
  simp only [ob]
  rw [app?_ok (by simp; omega) (by simp; omega)]
  simp only [ob,Gs]
  rw [show ((m':Int)%256)=m' by omega,h3]
  simp
 ·rw [if_neg h0,D0 (hsmall n [] (by omega))]
  simp only [ob]
  rw [app?_ok (by simp) (by simp)]
  simp [Gs]
theorem K7 {n:Int} (h':n<9223372036854775808):(vt n).length≤11:=by
 unfold vt
 split
 ·simp; exact A5r (by omega)
 ·simp
def sumBit (n:Nat):Nat:=if n%2=1 then (xorv .u32 ((n / 2:Nat):Int) 3558460437).toNat else n / 2
theorem Hl (x y:Int):0≤xorv .u32 x y∧xorv .u32 x y<4294967296:=by
 unfold xorv
 rw [Rr]
 omega
theorem A6h {n:Nat} (h:n<4294967296):sumBit n<4294967296:=by
 unfold sumBit
 have:=Hl ((n / 2:Nat):Int) 3558460437
 split <;> omega
def iterK {α:Type} (f:α→α):Nat→α→α
 | 0,a=>a
 | k+1,a=>f (iterK f k a)
theorem A2v (k:Nat) {n:Nat} (h:n<4294967296):iterK sumBit k n<4294967296:=by
 induction k with
 | zero=>exact h
 | succ k ih=>exact A6h ih
theorem A60 {n:Nat} (h:n<4294967296):iter Al ((n:Int),0)=some ((iterK sumBit 8 n:Nat):Int):=by
 refine H8 (fun k=>(((iterK sumBit k n:Nat):Int),(k:Int))) 8 ?_ ?_
 ·intro k hk
  have hl:=A2v k h
  unfold Al
  have e0:w64 ((k:Int)+1)=((k+1:Nat):Int):=B9 (by omega)
  generalize hm:iterK sumBit k n=m at hl
  have e1:IntKind.u32.wrap (Int.tdiv (m:Int) 2)=((m / 2:Nat):Int):=by
   rw [Rr,Int.tdiv_eq_ediv_of_nonneg (by omega)]; omega
  have e2:Int.tmod (m:Int) 2=((m%2:Nat):Int):=by rw [Int.tmod_eq_emod_of_nonneg (by omega)]; omega
  simp only [show decide ((k:Int)<8)=true from by simp; omega,if_true,e0,e1,e2]
  have e3:iterK sumBit (k+1) n=sumBit m:=by simp [iterK,hm]
  rw [e3]
  unfold sumBit
  by_cases hb:m%2=1
  ·have:=Hl ((m / 2:Nat):Int) 3558460437
   simp only [hb,if_true]
   rw [if_pos (by simp)]
   congr 3
  ·rw [if_neg (by simp; omega),if_neg hb]
 ·unfold Al
  simp
theorem A5x {n:Nat} (h:n<4294967296):iter Ap ((n:Int),0)=some ((iterK sumBit 8 n:Nat):Int):=by
 refine H8 (fun k=>(((iterK sumBit k n:Nat):Int),(k:Int))) 8 ?_ ?_
 ·intro k hk
  have hl:=A2v k h
  unfold Ap
  have e0:w64 ((k:Int)+1)=((k+1:Nat):Int):=B9 (by omega)
  generalize hm:iterK sumBit k n=m at hl
  have e1:shrv .u32 (m:Int) 1=((m / 2:Nat):Int):=by rw [shrv1]; omega
  have e2:andv .u32 (m:Int) 1=((m%2:Nat):Int):=andv1 hl
  simp only [show decide ((k:Int)<8)=true from by simp; omega,if_true,e0,e1,e2]
  have e3:iterK sumBit (k+1) n=sumBit m:=by simp [iterK,hm]
  rw [e3]
  unfold sumBit
  by_cases hb:m%2=1
  ·have:=Hl ((m / 2:Nat):Int) 3558460437
   simp only [hb,if_true]
   rw [if_pos (by simp)]
   congr 3
  ·rw [if_neg (by simp; omega),if_neg hb]
 ·unfold Ap
  simp
def sumB (n:Nat) (c:UInt8):Nat:=iterK sumBit 8 (xorv .u32 (n:Int) (c.toNat:Int)).toNat
def sumL (n:Nat) (s:List UInt8):Nat:=s.foldl sumB n
theorem A3b {step:List UInt8→Int×Int→Option ((Int×Int) ⊕ Int)} {s:List UInt8} (_:s.length<9223372036854775807) {n:Nat}
  (h1:∀ (m i:Nat) (h:i<s.length),step s ((m:Int),(i:Int))=some (.inl ((sumB m s[i]:Nat),((i+1:Nat):Int))))
  (h2:∀ m:Nat,step s ((m:Int),(s.length:Int))=some (.inr (m:Int))):iter (step s) ((n:Int),0)=some ((sumL n s:Nat):Int):=by
 refine H8 (fun i=>(((sumL n (s.take i):Nat):Int),(i:Int))) s.length ?_ ?_
 ·intro i hi
  have e:sumL n (s.take (i+1))=sumB (sumL n (s.take i)) s[i]:=by
   unfold sumL
   rw [List.take_succ_eq_append_getElem hi,List.foldl_append]
   rfl
  rw [h1 _ i hi,e]
 ·rw [List.take_length]; exact h2 _
theorem A7e (c:UInt8):IntKind.u32.wrap (c.toNat:Int)=c.toNat:=by
 rw [Rr]
 have:=c.toNat_lt
 omega
theorem A7c {s:List UInt8} (hs:s.length<9223372036854775807) (n:Nat):Ck (n:Int) s=some ((sumL n s:Nat):Int):=by
 unfold Ck
 rw [A3b (step:=Ak) hs]
 ·rfl
 ·intro m i hi
  unfold Ak
  simp only [show decide ((i:Int)<(s.length:Int))=true from by simp; omega,if_true,bt?_nat hi,ob,A7e,B9 (show i<9223372036854775807 by omega)]
  have hx:=Hl (m:Int) ((s[i]).toNat:Int)
  have:xorv .u32 (m:Int) ((s[i]).toNat:Int)=((xorv .u32 (m:Int) ((s[i]).toNat:Int)).toNat:Int):=by omega
  rw [this,A60 (by omega)]
  rfl
 ·intro m
  unfold Ak
  simp
theorem A7s {s:List UInt8} (hs:s.length<9223372036854775807) (n:Nat):Cp (n:Int) s=some ((sumL n s:Nat):Int):=by
 unfold Cp
 rw [A3b (step:=Ab) hs]
 ·rfl
 ·intro m i hi
  unfold Ab
  simp only [show decide ((i:Int)<(s.length:Int))=true from by simp; omega,if_true,bt?_nat hi,ob,A7e,B9 (show i<9223372036854775807 by omega)]
  have hx:=Hl (m:Int) ((s[i]).toNat:Int)
  have:xorv .u32 (m:Int) ((s[i]).toNat:Int)=((xorv .u32 (m:Int) ((s[i]).toNat:Int)).toNat:Int):=by omega
  rw [this,A5x (by omega)]
  rfl
 ·intro m
  unfold Ab
  simp
def four (n:Int):List UInt8:=[IntKind.u8.wrap (shrv .u32 n 24),IntKind.u8.wrap (shrv .u32 n 16),IntKind.u8.wrap (shrv .u32 n 8),IntKind.u8.wrap n].map ofI
def sealL (s:List UInt8):List UInt8:=four (sumL 4294967295 s:Nat)
theorem X1 (s:List UInt8):(sealL s).length=4:=rfl
theorem Yx {s:List UInt8} (hs:s.length<9223372036854775807):Cz s=some ((sumL 4294967295 s:Nat):Int):=by
 unfold Cz
 have:=A7c hs 4294967295
 rw [show (4294967295:Int)=((4294967295:Nat):Int) from rfl,this]; rfl
theorem A4z {s:List UInt8} (hs:s.length<9223372036854775807):Fb s=some ((sumL 4294967295 s:Nat):Int):=by
 unfold Fb
 have:=A7s hs 4294967295
 rw [show (4294967295:Int)=((4294967295:Nat):Int) from rfl,this]; rfl
theorem A0q (n:Int):Bw n=some (four n):=rfl
theorem Uk {s:List UInt8} (hs:s.length<9223372036854775807):Cf s=some (sealL s):=by
 unfold Cf
 rw [A4z hs]; rfl
def sealed (s:List UInt8):List UInt8×Bool:=if 20000<s.length then ([],false) else (s++sealL s,true)
theorem Wj {s:List UInt8} (hs:s.length<9223372036854775807):Bk s=some (sealed s):=by
 unfold Bk sealed
 by_cases h:20000<s.length
 ·rw [if_pos (by simp; omega),if_pos h]
 ·rw [if_neg (by simp; omega),if_neg h,Yx hs]
  simp only [ob,A0q]
  rw [cat?_ok (by show s.length+4≤_; omega)]
  rfl
theorem A3w {s:List UInt8} (hs:s.length<9223372036854775807):Du s=some (sealed s):=by
 unfold Du sealed
 by_cases h:20000<s.length
 ·rw [if_pos (by simp; omega),if_pos h]
 ·rw [if_neg (by simp; omega),if_neg h,Uk hs]
  simp only [ob]
  rw [cat?_ok (by show s.length+4≤_; omega)]
  rfl
def inR (n lo hi:Int):Bool:=decide (lo≤n)&&decide (n≤hi)
theorem M4 (n lo hi:Int):B8 n lo hi=some (inR n lo hi):=by
 unfold B8 inR
 by_cases h:lo≤n <;> simp [h]
theorem R2 (n lo hi:Int):D3 n lo hi=some (inR n lo hi):=by
 unfold D3 inR
 by_cases h:lo≤n <;> simp [h]
def lowB (c:UInt8):Bool:=decide (97≤c.toNat)&&decide (c.toNat≤122)
def wordOk (s:List UInt8):Bool:=s.all lowB&&inR s.length 1 8
theorem Jz {σ ρ:Type} {step:σ→Option (σ ⊕ ρ)} (st:Nat→σ) (n:Nat) (p:Nat→Bool) {bad good:ρ} (h1:∀ i,i<n→p i=true→step (st i)=some (.inl (st (i+1)))) (h2:∀ i,i<n→p i=false→step (st i)=some (.inr bad)) (he:step (st n)=some (.inr good)) :
  iter step (st 0)=some (if (List.range n).all p then good else bad):=by
 have key:∀ d i,i+d=n→iter step (st i)=some (if ((List.range n).drop i).all p then good else bad):=by
  intro d
  induction d with
  | zero =>
   intro i hi
   have:i=n:=by omega
   subst this
   rw [D0 he,List.drop_eq_nil_of_le (by simp)]; simp
  | succ d ih =>
   intro i hi
   have hd:(List.range n).drop i=i::(List.range n).drop (i+1):=by
    rw [List.drop_eq_getElem_cons (by simp; omega)]; simp
   rw [hd]
   cases hp:p i with
   | true=>rw [Q6 (h1 i (by omega) hp),ih (i+1) (by omega)]; simp [hp]
   | false=>rw [D0 (h2 i (by omega) hp)]; simp [hp]
 simpa using key n 0 (by omega)
theorem A0s {α:Type} (l:List α) (p:α→Bool):(List.range l.length).all (fun i=>match l[i]? with | some x=>p x | none=>true)=l.all p:=by
 rw [Bool.eq_iff_iff,List.all_eq_true,List.all_eq_true]
 constructor
 ·intro h x hx
  obtain ⟨i,hi⟩:=List.getElem?_of_mem hx
  have:=h i (List.mem_range.2 (qI hi).1)
  simpa [hi] using this
 ·intro h i hi
  have hi':=List.mem_range.1 hi
  rw [qG hi']
  exact h _ (List.getElem_mem hi')
theorem A1b {s:List UInt8} (hs:s.length<9223372036854775807):Bn s=some (wordOk s):=by
 have hl:iter (W8 s) 0=some (if s.all lowB then .inr () else .inl false):=by
  rw [← A0s]
  refine Jz (fun i=>(i:Int)) s.length _ ?_ ?_ ?_
  ·intro i hi hp
   rw [qG hi] at hp
   simp only [lowB,Bool.and_eq_true,decide_eq_true_eq] at hp
   unfold W8
   simp only [show decide ((i:Int)<(s.length:Int))=true from by simp; omega,if_true,bt?_nat hi,ob]
   rw [if_neg (by simp; omega),if_neg (by simp; omega)]
   simp [B9 (show i<9223372036854775807 by omega)]
  ·intro i hi hp
   rw [qG hi] at hp
   simp only [lowB,Bool.and_eq_false_iff,decide_eq_false_iff_not] at hp
   unfold W8
   simp only [show decide ((i:Int)<(s.length:Int))=true from by simp; omega,if_true,bt?_nat hi,ob]
   by_cases h:(s[i]).toNat<97
   ·rw [if_pos (by simp; omega)]; rfl
   ·rw [if_neg (by simp; omega),if_pos (by simp; omega)]; rfl
  ·unfold W8
   simp
 unfold Bn
 rw [hl]
 unfold wordOk
 cases s.all lowB <;> simp [M4]
theorem A13 {s:List UInt8} (hs:s.length<9223372036854775807):Bj s=some (wordOk s):=by
 have hl:iter (X0 s) 0=some (if s.all lowB then .inr () else .inl false):=by
  rw [← A0s]
  refine Jz (fun i=>(i:Int)) s.length _ ?_ ?_ ?_
  ·intro i hi hp
   rw [qG hi] at hp
   simp only [lowB,Bool.and_eq_true,decide_eq_true_eq] at hp
   unfold X0
   simp only [show decide ((i:Int)<(s.length:Int))=true from by simp; omega,if_true,bt?_nat hi,ob]
   rw [if_neg (by simp; omega),if_neg (by simp; omega)]
   simp [B9 (show i<9223372036854775807 by omega)]
  ·intro i hi hp
   rw [qG hi] at hp
   simp only [lowB,Bool.and_eq_false_iff,decide_eq_false_iff_not] at hp
   unfold X0
   simp only [show decide ((i:Int)<(s.length:Int))=true from by simp; omega,if_true,bt?_nat hi,ob]
   by_cases h:(s[i]).toNat<97
   ·rw [if_pos (by simp; omega)]; rfl
   ·rw [if_neg (by simp; omega),if_pos (by simp; omega)]; rfl
  ·unfold X0
   simp
 unfold Bj
 rw [R2,ob,hl]
 unfold wordOk
 cases s.all lowB <;> cases inR (s.length:Int) 1 8 <;> simp
theorem Qr {α:Type} {l:List α} {i:Nat} {x:α}:set' l (i:Int) x=l.set i x:=by simp [set']
theorem at?_eq {α:Type} {l:List α} {i:Nat} {x:α} (h:l[i]?=some x):at? l (i:Int)=some x:=by
 obtain ⟨h1,rfl⟩:=qI h
 exact at?_nat h1
theorem dlt {i:Nat} {n:Nat} (h:i<n):decide ((i:Int)<(n:Int))=true:=by simpa using h
theorem A9d {α:Type} {l:List α} {z:α} {step:Int×List α→Option ((Int×List α) ⊕ List α)} (_:l.length<9223372036854775807)
  (h1:∀ (i:Nat) (h:i<l.length) (m:List α),m.length=l.length→step ((i:Int),m)=some (.inl (((i+1:Nat):Int),m.set i l[i])))
  (h2:∀ m:List α,step ((l.length:Int),m)=some (.inr m)):iter step (0,List.replicate l.length z)=some l:=by
 have:=H8 (step:=step) (fun i=>((i:Int),l.take i++List.replicate (l.length - i) z)) l.length (r:=l) ?_ ?_
 ·simpa using this
 ·intro i hi
  rw [h1 i hi _ (by simp; omega)]
  have e:(l.take i++List.replicate (l.length - i) z).set i l[i]=l.take (i+1)++List.replicate (l.length - (i+1)) z:=by
   have e1:l.length - i=(l.length - (i+1))+1:=by omega
   have e2:(l.take i).length=i:=by simp; omega
   rw [e1,List.replicate_succ,List.set_append_right _ _ (by omega),e2,Nat.sub_self,List.set_cons_zero,List.take_succ_eq_append_getElem hi,List.append_assoc]
   rfl
  rw [e]
 ·simp [h2]
theorem mk?_ok {α:Type} {byt:Nat} {z:α} {n:Nat} (h:n≤1099511627776) (h2:n*byt≤140737488355328):mk? byt z (n:Int)=some (List.replicate n z):=by
 unfold mk?
 have h3:((n*byt:Nat):Int)≤140737488355328:=by omega
 rw [if_pos ⟨by omega,by rw [Int.mul_comm]; rw [Int.natCast_mul] at h3; exact h3,by omega⟩]; simp
theorem Ho {α ρ:Type} {l:List α} {k:Nat} (hk:k≤l.length) {q:α→Bool} {step:Int→Option (Int ⊕ ρ)} {bad good:ρ} (h1:∀ (i:Nat) (h:i<l.length),i<k→step (i:Int)=if q l[i] then some (.inr bad) else some (.inl ((i+1:Nat):Int))) (h2:step (k:Int)=some (.inr good)):iter step 0=some (if (l.take k).any q then bad else good):=by
 have key:∀ d i,i+d=k→iter step (i:Int)=some (if ((l.take k).drop i).any q then bad else good):=by
  intro d
  induction d with
  | zero => intro i hi; have : i = k := by omega
            subst this; rw [D0 h2,List.drop_eq_nil_of_le (by simp; omega)]; simp
  | succ d ih =>
   intro i hi
   have hd:(l.take k).drop i=l[i]::(l.take k).drop (i+1):=by
    rw [List.drop_eq_getElem_cons (by simp; omega)]; simp
   rw [hd,List.any_cons]
   have hs:=h1 i (by omega) (by omega)
   cases hq:q l[i] with
   | true=>rw [hq] at hs; rw [D0 hs]; simp
   | false=>rw [hq] at hs; rw [Q6 hs,ih (i+1) (by omega)]; simp
 simpa using key k 0 (by omega)
theorem Gz {α:Type} {l:List α} {q:α→Bool} {step:Int→Option (Int ⊕ (Int ⊕ Unit))} (h1:∀ (i:Nat) (h:i<l.length),step (i:Int)=if q l[i] then some (.inr (.inl (i:Int))) else some (.inl ((i+1:Nat):Int))) (h2:step (l.length:Int)=some (.inr (.inr ()))):iter step 0=some (match l.findIdx? q with | some i=>.inl (i:Int) | none=>.inr ()):=by
 have key:∀ d i,i+d=l.length→iter step (i:Int)=some (match (l.drop i).findIdx? q with | some j=>.inl ((i+j:Nat):Int) | none=>.inr ()):=by
  intro d
  induction d with
  | zero => intro i hi; have : i = l.length := by omega
            subst this; rw [D0 h2,List.drop_eq_nil_of_le (by simp)]; simp
  | succ d ih =>
   intro i hi
   have hs:=h1 i (by omega)
   rw [List.drop_eq_getElem_cons (by omega),List.findIdx?_cons]
   cases hq:q l[i] with
   | true=>rw [hq] at hs; rw [D0 hs]; simp
   | false =>
    rw [hq] at hs; rw [Q6 hs,ih (i+1) (by omega)]
    cases (l.drop (i+1)).findIdx? q with
    | none=>simp
    | some j=>simp; omega
 have:=key l.length 0 (by omega)
 simp only [List.drop_zero,Nat.zero_add] at this
 exact this
def idxI:Option Nat→Int
 | some i=>i
 | none=>-1
theorem Kl {α:Type} {l:List α} {q:α→Bool}:decide (idxI (l.findIdx? q)≥0)=l.any q:=by
 rw [← List.findIdx?_isSome]
 cases l.findIdx? q <;> simp [idxI]
theorem sub?_take {α:Type} {l:List α} {i:Nat} (h:i≤l.length):sub? l 0 (i:Int)=some (l.take i):=by
 unfold sub?
 simp
 omega
structure A1w (x:TRec):Prop where
 sUser:x.User.length≤1048576
 sName:x.Name.length≤1048576
 sText:x.Text.length≤1048576
structure A3r (x:TItem):Prop where
 sRec:A1w x.Rec
theorem Em {x0:List TSeg} {x1:Int} {q:TSeg→Bool} (hl:x0.length≤9223372036854775806) (hq:∀ y∈x0,Dj y x1=some (q y)):M9 x0 x1=some (idxI (x0.findIdx? q)):=by
 unfold M9
 rw [Gz (l:=x0) (q:=q) ?_ ?_]
 ·cases x0.findIdx? q <;> rfl
 ·intro i hi
  unfold M3
  simp only [dlt hi,if_true,at?_nat hi,ob,hq _ (List.getElem_mem hi),B9 (show i<9223372036854775807 by omega)]
 ·unfold M3
  simp
theorem Dm {x0:List TSeg} {x1:Int} {q:TSeg→Bool} (hl:x0.length≤9223372036854775806) (hq:∀ y∈x0,Dj y x1=some (q y)):M0 x0 x1=some (x0.any q):=by
 unfold M0
 rw [Em hl hq,ob,Kl]
theorem Ec {x0:List (List UInt8)} {q:(List UInt8)→Bool} (hl:x0.length≤9223372036854775806) (hq:∀ y∈x0,W9 y=some (q y)):F9 x0=some (idxI (x0.findIdx? q)):=by
 unfold F9
 rw [Gz (l:=x0) (q:=q) ?_ ?_]
 ·cases x0.findIdx? q <;> rfl
 ·intro i hi
  unfold J2
  simp only [dlt hi,if_true,at?_nat hi,ob,hq _ (List.getElem_mem hi),B9 (show i<9223372036854775807 by omega)]
 ·unfold J2
  simp
theorem Cs {x0:List (List UInt8)} {q:(List UInt8)→Bool} (hl:x0.length≤9223372036854775806) (hq:∀ y∈x0,W9 y=some (q y)):E8 x0=some (x0.any q):=by
 unfold E8
 rw [Ec hl hq,ob,Kl]
theorem En {x0:List TWrite} {x1:TDisk} {q:TWrite→Bool} (hl:x0.length≤9223372036854775806) (hq:∀ y∈x0,T2 y x1=some (q y)):G5 x0 x1=some (idxI (x0.findIdx? q)):=by
 unfold G5
 rw [Gz (l:=x0) (q:=q) ?_ ?_]
 ·cases x0.findIdx? q <;> rfl
 ·intro i hi
  unfold K1
  simp only [dlt hi,if_true,at?_nat hi,ob,hq _ (List.getElem_mem hi),B9 (show i<9223372036854775807 by omega)]
 ·unfold K1
  simp
theorem Dh {x0:List TWrite} {x1:TDisk} {q:TWrite→Bool} (hl:x0.length≤9223372036854775806) (hq:∀ y∈x0,T2 y x1=some (q y)):F1 x0 x1=some (x0.any q):=by
 unfold F1
 rw [En hl hq,ob,Kl]
theorem Fd {x0:List TSeg} {x1:TSeg} {q:TSeg→Bool} (hl:x0.length≤9223372036854775806) (hq:∀ y∈x0,Aj y x1=some (q y)):J5 x0 x1=some (idxI (x0.findIdx? q)):=by
 unfold J5
 rw [Gz (l:=x0) (q:=q) ?_ ?_]
 ·cases x0.findIdx? q <;> rfl
 ·intro i hi
  unfold K8
  simp only [dlt hi,if_true,at?_nat hi,ob,hq _ (List.getElem_mem hi),B9 (show i<9223372036854775807 by omega)]
 ·unfold K8
  simp
theorem Eo {x0:List TSeg} {x1:TSeg} {q:TSeg→Bool} (hl:x0.length≤9223372036854775806) (hq:∀ y∈x0,Aj y x1=some (q y)):E5 x0 x1=some (x0.any q):=by
 unfold E5
 rw [Fd hl hq,ob,Kl]
theorem Fc {x0:List TItem} {x1:TLog} {q:TItem→Bool} (hl:x0.length≤9223372036854775806) (hq:∀ y∈x0,U9 y x1=some (q y)):J0 x0 x1=some (idxI (x0.findIdx? q)):=by
 unfold J0
 rw [Gz (l:=x0) (q:=q) ?_ ?_]
 ·cases x0.findIdx? q <;> rfl
 ·intro i hi
  unfold K5
  simp only [dlt hi,if_true,at?_nat hi,ob,hq _ (List.getElem_mem hi),B9 (show i<9223372036854775807 by omega)]
 ·unfold K5
  simp
theorem Ef {x0:List TItem} {x1:TLog} {q:TItem→Bool} (hl:x0.length≤9223372036854775806) (hq:∀ y∈x0,U9 y x1=some (q y)):E3 x0 x1=some (x0.any q):=by
 unfold E3
 rw [Fc hl hq,ob,Kl]
theorem Ep {x0:List TItem} {x1:TItem} {q:TItem→Bool} (hl:x0.length≤9223372036854775806) (hq:∀ y∈x0,W3 y x1=some (q y)):G7 x0 x1=some (idxI (x0.findIdx? q)):=by
 unfold G7
 rw [Gz (l:=x0) (q:=q) ?_ ?_]
 ·cases x0.findIdx? q <;> rfl
 ·intro i hi
  unfold K0
  simp only [dlt hi,if_true,at?_nat hi,ob,hq _ (List.getElem_mem hi),B9 (show i<9223372036854775807 by omega)]
 ·unfold K0
  simp
theorem Di {x0:List TItem} {x1:TItem} {q:TItem→Bool} (hl:x0.length≤9223372036854775806) (hq:∀ y∈x0,W3 y x1=some (q y)):F0 x0 x1=some (x0.any q):=by
 unfold F0
 rw [Ep hl hq,ob,Kl]
theorem Ew {x0:List TRef} {x1:TRef} {q:TRef→Bool} (hl:x0.length≤9223372036854775806) (hq:∀ y∈x0,W7 y x1=some (q y)):H5 x0 x1=some (idxI (x0.findIdx? q)):=by
 unfold H5
 rw [Gz (l:=x0) (q:=q) ?_ ?_]
 ·cases x0.findIdx? q <;> rfl
 ·intro i hi
  unfold K4
  simp only [dlt hi,if_true,at?_nat hi,ob,hq _ (List.getElem_mem hi),B9 (show i<9223372036854775807 by omega)]
 ·unfold K4
  simp
theorem Dq {x0:List TRef} {x1:TRef} {q:TRef→Bool} (hl:x0.length≤9223372036854775806) (hq:∀ y∈x0,W7 y x1=some (q y)):F4 x0 x1=some (x0.any q):=by
 unfold F4
 rw [Ew hl hq,ob,Kl]
def hit (a:Int) (l:List TWrite):Option TWrite:=l.foldl (fun o w=>if w.At==a then some w else o) none
theorem Pn (a:Int) (l:List TWrite) (w:TWrite):hit a (l++[w])=if w.At==a then some w else hit a l:=by
 unfold hit
 rw [List.foldl_append]; rfl
theorem A56 {a:Int} {l:List TWrite} {w:TWrite} (h:hit a l=some w):w∈l:=by
 have key:∀ (l:List TWrite) (o:Option TWrite),l.foldl (fun o w=>if w.At==a then some w else o) o=some w→w∈l∨o=some w:=by
  intro l
  induction l with
  | nil=>intro o h; exact .inr h
  | cons x l ih =>
   intro o h
   rcases ih _ h with h1 | h1
   ·exact .inl (List.mem_cons_of_mem _ h1)
   ·dsimp only at h1
    split at h1
    ·cases h1; exact .inl List.mem_cons_self
    ·exact .inr h1
 rcases key l none h with h1 | h1
 ·exact h1
 ·cases h1
def secV (o:Option TWrite) (z:List UInt8):List UInt8:=match o with | some w=>w.Text | none=>z
def rsec (d:TDisk) (a:Nat):List UInt8:=secV (hit (a:Int) d.Cache) ((d.Sectors[a]?).getD [])
structure DkS (d:TDisk):Prop where
 sec:d.Sectors.length≤1048576∧∀ y∈d.Sectors,y.length≤1048576
 cache:d.Cache.length≤1048576∧∀ y∈d.Cache,y.Text.length≤1048576
theorem Yh {d:TDisk} (h:DkS d) (a:Nat):(rsec d a).length≤1048576:=by
 unfold rsec secV
 split
 ·rename_i w hw; exact h.cache.2 w (A56 hw)
 ·by_cases ha:a<d.Sectors.length
  ·rw [qG ha]; exact h.sec.2 _ (List.getElem_mem ha)
  ·rw [List.getElem?_eq_none (by omega)]; simp
def readS (d:TDisk) (x:Int):List UInt8×Bool:=if inR x 0 ((d.Sectors.length:Int) - 1) then (rsec d x.toNat,true) else ([],false)
theorem Dv {d:TDisk} (h:DkS d) (x:Int):K9 d x=some (readS d x):=by
 have hs:=h.sec.1
 have hc:=h.cache.1
 unfold K9 readS
 rw [B4 (n:=(d.Sectors.length:Int) - 1) (by omega) (by omega),M4,ob]
 cases hr:inR x 0 ((d.Sectors.length:Int) - 1) with
 | false=>rfl
 | true =>
  unfold inR at hr
  simp only [Bool.and_eq_true,decide_eq_true_eq] at hr
  obtain ⟨a,rfl⟩:∃ a:Nat,x=a:=⟨x.toNat,by omega⟩
  have ha:a<d.Sectors.length:=by omega
  have key:∀ n:Nat,n≤d.Cache.length→iter (P4 d (a:Int)) ((n:Int) - 1)=some (match hit (a:Int) (d.Cache.take n) with | some w=>.inl (w.Text,true) | none=>.inr ()):=by
   intro n
   induction n with
   | zero =>
    intro _
    refine D0 ?_
    unfold P4
    simp [hit]
   | succ n ih =>
    intro hn
    have hn':n<d.Cache.length:=by omega
    have e0:(((n+1:Nat):Int) - 1)=(n:Int):=by omega
    rw [e0,List.take_succ_eq_append_getElem hn',Pn]
    by_cases c:d.Cache[n].At=(a:Int)
    ·refine D0 ?_
     unfold P4
     rw [if_pos (by simp),at?_nat hn',ob,if_pos (by simpa using c),if_pos (by simpa using c)]
     rfl
    ·rw [Q6 (s':=((n:Int) - 1)),ih (by omega),if_neg (by simpa using c)]
     unfold P4
     rw [if_pos (by simp),at?_nat hn',ob,if_neg (by simpa using c),B4 (by omega) (by omega)]
  rw [if_pos rfl,B4 (n:=(d.Cache.length:Int) - 1) (by omega) (by omega),key _ (Nat.le_refl _),List.take_length,Int.toNat_natCast]
  unfold rsec secV
  cases hit (a:Int) d.Cache with
  | some w=>rfl
  | none=>simp [at?_nat ha,ha]
theorem Ga {d:TDisk} (h:DkS d) (x:Int):R8 d x=some (readS d x):=by
 have hs:=h.sec.1
 have hc:=h.cache.1
 unfold R8 readS
 rw [B4 (n:=(d.Sectors.length:Int) - 1) (by omega) (by omega),R2,ob]
 cases hr:inR x 0 ((d.Sectors.length:Int) - 1) with
 | false=>rfl
 | true =>
  unfold inR at hr
  simp only [Bool.and_eq_true,decide_eq_true_eq] at hr
  obtain ⟨a,rfl⟩:∃ a:Nat,x=a:=⟨x.toNat,by omega⟩
  have ha:a<d.Sectors.length:=by omega
  have key:=H8 (step:=T4 d (a:Int)) (fun i=>(secV (hit (a:Int) (d.Cache.take i)) d.Sectors[a],(i:Int))) d.Cache.length (r:=secV (hit (a:Int) d.Cache) d.Sectors[a]) ?_ ?_
  ·rw [if_pos rfl,at?_nat ha,ob]
   rw [show ((secV (hit (a:Int) (d.Cache.take 0)) d.Sectors[a],((0:Nat):Int)):List UInt8×Int)=(d.Sectors[a],0) from rfl] at key
   rw [key,ob,if_pos rfl,Int.toNat_natCast]
   unfold rsec
   rw [qG ha]; rfl
  ·intro i hi
   rw [List.take_succ_eq_append_getElem hi,Pn]
   unfold T4
   rw [if_pos (dlt hi),at?_nat hi,ob]
   by_cases c:d.Cache[i].At=(a:Int)
   ·rw [if_pos (by simpa using c),if_pos (by simpa using c),B9 (by omega)]; rfl
   ·rw [if_neg (by simpa using c),if_neg (by simpa using c),B9 (by omega)]
  ·unfold T4
   rw [List.take_length]; simp
def secT (d:TDisk) (f:Nat):Nat→List UInt8
 | 0=>[]
 | i+1=>secT d f i++rsec d (f+i)
theorem Lg {d:TDisk} (h:DkS d) (f:Nat):∀ n,(secT d f n).length≤1048576*n
 | 0=>by simp [secT]
 | n+1=>by
  have h1:=Lg h f n
  have h2:=Yh h (f+n)
  rw [secT,List.length_append]; omega
def sectorT (d:TDisk) (f n:Nat):List UInt8×Bool:=if f+n≤d.Sectors.length then (secT d f n,true) else ([],false)
theorem Ls {d:TDisk} {a:Nat} (h:a<d.Sectors.length):readS d (a:Int)=(rsec d a,true):=by
 unfold readS
 rw [if_pos (by unfold inR; simp; omega)]; rfl
theorem Mk {d:TDisk} {a:Nat} (h:d.Sectors.length≤a):readS d (a:Int)=([],false):=by
 unfold readS
 rw [if_neg (by unfold inR; simp; omega)]
theorem Wh {d:TDisk} (h:DkS d) {f n:Nat} (h0:0<n) {step:List UInt8×Int→Option ((List UInt8×Int) ⊕ ((List UInt8×Bool) ⊕ List UInt8))}
  (h1:∀ (i:Nat) (o:List UInt8),i<n→f+i<d.Sectors.length→o.length≤1048576*i→step (o,(i:Int))=some (.inl (o++rsec d (f+i),((i+1:Nat):Int))))
  (h2:∀ (i:Nat) (o:List UInt8),i<n→d.Sectors.length≤f+i→step (o,(i:Int))=some (.inr (.inl ([],false))))
  (h3:∀ o,step (o,(n:Int))=some (.inr (.inr o))):(iter step ([],0)).bind (Sum.elim (fun r=>some r) (fun y=>some (y,true)))=some (sectorT d f n):=by
 unfold sectorT
 by_cases c:f+n≤d.Sectors.length
 ·have:=H8 (step:=step) (fun i=>(secT d f i,(i:Int))) n (r:=.inr (secT d f n)) ?_ (h3 _)
  ·rw [show ((secT d f 0,((0:Nat):Int)):List UInt8×Int)=([],0) from rfl] at this
   rw [this,if_pos c]; rfl
  ·intro i hi
   rw [h1 i _ hi (by omega) (Lg h f i)]; rfl
 ·have:=H8 (step:=step) (fun i=>(secT d f i,(i:Int))) (d.Sectors.length - f) (r:=.inl ([],false)) ?_ (h2 _ _ (by omega) (by omega))
  ·rw [show ((secT d f 0,((0:Nat):Int)):List UInt8×Int)=([],0) from rfl] at this
   rw [this,if_neg c]; rfl
  ·intro i hi
   rw [h1 i _ (by omega) (by omega) (Lg h f i)]; rfl
theorem Wq {d:TDisk} (h:DkS d) {f n:Nat} (hf:f≤1000) (h0:0<n) (hn:n≤100):Ez d (f:Int) (n:Int)=some (sectorT d f n):=by
 unfold Ez
 rw [M4,ob,if_pos (by unfold inR; simp; omega)]
 have e:∀ i:Nat,i<n→w64 ((f:Int)+(i:Int))=((f+i:Nat):Int):=fun i hi=>by rw [B4 (by omega) (by omega)]; omega
 refine Wh h h0 ?_ ?_ ?_
 ·intro i o hi hb ho
  have hr:=Yh h (f+i)
  unfold Y7
  rw [if_pos (by simpa using hi),if_neg (by simp),if_neg (by simp; omega),ob,if_neg (by simp),e i hi,Dv h,ob,Ls hb]
  dsimp only
  rw [if_neg (by simp),cat?_ok (by omega),ob,B9 (by omega)]
 ·intro i o hi hb
  unfold Y7
  rw [if_pos (by simpa using hi),if_neg (by simp)]
  by_cases c:(f:Int)>(d.Sectors.length:Int)
  ·rw [if_pos (by simpa using c),ob,if_pos rfl]
  ·rw [if_neg (by simpa using c),ob,if_neg (by simp),e i hi,Dv h,ob,Mk hb]
   rfl
 ·intro o
  unfold Y7
  simp
theorem Gg {d:TDisk} (h:DkS d) {f n:Nat} (hf:f≤1000) (h0:0<n) (hn:n≤100):R5 d (f:Int) (n:Int)=some (sectorT d f n):=by
 unfold R5
 rw [R2,ob,if_pos (by unfold inR; simp; omega)]
 have e:∀ i:Nat,i<n→w64 ((f:Int)+(i:Int))=((f+i:Nat):Int):=fun i hi=>by rw [B4 (by omega) (by omega)]; omega
 refine Wh h h0 ?_ ?_ ?_
 ·intro i o hi hb ho
  have hr:=Yh h (f+i)
  unfold T9
  rw [if_pos (by simpa using hi),e i hi,Ga h,ob,Ls hb]
  dsimp only
  rw [if_neg (by simp),cat?_ok (by omega),ob,B9 (by omega)]
 ·intro i o hi hb
  unfold T9
  rw [if_pos (by simpa using hi),e i hi,Ga h,ob,Mk hb]
  rfl
 ·intro o
  unfold T9
  simp
theorem Bl {d:TDisk} (h:DkS d):E2 d=some d:=by
 have h1:=h.sec.1
 have h2:=h.cache.1
 unfold E2
 rw [app?_ok (by simp; omega) (by simp; omega),ob,app?_ok (by simp; omega) (by simp; omega),ob]
 rfl
theorem Ek {d:TDisk} (h:DkS d):F5 d=some d:=by
 have h1:=h.sec.1
 have h2:=h.cache.1
 unfold F5 Bp Cq
 rw [app?_ok (by simp; omega) (by simp; omega),ob,app?_ok (by simp; omega) (by simp; omega),ob]
 rfl
def wOk (n:Nat) (w:TWrite):Bool:=inR w.At 0 ((n:Int) - 1)&&w.Text.length==32
def D7 (d:TDisk):Bool:=inR (d.Sectors.length:Int) 1 100&&(decide (d.Cache.length≤60)&&(d.Sectors.all (fun s=>s.length==32)&&d.Cache.all (wOk d.Sectors.length)))
theorem L9 {d:TDisk}:D7 d=true↔(1≤d.Sectors.length∧d.Sectors.length≤100)∧d.Cache.length≤60∧(∀ s∈d.Sectors,s.length=32)∧∀ w∈d.Cache,(0≤w.At∧w.At≤(d.Sectors.length:Int) - 1)∧w.Text.length=32:=by
 unfold D7 wOk inR
 simp only [Bool.and_eq_true,decide_eq_true_eq,List.all_eq_true,beq_iff_eq]
 constructor
 ·rintro ⟨h1,h2,h3,h4⟩
  exact ⟨by omega,h2,h3,h4⟩
 ·rintro ⟨h1,h2,h3,h4⟩
  exact ⟨by omega,h2,h3,h4⟩
theorem Vz {α:Type} (l:List α) (p:α→Bool):l.any (fun x=>!p x)=!(l.all p):=by
 rw [List.all_eq_not_any_not,Bool.not_not]
theorem Fx {d:TDisk} (h:DkS d):U3 d=some (D7 d):=by
 have h1:=h.sec.1
 have h2:=h.cache.1
 have a1:=Ho (l:=d.Sectors) (k:=d.Sectors.length) (by omega) (q:=fun s=>!(s.length==32)) (step:=Be d) (bad:=.inl false) (good:=.inr ()) (by
  intro i hi _
  unfold Be
  simp only [dlt hi,if_true,at?_nat hi,ob,B9 (show i<9223372036854775807 by omega)]
  by_cases c:d.Sectors[i].length=32
  ·rw [if_neg (by simp [c]),if_neg (by simp [c])]
  ·rw [if_pos (by simp; omega),if_pos (by simpa using c)]) (by unfold Be; simp)
 have a2:=Ho (l:=d.Cache) (k:=d.Cache.length) (by omega) (q:=fun w=>!(wOk d.Sectors.length w)) (step:=Bb d) (bad:=.inl false) (good:=.inr ()) (by
  intro i hi _
  unfold Bb wOk
  simp only [dlt hi,if_true,at?_nat hi,ob,M4,B4 (n:=(d.Sectors.length:Int) - 1) (by omega) (by omega),B9 (show i<9223372036854775807 by omega)]
  cases inR d.Cache[i].At 0 ((d.Sectors.length:Int) - 1)
  ·simp
  ·by_cases c:d.Cache[i].Text.length=32
   ·simp [c]
   ·have c':¬ ((d.Cache[i].Text.length:Int)=32):=by omega
    simp [c,c']) (by unfold Bb; simp)
 rw [List.take_length,Vz] at a1 a2
 unfold U3 D7
 rw [M4,ob]
 cases inR (d.Sectors.length:Int) 1 100 with
 | false=>rfl
 | true =>
  rw [if_pos rfl]
  by_cases c:d.Cache.length≤60
  ·rw [if_neg (by simp; omega),ob,if_neg (by simp),a1]
   cases d.Sectors.all (fun s=>s.length==32)
   ·simp
   ·simp only [Bool.not_true,Bool.false_eq_true,if_false,ob,Sum.elim_inr,a2]
    cases d.Cache.all (wOk d.Sectors.length) <;> simp [c]
  ·rw [if_pos (by simp; omega),ob,if_pos rfl]
   simp [c]
theorem Ei {d:TDisk} (h:DkS d):P0 d=some (D7 d):=by
 have h1:=h.sec.1
 have h2:=h.cache.1
 have a1:=Cs (x0:=d.Sectors) (q:=fun s=>!(s.length==32)) (by omega) (fun s _=>by
  unfold W9
  by_cases c:s.length=32
  ·simp [c]
  ·have c':¬ ((s.length:Int)=32):=by omega
   rw [show ((s.length:Int) != 32)=true by simpa using c',show (s.length==32)=false by simpa using c]; rfl)
 have a2:=Dh (x0:=d.Cache) (x1:=d) (q:=fun w=>!(wOk d.Sectors.length w)) (by omega) (fun w _=>by
  unfold T2 wOk
  rw [R2,ob,B4 (n:=(d.Sectors.length:Int) - 1) (by omega) (by omega)]
  cases inR w.At 0 ((d.Sectors.length:Int) - 1)
  ·simp
  ·by_cases c:w.Text.length=32
   ·simp [c]
   ·have c':¬ ((w.Text.length:Int)=32):=by omega
    rw [if_pos rfl,show ((w.Text.length:Int) != 32)=true by simpa using c',show (w.Text.length==32)=false by simpa using c]; rfl)
 rw [Vz] at a1 a2
 unfold P0 D7
 rw [R2,ob]
 cases inR (d.Sectors.length:Int) 1 100 with
 | false=>rfl
 | true =>
  rw [if_pos rfl]
  by_cases c:d.Cache.length≤60
  ·rw [if_neg (by simp; omega),ob,if_neg (by simp),a1,ob]
   cases d.Sectors.all (fun s=>s.length==32)
   ·simp
   ·simp only [Bool.not_true,Bool.false_eq_true,if_false,a2,ob]
    cases d.Cache.all (wOk d.Sectors.length) <;> simp [c]
  ·rw [if_pos (by simp; omega),ob,if_pos rfl]
   simp [c]
def wr (d:TDisk) (k:Int) (t:List UInt8):Option TDisk:=if D7 d&&(inR k 0 ((d.Sectors.length:Int) - 1)&&(t.length==32&&decide (d.Cache.length<60))) then some { Sectors:=d.Sectors,Cache:=d.Cache++[{ At:=k,Text:=t }] } else none
def wrR (d:TDisk) (o:Option TDisk):TDisk×Bool:=match o with
 | some d'=>(d',true)
 | none=>(d,false)
theorem A9k {d d':TDisk} {k:Int} {t:List UInt8} (h:wr d k t=some d'):D7 d'=true∧d'.Sectors=d.Sectors:=by
 unfold wr at h
 split at h
 ·rename_i hc
  cases h
  simp only [Bool.and_eq_true,decide_eq_true_eq,beq_iff_eq] at hc
  obtain ⟨h1,h2,h3,h4⟩:=hc
  obtain ⟨g1,g2,g3,g4⟩:=L9.1 h1
  unfold inR at h2
  simp only [Bool.and_eq_true,decide_eq_true_eq] at h2
  refine ⟨L9.2 ⟨g1,by simp; omega,g3,?_⟩,rfl⟩
  intro w hw
  rcases List.mem_append.1 hw with hw | hw
  ·exact g4 w hw
  ·rw [List.mem_singleton] at hw; subst hw
   exact ⟨h2,h3⟩
 ·cases h
theorem DkS.ofOk {d:TDisk} (h:D7 d=true):DkS d:=by
 obtain ⟨h1,h2,h3,h4⟩:=L9.1 h
 exact ⟨⟨by omega,fun y hy=>by rw [h3 y hy]; omega⟩,by omega,fun y hy=>by rw [(h4 y hy).2]; omega⟩
theorem A5n {d:TDisk} (h:DkS d) (k:Int) (t:List UInt8):L2 d k t=some (wrR d (wr d k t)):=by
 have h1:=h.sec.1
 have h2:=h.cache.1
 unfold L2 wr
 rw [Bl h,ob,Fx h,ob]
 cases D7 d with
 | false=>rfl
 | true =>
  rw [if_pos rfl,M4,ob,B4 (n:=(d.Sectors.length:Int) - 1) (by omega) (by omega)]
  cases inR k 0 ((d.Sectors.length:Int) - 1) with
  | false=>rfl
  | true =>
   rw [if_pos rfl]
   by_cases c:t.length=32
   ·rw [if_neg (by simp [c])]
    by_cases e:d.Cache.length<60
    ·rw [if_neg (by simp; omega),ob,if_neg (by simp),app?_ok (by simp; omega) (by simp; omega)]
     simp [c,e,wrR]
    ·rw [if_pos (by simp; omega),ob,if_pos rfl]
     simp [e,wrR]
   ·rw [if_pos (by simp; omega),ob,if_pos rfl]
    simp [c,wrR]
theorem A94 {d:TDisk} (h:DkS d) {k:Int} {t:List UInt8} (ht:t.length≤1048576) (hc:d.Cache.length≤1000):W0 d k t=some (wrR d (wr d k t)):=by
 have h1:=h.sec.1
 unfold W0 wr
 rw [Ek h,ob,app?_ok (by simp; omega) (by simp; omega),ob,Ei h,ob]
 cases hd:D7 d with
 | false=>rfl
 | true =>
  have h':DkS { Sectors:=d.Sectors,Cache:=d.Cache++[{ At:=k,Text:=t }] }:=by
   refine ⟨h.sec,by simp; omega,?_⟩
   intro y hy
   rcases List.mem_append.1 hy with hy | hy
   ·exact h.cache.2 y hy
   ·rw [List.mem_singleton] at hy; subst hy; exact ht
  obtain ⟨g1,g2,g3,g4⟩:=L9.1 hd
  rw [if_pos rfl,Ei h',ob]
  have e:D7 { Sectors:=d.Sectors,Cache:=d.Cache++[{ At:=k,Text:=t }] }=(inR k 0 ((d.Sectors.length:Int) - 1)&&(t.length==32&&decide (d.Cache.length<60))):=by
   rw [Bool.eq_iff_iff,L9]
   unfold inR
   simp only [Bool.and_eq_true,decide_eq_true_eq,beq_iff_eq,List.length_append,List.length_singleton]
   constructor
   ·rintro ⟨_,k2,_,k4⟩
    have:=k4 _ (List.mem_append_right _ (List.mem_singleton.2 rfl))
    exact ⟨this.1,this.2,by omega⟩
   ·rintro ⟨k1,k2,k3⟩
    refine ⟨g1,by omega,g3,?_⟩
    intro w hw
    rcases List.mem_append.1 hw with hw | hw
    ·exact g4 w hw
    ·rw [List.mem_singleton] at hw; subst hw; exact ⟨k1,k2⟩
  rw [e]
  cases (inR k 0 ((d.Sectors.length:Int) - 1)&&(t.length==32&&decide (d.Cache.length<60))) with
  | false=>simp [wrR]
  | true=>simp [wrR]
def setW (s:List (List UInt8)) (w:TWrite):List (List UInt8):=s.set w.At.toNat w.Text
def flush (d:TDisk):TDisk:=if D7 d then { Sectors:=d.Cache.foldl setW d.Sectors,Cache:=[] } else d
theorem Td:∀ (l:List TWrite) (s:List (List UInt8)),(l.foldl setW s).length=s.length
 | [],s=>rfl
 | w::l,s=>by rw [List.foldl_cons,Td l]; simp [setW]
theorem A2x:∀ (l:List TWrite) (s:List (List UInt8)),(∀ w∈l,w.Text.length=32)→(∀ x∈s,x.length=32)→∀ x∈l.foldl setW s,x.length=32
 | [],s,_,h,x,hx=>h x hx
 | w::l,s,hl,h,x,hx=>by
  rw [List.foldl_cons] at hx
  refine A2x l _ (fun w hw=>hl w (List.mem_cons_of_mem _ hw)) ?_ x hx
  intro y hy
  unfold setW at hy
  rcases List.mem_or_eq_of_mem_set hy with hy | hy
  ·exact h y hy
  ·rw [hy]; exact hl w List.mem_cons_self
theorem A76 {d:TDisk} (h:D7 d=true):D7 (flush d)=true:=by
 obtain ⟨h1,h2,h3,h4⟩:=L9.1 h
 unfold flush
 rw [if_pos h]
 refine L9.2 ⟨by rw [Td]; exact h1,by simp,A2x _ _ (fun w hw=>(h4 w hw).2) h3,by simp⟩
theorem Ya {d:TDisk} (_:D7 d=true) {step:Int×List (List UInt8)→Option ((Int×List (List UInt8)) ⊕ List (List UInt8))}
  (h1:∀ (i:Nat) (o:List (List UInt8)) (hi:i<d.Cache.length),o.length=d.Sectors.length→step ((i:Int),o)=some (.inl (((i+1:Nat):Int),setW o d.Cache[i])))
  (h2:∀ o,step ((d.Cache.length:Int),o)=some (.inr o)):iter step (0,d.Sectors)=some (d.Cache.foldl setW d.Sectors):=by
 have:=H8 (step:=step) (fun i=>((i:Int),(d.Cache.take i).foldl setW d.Sectors)) d.Cache.length (r:=d.Cache.foldl setW d.Sectors) ?_ ?_
 ·simpa using this
 ·intro i hi
  rw [h1 i _ hi (Td _ _),List.take_succ_eq_append_getElem hi,List.foldl_append]; rfl
 ·rw [h2,List.take_length]
theorem Pm {d:TDisk} (h:DkS d):G9 d=some (flush d):=by
 have h2:=h.cache.1
 unfold G9 flush
 rw [Bl h,ob,Fx h,ob]
 by_cases c:D7 d=true
 ·rw [if_pos c,if_pos c,Ya c]
  ·rfl
  ·intro i o hi ho
   have hw:=(L9.1 c).2.2.2 _ (List.getElem_mem hi)
   obtain ⟨n,hn⟩:∃ n:Nat,d.Cache[i].At=n:=⟨d.Cache[i].At.toNat,by omega⟩
   unfold Az setW
   rw [if_pos (dlt hi),at?_nat hi,ob,ob,hn,at?_nat (show n<o.length by omega),ob,ob,Qr,B9 (by omega),Int.toNat_natCast]
  ·intro o; unfold Az; simp
 ·rw [if_neg c,if_neg c]
theorem A4e {d:TDisk} (h:DkS d):Ae d=some (flush d):=by
 have h2:=h.cache.1
 unfold Ae flush
 rw [Ek h,ob,Ei h,ob]
 by_cases c:D7 d=true
 ·rw [if_pos c,if_pos c,Ya c]
  ·rfl
  ·intro i o hi ho
   have hw:=(L9.1 c).2.2.2 _ (List.getElem_mem hi)
   obtain ⟨n,hn⟩:∃ n:Nat,d.Cache[i].At=n:=⟨d.Cache[i].At.toNat,by omega⟩
   unfold Ax setW
   rw [if_pos (dlt hi),at?_nat hi,ob,hn,at?_nat (show n<o.length by omega),ob,ob,Qr,B9 (by omega),Int.toNat_natCast]
  ·intro o; unfold Ax; simp
 ·rw [if_neg c,if_neg c]
def lastG (l:List TRef):Nat→Int
 | 0=>0
 | i+1=>match l[i]? with | some r=>r.Gen | none=>0
theorem Hk {l:List TRef} {i:Nat} (h:i<l.length):lastG l (i+1)=l[i].Gen:=by simp [lastG,h]
def anyNo (l:List TRef) (n:Int):Bool:=l.any fun q=>q.No==n
def okS (l:List TRef) (ng:Int) (i:Nat):Bool:=match l[i]? with
 | some r=>inR r.No 0 10&&inR r.Gen 1 (w64 (ng - 1))&&(i==0||decide (lastG l i<r.Gen))&&!anyNo (l.take i) r.No
 | none=>true
def okI (l:List TRef) (ng:Int) (i:Nat):Bool:=match l[i]? with
 | some r=>inR r.Gen (w64 (lastG l i+1)) (w64 (ng - 1))&&inR r.No 0 10&&!anyNo (l.take i) r.No
 | none=>true
theorem M8 {n lo hi:Int}:inR n lo hi=true↔lo≤n∧n≤hi:=by unfold inR; simp
theorem A8n {l:List TRef} {ng:Int} (h:1≤ng) (h':ng≤1000000000):(List.range l.length).all (okS l ng)=(List.range l.length).all (okI l ng):=by
 have hw:w64 (ng - 1)=ng - 1:=B4 (by omega) (by omega)
 rw [Bool.eq_iff_iff,List.all_eq_true,List.all_eq_true]
 constructor
 ·intro hs i hi
  have hi':=List.mem_range.1 hi
  have h1:=hs i hi
  unfold okS at h1
  unfold okI
  rw [qG hi'] at h1 ⊢
  simp only [Bool.and_eq_true,M8,hw] at h1 ⊢
  obtain ⟨⟨⟨a,b⟩,c⟩,d⟩:=h1
  refine ⟨⟨⟨?_,b.2⟩,a⟩,d⟩
  cases i with
  | zero=>simp only [lastG]; rw [B4 (by omega) (by omega)]; omega
  | succ j =>
   have h2:=hs j (List.mem_range.2 (by omega))
   unfold okS at h2
   rw [qG (by omega)] at h2
   simp only [Bool.and_eq_true,M8,hw] at h2
   rw [Hk (by omega)] at c ⊢
   simp at c
   rw [B4 (by omega) (by omega)]; omega
 ·intro hs
  have key:∀ i,i<l.length→okS l ng i=true:=by
   intro i
   induction i with
   | zero =>
    intro hi
    have h1:=hs 0 (List.mem_range.2 hi)
    unfold okI at h1
    unfold okS
    rw [qG hi] at h1 ⊢
    simp only [Bool.and_eq_true,M8,hw,lastG] at h1 ⊢
    rw [B4 (by omega) (by omega)] at h1
    obtain ⟨⟨a,b⟩,c⟩:=h1
    exact ⟨⟨⟨b,by omega,a.2⟩,by simp⟩,c⟩
   | succ j ih =>
    intro hi
    have h1:=hs (j+1) (List.mem_range.2 hi)
    have h2:=ih (by omega)
    unfold okI at h1
    unfold okS at h2 ⊢
    rw [qG hi] at h1 ⊢
    rw [qG (by omega)] at h2
    simp only [Bool.and_eq_true,M8,hw] at h1 h2 ⊢
    rw [Hk (by omega)] at h1 ⊢
    rw [B4 (by omega) (by omega)] at h1
    obtain ⟨⟨a,b⟩,c⟩:=h1
    exact ⟨⟨⟨b,by omega,a.2⟩,by simp; omega⟩,c⟩
  exact fun i hi=>key i (List.mem_range.1 hi)
def stamps (c:TCheck):Bool:=inR c.Stamp 1 1000000000&&inR c.NextGen 1 1000000000&&inR c.NextSeq 1 1000000000&&inR c.NextValid 1 1000000000
def checkOk (c:TCheck):Bool:=stamps c&&inR c.Refs.length 1 11&&(List.range c.Refs.length).all (okS c.Refs c.NextGen)
theorem A1r {c:TCheck} (h:c.Refs.length≤1048576):Cg c=some (checkOk c):=by
 have hl:iter (Z6 c) 0=some (if (List.range c.Refs.length).all (okS c.Refs c.NextGen) then .inr () else .inl false):=by
  refine Jz (fun i=>(i:Int)) c.Refs.length _ ?_ ?_ ?_
  all_goals first
   | (unfold Z6; simp; done)
   | skip
  all_goals
   intro i hi hp
   have inner:iter (Ah c (i:Int) c.Refs[i]) 0=some (if anyNo (c.Refs.take i) c.Refs[i].No then .inl false else .inr ()):=by
    refine Ho (by omega) ?_ ?_
    ·intro j hj hji
     unfold Ah
     simp only [dlt hji,if_true,at?_nat hj,ob,B9 (show j<9223372036854775807 by omega)]
    ·unfold Ah
     simp
   have hprev:(if decide ((i:Int)>0) then (at? c.Refs (w64 ((i:Int) - 1))).bind fun v13=>(if decide (v13.Gen≥c.Refs[i].Gen) then some true else some false) else some false)=some (!(i==0||decide (lastG c.Refs i<c.Refs[i].Gen))):=by
    cases i with
    | zero=>simp
    | succ j =>
     have e:w64 (((j+1:Nat):Int) - 1)=(j:Int):=by rw [B4 (by omega) (by omega)]; omega
     rw [if_pos (by simp),e,at?_nat (show j<c.Refs.length by omega),Hk (by omega)]
     simp only [ob]
     by_cases hc:c.Refs[j].Gen<c.Refs[j+1].Gen
     ·rw [if_neg (by simpa using hc)]; simp [hc]
     ·rw [if_pos (by simp; omega)]; simp [hc]
   unfold okS at hp
   rw [qG hi] at hp
   dsimp only at hp
   unfold Z6
   simp only [dlt hi,if_true,at?_nat hi,ob,M4,inner,hprev]
   generalize inR c.Refs[i].No 0 10=b1 at hp ⊢
   generalize inR c.Refs[i].Gen 1 (w64 (c.NextGen - 1))=b2 at hp ⊢
   generalize (i==0||decide (lastG c.Refs i<c.Refs[i].Gen))=b3 at hp ⊢
   generalize anyNo (c.Refs.take i) c.Refs[i].No=b4 at hp ⊢
   revert hp
   cases b1 <;> cases b2 <;> cases b3 <;> cases b4 <;> simp [B9 (show i<9223372036854775807 by omega)]
 unfold Cg checkOk stamps
 simp only [M4,hl,ob]
 cases inR c.Stamp 1 1000000000 <;> cases inR c.NextGen 1 1000000000 <;> cases inR c.NextSeq 1 1000000000 <;> cases inR c.NextValid 1 1000000000 <;> cases inR (c.Refs.length:Int) 1 11 <;> cases (List.range c.Refs.length).all (okS c.Refs c.NextGen) <;> simp
theorem A2c {c:TCheck} (h:c.Refs.length≤1048576):Ch c=some (checkOk c):=by
 have hs:iter (V0 c) 0=some (if stamps c then .inr () else .inl false):=by
  have e1:iter (V0 c) 0=some (if ([c.Stamp,c.NextGen,c.NextSeq,c.NextValid].take 4).any (fun n=>!inR n 1 1000000000) then .inl false else .inr ()):=by
   refine Ho (by simp) ?_ ?_
   ·intro i hi _
    unfold V0
    simp only [dlt hi,if_true,at?_nat hi,ob,R2,B9 (show i<9223372036854775807 by simp at hi; omega)]
    cases inR [c.Stamp,c.NextGen,c.NextSeq,c.NextValid][i] 1 1000000000 <;> simp
   ·unfold V0
    simp
  rw [e1]
  unfold stamps
  simp
  cases inR c.Stamp 1 1000000000 <;> cases inR c.NextGen 1 1000000000 <;> cases inR c.NextSeq 1 1000000000 <;> cases inR c.NextValid 1 1000000000 <;> simp
 have hl:iter (Aq c) (0,0)=some (if (List.range c.Refs.length).all (okI c.Refs c.NextGen) then .inr () else .inl false):=by
  refine Jz (fun i=>(lastG c.Refs i,(i:Int))) c.Refs.length _ ?_ ?_ ?_
  all_goals first
   | (unfold Aq; simp; done)
   | skip
  all_goals
   intro i hi hp
   have hc:=Dq (x0:=c.Refs.take i) (x1:=c.Refs[i]) (q:=fun q=>q.No==c.Refs[i].No) (by simp; omega) (fun y _=>rfl)
   unfold okI at hp
   rw [qG hi] at hp
   dsimp only at hp
   unfold Aq
   simp only [dlt hi,if_true,at?_nat hi,ob,R2,sub?_take (Nat.le_of_lt hi),hc,Hk hi]
   unfold anyNo at hp
   generalize inR c.Refs[i].No 0 10=b1 at hp ⊢
   generalize inR c.Refs[i].Gen (w64 (lastG c.Refs i+1)) (w64 (c.NextGen - 1))=b2 at hp ⊢
   generalize (c.Refs.take i).any (fun q=>q.No==c.Refs[i].No)=b4 at hp ⊢
   revert hp
   cases b1 <;> cases b2 <;> cases b4 <;> simp [B9 (show i<9223372036854775807 by omega)]
 unfold Ch checkOk
 rw [hs]
 cases hst:stamps c with
 | false=>simp
 | true =>
  have hng:1≤c.NextGen∧c.NextGen≤1000000000:=by
   unfold stamps at hst
   simp only [Bool.and_eq_true,M8] at hst
   exact hst.1.1.2
  simp only [if_true,ob,Sum.elim_inr,R2,hl,A8n hng.1 hng.2]
  cases inR (c.Refs.length:Int) 1 11 <;> cases (List.range c.Refs.length).all (okI c.Refs c.NextGen) <;> simp
structure RecS (x:TRec):Prop where
 user:x.User.length≤1048576
 name:x.Name.length≤1048576
 text:x.Text.length≤1048576
def recOk (x:TRec):Bool:=inR x.Kind 1 5&&inR x.Valid 1 9999 &&
 (if x.Kind=1 then wordOk x.User&&wordOk x.Name&&inR x.Next 1 10000 else x.User==[]&&x.Name==[]&&x.Next==0) &&
 (if x.Kind=3∨x.Kind=4∨x.Kind=5 then inR x.Uid 1 9999 else x.Uid==0) &&
 (if x.Kind=3∨x.Kind=4 then inR x.Flags 0 7 else x.Flags==0) &&
 (if x.Kind=3 then decide (x.Text.length≤100) else x.Text==[])
theorem kinds {n:Int}:inR n 1 5=true→n=1∨n=2∨n=3∨n=4∨n=5:=by
 unfold inR
 intro h
 simp only [Bool.and_eq_true,decide_eq_true_eq] at h
 omega
theorem A8i {n:Int}:inR n 1 5=false→n≠1∧n≠2∧n≠3∧n≠4∧n≠5:=by
 unfold inR
 intro h
 simp only [Bool.and_eq_false_iff,decide_eq_false_iff_not] at h
 omega
theorem iteS {α:Type} {p:Prop} [Decidable p] {a b:α}:(if p then some a else some b)=some (if p then a else b):=by split <;> rfl
theorem Yo {x:TRec} (h:RecS x):Cu x=some (recOk x):=by
 have h1:=A1b (s:=x.User) (by have:=h.user; omega)
 have h2:=A1b (s:=x.Name) (by have:=h.name; omega)
 unfold Cu recOk
 simp only [M4,h1,h2,ob]
 cases hk:inR x.Kind 1 5 with
 | false=>simp
 | true =>
  cases hv:inR x.Valid 1 9999 with
  | false=>simp
  | true =>
   rcases kinds hk with k | k | k | k | k <;> simp [k,iteS] <;> grind
theorem Qk {x:TRec} (h:RecS x):Df x=some (recOk x):=by
 have h1:=A13 (s:=x.User) (by have:=h.user; omega)
 have h2:=A13 (s:=x.Name) (by have:=h.name; omega)
 unfold Df recOk
 simp only [R2,h1,h2,ob]
 cases hv:inR x.Valid 1 9999 with
 | false=>simp
 | true =>
  cases hk:inR x.Kind 1 5 with
  | false =>
   obtain ⟨k1,k2,k3,k4,k5⟩:=A8i hk
   simp [k1,k2,k3,k4,k5]
  | true =>
   rcases kinds hk with k | k | k | k | k <;> simp [k,iteS] <;> grind
theorem Ue {x:TRec} (h:recOk x=true):(0≤x.Valid∧x.Valid≤10000)∧(0≤x.Uid∧x.Uid≤10000)∧(0≤x.Next∧x.Next≤10000)∧(0≤x.Flags∧x.Flags≤10000)∧1≤x.Kind∧x.Kind≤5:=by
 unfold recOk inR at h
 grind
def short (s:List UInt8):List UInt8:=vt s.length++s
def recT (x:TRec):List UInt8:=[ofI (IntKind.u8.wrap x.Kind)]++vt x.Valid++vt x.Uid++vt x.Next++vt x.Flags++short x.User++short x.Name++short x.Text
def recText (x:TRec):List UInt8×Bool:=if recOk x then (recT x,true) else ([],false)
theorem Um {s:List UInt8} (h:s.length≤1048576):(short s).length≤s.length+11:=by
 unfold short
 have:=K7 (n:=s.length) (by omega)
 simp; omega
theorem Kd {s:List UInt8} (h:s.length≤1048576):Q0 s=some (short s):=by
 unfold Q0
 have:=K7 (n:=s.length) (by omega)
 rw [T7 (by omega) (by omega),ob,cat?_ok (by omega)]
 rfl
theorem Ka {x:TRec} (h:RecS x):Z8 x=some (recText x):=by
 unfold Z8 recText
 rw [Yo h,ob]
 cases hk:recOk x with
 | false=>rfl
 | true =>
  obtain ⟨r1,r2,r3,r4,_⟩:=Ue hk
  have l1:=K7 (n:=x.Valid) (by omega)
  have l2:=K7 (n:=x.Uid) (by omega)
  have l3:=K7 (n:=x.Next) (by omega)
  have l4:=K7 (n:=x.Flags) (by omega)
  have l5:=Um h.user
  have l6:=Um h.name
  have l7:=Um h.text
  have b1:=h.user
  have b2:=h.name
  have b3:=h.text
  simp only [if_true]
  rw [T7 (by omega) (by omega),ob,cat?_ok (by simp; omega),ob,
   T7 (by omega) (by omega),ob,cat?_ok (by simp; omega),ob,
   T7 (by omega) (by omega),ob,cat?_ok (by simp; omega),ob,
   T7 (by omega) (by omega),ob,cat?_ok (by simp; omega),ob,
   Kd h.user,ob,cat?_ok (by simp; omega),ob,
   Kd h.name,ob,cat?_ok (by simp; omega),ob,
   Kd h.text,ob,cat?_ok (by simp; omega),ob]
  rfl
def ctHead (c:TCheck):List UInt8:=vt c.Stamp++vt c.NextGen++vt c.NextSeq++vt c.NextValid++vt c.Refs.length
def refT (r:TRef):List UInt8:=vt r.No++vt r.Gen
def ctBody (c:TCheck):List UInt8:=ctHead c++c.Refs.flatMap refT
def ctOut (c:TCheck):List UInt8:=short (ctBody c++sealL (ctBody c))
def checkText (c:TCheck):List UInt8×Bool:=if checkOk c then (if 128<(ctOut c).length then ([],false) else (ctOut c,true)) else ([],false)
theorem Y3 {c:TCheck} (h:checkOk c=true):((1≤c.Stamp∧c.Stamp≤1000000000)∧(1≤c.NextGen∧c.NextGen≤1000000000)∧(1≤c.NextSeq∧c.NextSeq≤1000000000)∧(1≤c.NextValid∧c.NextValid≤1000000000))∧(1≤c.Refs.length∧c.Refs.length≤11)∧∀ r∈c.Refs,(0≤r.No∧r.No≤10)∧1≤r.Gen∧r.Gen≤1000000000:=by
 unfold checkOk stamps at h
 simp only [Bool.and_eq_true,M8] at h
 obtain ⟨⟨⟨⟨⟨h1,h2⟩,h3⟩,h4⟩,h5⟩,h6⟩:=h
 refine ⟨⟨h1,h2,h3,h4⟩,by omega,?_⟩
 intro r hr
 obtain ⟨i,hi⟩:=List.getElem?_of_mem hr
 have h7:=List.all_eq_true.1 h6 i (List.mem_range.2 (qI hi).1)
 unfold okS at h7
 rw [hi] at h7
 simp only [Bool.and_eq_true,M8] at h7
 rw [B4 (by omega) (by omega)] at h7
 obtain ⟨⟨⟨a,b⟩,_⟩,_⟩:=h7
 omega
theorem Zw {r:TRef} (h:(0≤r.No∧r.No≤10)∧1≤r.Gen∧r.Gen≤1000000000):(refT r).length≤22:=by
 have l1:=K7 (n:=r.No) (by omega)
 have l2:=K7 (n:=r.Gen) (by omega)
 unfold refT
 simp; omega
theorem A1j {α:Type} {f:α→List UInt8} {k:Nat}:∀ (l:List α),(∀ x∈l,(f x).length≤k)→(l.flatMap f).length≤k*l.length
 | [],_=>by simp
 | x::l,h=>by
  have h1:=A1j l (fun y hy=>h y (by simp [hy]))
  have h2:=h x (by simp)
  simp only [List.flatMap_cons,List.length_append,List.length_cons,Nat.mul_succ]
  omega
theorem Ph {c:TCheck} (h:checkOk c=true):(ctHead c).length≤55:=by
 obtain ⟨⟨h1,h2,h3,h4⟩,h5,_⟩:=Y3 h
 have l1:=K7 (n:=c.Stamp) (by omega)
 have l2:=K7 (n:=c.NextGen) (by omega)
 have l3:=K7 (n:=c.NextSeq) (by omega)
 have l4:=K7 (n:=c.NextValid) (by omega)
 have l5:=K7 (n:=c.Refs.length) (by omega)
 unfold ctHead
 simp; omega
theorem Hd {c:TCheck} (h:checkOk c=true):(ctBody c).length≤297:=by
 have h1:=Ph h
 obtain ⟨_,h5,h6⟩:=Y3 h
 have h2:=A1j (f:=refT) (k:=22) c.Refs (fun r hr=>Zw (h6 r hr))
 unfold ctBody
 simp only [List.length_append]
 omega
theorem A3k {α:Type} {l:List α} {f:α→List UInt8} {step:List UInt8×Int→Option ((List UInt8×Int) ⊕ List UInt8)} {y:List UInt8} {b:Nat}
  (hb:∀ i,i≤l.length→(y++(l.take i).flatMap f).length≤b)
  (h1:∀ (i:Nat) (h:i<l.length) (a:List UInt8),a.length≤b→step (a,(i:Int))=some (.inl (a++f l[i],((i+1:Nat):Int))))
  (h2:∀ a,step (a,(l.length:Int))=some (.inr a)):iter step (y,0)=some (y++l.flatMap f):=by
 have:=H8 (step:=step) (fun i=>(y++(l.take i).flatMap f,(i:Int))) l.length (r:=y++l.flatMap f) ?_ ?_
 ·simpa using this
 ·intro i hi
  rw [h1 i hi _ (hb i (by omega)),List.take_succ_eq_append_getElem hi,List.flatMap_append,List.append_assoc]
  simp
 ·rw [h2]; simp
theorem Hq {c:TCheck} (h:c.Refs.length≤1048576):V1 c=some (checkText c):=by
 unfold V1 checkText
 rw [A1r h,ob]
 cases hk:checkOk c with
 | false=>rfl
 | true =>
  obtain ⟨⟨h1,h2,h3,h4⟩,h5,h6⟩:=Y3 hk
  have l1:=K7 (n:=c.Stamp) (by omega)
  have l2:=K7 (n:=c.NextGen) (by omega)
  have l3:=K7 (n:=c.NextSeq) (by omega)
  have l4:=K7 (n:=c.NextValid) (by omega)
  have l5:=K7 (n:=c.Refs.length) (by omega)
  have lb:=Hd hk
  have hl:iter (V6 c) (ctHead c,0)=some (ctBody c):=by
   refine A3k (l:=c.Refs) (f:=refT) (b:=297) ?_ ?_ ?_
   ·intro i hi
    have h7:=A1j (f:=refT) (k:=22) (c.Refs.take i) (fun r hr=>Zw (h6 r (List.mem_of_mem_take hr)))
    have h8:=Ph hk
    simp only [List.length_append,List.length_take] at h7 ⊢
    omega
   ·intro i hi a ha
    have hr:=h6 _ (List.getElem_mem hi)
    have q1:=K7 (n:=c.Refs[i].No) (by omega)
    have q2:=K7 (n:=c.Refs[i].Gen) (by omega)
    unfold V6
    simp only [dlt hi,if_true,at?_nat hi,ob,B9 (show i<9223372036854775807 by omega)]
    rw [T7 (by omega) (by omega),ob,cat?_ok (by omega),ob,T7 (by omega) (by omega),ob,cat?_ok (by simp; omega),ob]
    simp [refT]
   ·intro a
    unfold V6
    simp
  simp only [if_true]
  rw [T7 (by omega) (by omega),ob,T7 (by omega) (by omega),ob,cat?_ok (by omega),ob,T7 (by omega) (by omega),ob,cat?_ok (by simp; omega),ob,T7 (by omega) (by omega),ob,cat?_ok (by simp; omega),ob,T7 (by omega) (by omega),ob,cat?_ok (by simp; omega),ob]
  rw [show vt c.Stamp++vt c.NextGen++vt c.NextSeq++vt c.NextValid++vt c.Refs.length=ctHead c from rfl,hl,ob,Wj (by omega),ob]
  unfold sealed
  rw [if_neg (by omega)]
  simp only []
  rw [Kd (by rw [List.length_append,X1]; omega),ob]
  show _=some (if 128<(ctOut c).length then ([],false) else (ctOut c,true))
  unfold ctOut
  by_cases hc:128<(short (ctBody c++sealL (ctBody c))).length
  ·have hc':(128:Int)<((short (ctBody c++sealL (ctBody c))).length:Int):=by omega
   rw [if_pos hc]; simp [hc']
  ·have hc':¬ (128:Int)<((short (ctBody c++sealL (ctBody c))).length:Int):=by omega
   rw [if_neg hc]; simp [hc']
theorem Ha {c:TCheck} (h:c.Refs.length≤1048576):V2 c=some (checkText c):=by
 unfold V2 checkText
 rw [A2c h,ob]
 cases hk:checkOk c with
 | false=>rfl
 | true =>
  obtain ⟨⟨h1,h2,h3,h4⟩,h5,h6⟩:=Y3 hk
  have l1:=K7 (n:=c.Stamp) (by omega)
  have l2:=K7 (n:=c.NextGen) (by omega)
  have l3:=K7 (n:=c.NextSeq) (by omega)
  have l4:=K7 (n:=c.NextValid) (by omega)
  have l5:=K7 (n:=c.Refs.length) (by omega)
  have lb:=Hd hk
  have hl:iter (W5 c) (ctHead c,0)=some (ctBody c):=by
   refine A3k (l:=c.Refs) (f:=refT) (b:=297) ?_ ?_ ?_
   ·intro i hi
    have h7:=A1j (f:=refT) (k:=22) (c.Refs.take i) (fun r hr=>Zw (h6 r (List.mem_of_mem_take hr)))
    have h8:=Ph hk
    simp only [List.length_append,List.length_take] at h7 ⊢
    omega
   ·intro i hi a ha
    have hr:=h6 _ (List.getElem_mem hi)
    have q1:=K7 (n:=c.Refs[i].No) (by omega)
    have q2:=K7 (n:=c.Refs[i].Gen) (by omega)
    unfold W5
    simp only [dlt hi,if_true,at?_nat hi,ob,B9 (show i<9223372036854775807 by omega)]
    rw [Bx (by omega) (by omega),ob,Bx (by omega) (by omega),ob,cat?_ok (by omega),ob,cat?_ok (by simp; omega),ob]
    simp [refT]
   ·intro a
    unfold W5
    simp
  simp only [if_true]
  rw [Bx (by omega) (by omega),ob,Bx (by omega) (by omega),ob,cat?_ok (by omega),ob,Bx (by omega) (by omega),ob,cat?_ok (by simp; omega),ob,Bx (by omega) (by omega),ob,cat?_ok (by simp; omega),ob,Bx (by omega) (by omega),ob,cat?_ok (by simp; omega),ob]
  rw [show vt c.Stamp++vt c.NextGen++vt c.NextSeq++vt c.NextValid++vt c.Refs.length=ctHead c from rfl,hl,ob,Uk (by omega),ob,cat?_ok (by rw [X1]; omega),ob]
  have e4:(ctBody c++sealL (ctBody c)).length=(ctBody c).length+4:=by rw [List.length_append,X1]
  have q1:=K7 (n:=((ctBody c++sealL (ctBody c)).length:Nat)) (by omega)
  rw [Bx (by omega) (by omega),ob,cat?_ok (by omega),ob]
  show _=some (if 128<(ctOut c).length then ([],false) else (ctOut c,true))
  rw [show vt ((ctBody c++sealL (ctBody c)).length:Nat)++(ctBody c++sealL (ctBody c))=ctOut c from rfl]
  by_cases hc:128<(ctOut c).length
  ·rw [if_pos hc,if_pos (by simp; omega)]
  ·rw [if_neg hc,if_neg (by simp; omega)]
theorem Vc (b:UInt8):ofI (b.toNat:Int)=b:=by
 simp [ofI]
theorem Me {n:Nat} (h:n<256):(ofI (n:Int)).toNat=n:=by
 simp [ofI]; omega
def dig:Nat→List UInt8→Option (Nat×Nat)
 | 0,_=>none
 | _+1,[]=>none
 | f+1,b::r=>if b.toNat<128 then some (b.toNat,1) else match dig f r with
  | some x=>some (b.toNat - 128+128*x.1,x.2+1)
  | none=>none
theorem Qm:∀ {f:Nat} {r:List UInt8} {x:Nat×Nat},dig f r=some x→1≤x.2∧x.2≤r.length∧x.2≤f∧x.1<128 ^ x.2
 | 0,_,_,h=>by simp [dig] at h
 | _+1,[],_,h=>by simp [dig] at h
 | f+1,b::r,x,h=>by
  simp only [dig] at h
  split at h
  ·cases h; simp; omega
  ·split at h
   ·rename_i y hy
    cases h
    obtain ⟨h1,h2,h3,h4⟩:=Qm hy
    have:=b.toNat_lt
    refine ⟨by simp,by simpa using h2,by simpa using h3,?_⟩
    show _<128 ^ (y.2+1)
    rw [Nat.pow_succ]
    simp only []
    omega
   ·cases h
theorem A3n:∀ {f:Nat} {r:List UInt8} {x:Nat×Nat},dig f r=some x→x.1=0→r[x.2 - 1]?=some 0
 | 0,_,_,h,_=>by simp [dig] at h
 | _+1,[],_,h,_=>by simp [dig] at h
 | f+1,b::r,x,h,h0=>by
  simp only [dig] at h
  split at h
  ·cases h
   simp only at h0
   simp
   exact UInt8.toNat_inj.1 h0
  ·split at h
   ·rename_i y hy
    cases h
    obtain ⟨h1,_⟩:=Qm hy
    have:=A3n hy (by simp only at h0; omega)
    obtain ⟨c,hc⟩:∃ c,y.2=c+1:=⟨y.2 - 1,by omega⟩
    simp only [hc,Nat.add_sub_cancel] at this ⊢
    simpa using this
   ·cases h
theorem A10:∀ {f:Nat} {r:List UInt8} {x:Nat×Nat},dig f r=some x→((vtl x.1).map ofI=r.take x.2↔¬ (1<x.2∧r[x.2 - 1]?=some 0))
 | 0,_,_,h=>by simp [dig] at h
 | _+1,[],_,h=>by simp [dig] at h
 | f+1,b::r,x,h=>by
  simp only [dig] at h
  split at h
  ·cases h
   rw [X4 (by simp only; omega)]
   simp [Vc]
  ·split at h
   ·rename_i hb y hy
    cases h
    have hl:=b.toNat_lt
    obtain ⟨h1,h2,_⟩:=Qm hy
    have ih:=A10 hy
    obtain ⟨c,hc⟩:∃ c,y.2=c+1:=⟨y.2 - 1,by omega⟩
    simp only []
    by_cases h0:y.1=0
    ·have hz:=A3n hy h0
     rw [hc] at hz
     simp only [Nat.add_sub_cancel] at hz
     rw [h0,X4 (by omega)]
     constructor
     ·intro e
      have:=congrArg List.length e
      rw [List.length_take] at this
      simp only [List.length_map,List.length_cons,List.length_nil] at this
      omega
     ·intro e
      refine absurd ⟨by omega,?_⟩ e
      simp only [Nat.add_sub_cancel,hc]
      simpa using hz
    ·have e1:(b.toNat - 128+128*y.1)%128=b.toNat - 128:=by omega
     have e2:(b.toNat - 128+128*y.1) / 128=y.1:=by omega
     rw [Ml (by omega),e1,e2]
     have e3:ofI ((b.toNat - 128+128:Nat):Int)=b:=by
      rw [show b.toNat - 128+128=b.toNat by omega]; exact Vc b
     simp only [List.map_cons,e3,List.take_succ_cons,List.cons.injEq,true_and,ih,Nat.add_sub_cancel]
     rw [hc]
     simp only [Nat.add_sub_cancel,List.getElem?_cons_succ]
     constructor
     ·intro hh he
      cases c with
      | zero =>
       cases f with
       | zero=>simp [dig] at hy
       | succ f =>
        cases r with
        | nil=>simp at h2; omega
        | cons b2 r =>
         simp at he
         subst he
         simp [dig] at hy
         rw [← hy] at h0
         exact h0 rfl
      | succ c=>exact hh ⟨by omega,he.2⟩
     ·intro hh he
      exact hh ⟨by omega,he.2⟩
   ·cases h
theorem A3d:∀ (k n:Nat),n<128 ^ (k+1)→(vtl n).length≤k+1
 | 0,n,h=>by rw [X4 (by simp at h; omega)]; simp
 | k+1,n,h=>by
  by_cases hb:127<n
  ·rw [Ml hb]
   have:=A3d k (n / 128) (by rw [Nat.pow_succ] at h; exact Nat.div_lt_of_lt_mul (by rw [Nat.mul_comm]; exact h))
   simp; omega
  ·rw [X4 (by omega)]; simp
theorem A59:∀ (f n:Nat) (r:List UInt8),(vtl n).length≤f→dig f ((vtl n).map ofI++r)=some (n,(vtl n).length)
 | 0,n,r,h=>by
  exfalso
  unfold vtl at h
  split at h <;> simp at h
 | f+1,n,r,h=>by
  by_cases hb:127<n
  ·rw [Ml hb] at h ⊢
   have ih:=A59 f (n / 128) r (by simpa using h)
   simp only [List.map_cons,List.cons_append,dig,Me (show n%128+128<256 by omega)]
   rw [if_neg (by omega),ih]
   simp; omega
  ·rw [X4 (by omega)]
   simp only [List.map_cons,List.map_nil,List.cons_append,dig,Me (show n<256 by omega)]
   rw [if_pos (by omega)]
   simp
theorem A1m (n:Nat):vt (n:Int)=(vtl n).map ofI:=by
 unfold vt; rw [if_pos (by omega)]; simp
def rv (t:List UInt8) (a:Nat):Option (Nat×Nat):=match dig 5 (t.drop a) with
 | some x=>if x.1≤1000000000∧vt (x.1:Int)=(t.drop a).take x.2 then some (x.1,a+x.2) else none
 | none=>none
def rvR (o:Option (Nat×Nat)):Int×Int×Bool:=match o with
 | some x=>((x.1:Int),(x.2:Int),true)
 | none=>(0,0,false)
theorem A1d {t:List UInt8} {a n:Nat} {r:List UInt8} (h:t.drop a=vt (n:Int)++r) (hn:n≤1000000000):rv t a=some (n,a+(vt (n:Int)).length):=by
 have hl:(vtl n).length≤5:=A3d 4 n (by omega)
 unfold rv
 rw [h,A1m,A59 5 n r hl]
 simp [hn,A1m]
theorem Kj {t:List UInt8} {a:Nat} {x:Nat×Nat} (h:rv t a=some x):a<x.2∧x.2≤t.length∧x.1≤1000000000:=by
 unfold rv at h
 split at h
 ·rename_i y hy
  split at h
  ·rename_i hc
   cases h
   obtain ⟨h1,h2,_⟩:=Qm hy
   simp at h2
   exact ⟨by simp only; omega,by simp only; omega,hc.1⟩
  ·cases h
 ·cases h
theorem andv127' (b:UInt8):andv .i64 (b.toNat:Int) 127=((b.toNat%128:Nat):Int):=andv127 (by have:=b.toNat_lt; omega)
theorem A96 {a x j:Nat} (ha:a<2 ^ j) (h:a+x*2 ^ j<9223372036854775808):orv .i64 (a:Int) ((x*2 ^ j:Nat):Int)=((a+x*2 ^ j:Nat):Int):=by
 show IntKind.i64.wrap ((BitVec.ofInt 64 (a:Int) ||| BitVec.ofInt 64 ((x*2 ^ j:Nat):Int)).toNat:Int)=_
 have e1:BitVec.ofInt 64 (a:Int)=BitVec.ofNat 64 a:=by simp
 have e2:BitVec.ofInt 64 ((x*2 ^ j:Nat):Int)=BitVec.ofNat 64 (x*2 ^ j):=BitVec.ofInt_natCast ..
 rw [e1,e2]
 have e3:(BitVec.ofNat 64 a ||| BitVec.ofNat 64 (x*2 ^ j)).toNat=a+x*2 ^ j:=by
  rw [BitVec.toNat_or]
  simp only [BitVec.toNat_ofNat]
  rw [Nat.mod_eq_of_lt (a:=a) (by omega),Nat.mod_eq_of_lt (a:=x*2 ^ j) (by omega),Nat.or_comm,Nat.mul_comm x,← Nat.two_pow_add_eq_or_of_lt ha]
  omega
 rw [e3]
 exact Fo (by omega)
theorem p128 (k:Nat):128 ^ k=2 ^ (7*k):=by rw [Nat.pow_mul]
theorem Rh {t:List UInt8} {a:Nat} (ht:t.length≤4611686018427387904) (ha:a≤t.length):∀ (f k acc:Nat),f+k=5→acc<128 ^ k →
  (iter (Q5 t (a:Int)) ((acc:Int),(k:Int))).bind (Sum.elim (fun r=>some r) (fun _=>some (0,0,false)))=some (match dig f (t.drop (a+k)) with
   | none=>(0,0,false)
   | some x=>if 1000000000<acc+x.1*128 ^ k∨((t.drop (a+k))[x.2 - 1]?=some 0∧1<k+x.2) then (0,0,false) else (((acc+x.1*128 ^ k:Nat):Int),((a+k+x.2:Nat):Int),true))
 | 0,k,acc,hk,_=>by
  have:k=5:=by omega
  subst this
  rw [D0 (r:=.inr ()) (by unfold Q5; simp)]
  simp [dig]
 | f+1,k,acc,hk,hacc=>by
  have ew:w64 ((a:Int)+(k:Int))=((a+k:Nat):Int):=by rw [B4 (by omega) (by omega)]; omega
  by_cases hlt:a+k<t.length
  ·have hd:t.drop (a+k)=t[a+k]::t.drop (a+k+1):=List.drop_eq_getElem_cons hlt
   have hb:=(t[a+k]).toNat_lt
   generalize hbv:t[a+k]=b at hd hb
   have e7:w64 (7*(k:Int))=((7*k:Nat):Int):=by rw [B4 (by omega) (by omega)]; omega
   have hpk:128 ^ k≤128 ^ 4:=Nat.pow_le_pow_right (by omega) (by omega)
   have hpp:(b.toNat%128)*128 ^ k≤127*128 ^ 4:=Nat.mul_le_mul (by omega) hpk
   have es:shl? .i64 ((b.toNat%128:Nat):Int) ((7*k:Nat):Int)=some (((b.toNat%128)*2 ^ (7*k):Nat):Int):=by
    unfold shl?
    rw [if_neg (by omega)]
    have hm:min ((7*k:Nat):Int).toNat IntKind.i64.bits=7*k:=by
     simp [IntKind.bits]; omega
    rw [hm]
    have:((b.toNat%128:Nat):Int)*2 ^ (7*k)=(((b.toNat%128)*2 ^ (7*k):Nat):Int):=by simp
    rw [this]
    exact congrArg some (Fo (by rw [← p128]; omega))
   have eo:orv .i64 (acc:Int) (((b.toNat%128)*2 ^ (7*k):Nat):Int)=((acc+(b.toNat%128)*128 ^ k:Nat):Int):=by
    rw [A96 (by rw [← p128]; exact hacc) (by rw [← p128]; omega),p128]
   have eb:w64 ((b.toNat:Nat):Int)=(b.toNat:Int):=Fo (by omega)
   have hst:Q5 t (a:Int) ((acc:Int),(k:Int))=if 127<b.toNat then some (.inl (((acc+(b.toNat%128)*128 ^ k:Nat):Int),((k+1:Nat):Int))) else if (b.toNat=0∧0<k)∨1000000000<acc+(b.toNat%128)*128 ^ k then some (.inr (.inl (0,0,false))) else some (.inr (.inl (((acc+(b.toNat%128)*128 ^ k:Nat):Int),((a+k+1:Nat):Int),true))):=by
    unfold Q5
    simp only [show decide ((k:Int)<5)=true from by simp; omega,if_true,ew,show decide (((a+k:Nat):Int)<(t.length:Int))=true from by simp; omega,ob,bt?_nat hlt,hbv,eb,andv127',e7,es,eo,B9 (show k<9223372036854775807 by omega),B9 (show a+k<9223372036854775807 by omega)]
    by_cases g1:127<b.toNat
    ·rw [if_pos g1,if_pos (by simp; omega)]
    ·rw [if_neg g1,if_neg (by simp; omega)]
     generalize acc+b.toNat%128*128 ^ k=M
     by_cases g2:b.toNat=0 <;> by_cases g3:0<k <;> by_cases g4:1000000000<M
     all_goals
      have g4':decide ((M:Int)>1000000000)=decide (1000000000<M):=by
       rw [decide_eq_decide]; omega
      rw [g4']
      have g2':((b.toNat:Int)==0)=decide (b.toNat=0):=by
       rw [Bool.eq_iff_iff]; simp
      rw [g2']
      simp [g2,g3,g4]
   by_cases g1:127<b.toNat
   ·rw [if_pos g1] at hst
    have hq:(b.toNat%128)*128 ^ k≤127*128 ^ k:=Nat.mul_le_mul_right _ (by omega)
    rw [Q6 hst,Rh ht ha f (k+1) _ (by omega) (by rw [Nat.pow_succ]; omega),hd]
    simp only [dig,if_neg (show ¬ b.toNat<128 by omega)]
    have ed:t.drop (a+(k+1))=t.drop (a+k+1):=by rw [Nat.add_assoc]
    rw [ed]
    cases hdg:dig f (t.drop (a+k+1)) with
    | none=>rfl
    | some x =>
     obtain ⟨h1,_⟩:=Qm hdg
     obtain ⟨c,hc⟩:∃ c,x.2=c+1:=⟨x.2 - 1,by omega⟩
     have ev:acc+b.toNat%128*128 ^ k+x.1*128 ^ (k+1)=acc+(b.toNat - 128+128*x.1)*128 ^ k:=by
      rw [show b.toNat%128=b.toNat - 128 by omega,Nat.pow_succ,Nat.add_mul]
      rw [show 128*x.1*128 ^ k=x.1*(128 ^ k*128) by rw [Nat.mul_comm 128,Nat.mul_assoc,Nat.mul_comm 128]]
      omega
     have ei:(b::t.drop (a+k+1))[x.2+1 - 1]?=(t.drop (a+k+1))[x.2 - 1]?:=by
      rw [hc]; simp
     have e4:a+(k+1)+x.2=a+k+(x.2+1):=by omega
     have e5:k+1+x.2=k+(x.2+1):=by omega
     simp only [ev,ei,e4,e5]
   ·rw [if_neg g1] at hst
    rw [hd]
    simp only [dig,if_pos (show b.toNat<128 by omega)]
    have em:b.toNat%128=b.toNat:=by omega
    rw [em] at hst
    have hz:(some b=some (0:UInt8))↔b.toNat=0:=by
     rw [Option.some_inj]
     exact ⟨fun h=>by rw [h]; rfl,fun h=>UInt8.toNat_inj.1 (by simpa using h)⟩
    by_cases g2:(b.toNat=0∧0<k)∨1000000000<acc+b.toNat*128 ^ k
    ·rw [if_pos g2] at hst
     rw [D0 hst,if_pos]
     ·rfl
     ·rcases g2 with g | g
      ·exact .inr ⟨by simpa using hz.2 g.1,by omega⟩
      ·exact .inl g
    ·rw [if_neg g2] at hst
     rw [D0 hst,if_neg]
     ·rfl
     ·rintro (g | g)
      ·exact g2 (.inr g)
      ·exact g2 (.inl ⟨hz.1 (by simpa using g.1),by omega⟩)
  ·rw [D0 (r:=.inr ()) (by unfold Q5; simp only [ew]; rw [show decide (((a+k:Nat):Int)<(t.length:Int))=false from by simp; omega]; simp)]
   rw [List.drop_eq_nil_of_le (by omega)]
   simp [dig]
theorem Ra {t:List UInt8} {a:Nat} (ht:t.length≤4611686018427387904) (ha:a≤t.length):∀ (f k acc:Nat),f+k=5→acc<128 ^ k →
  (iter (U8 t (a:Int)) ((acc:Int),((128 ^ k:Nat):Int),((a+k:Nat):Int))).bind (Sum.elim (fun r=>some r) (fun _=>some (0,0,false)))=some (match dig f (t.drop (a+k)) with
   | none=>(0,0,false)
   | some x=>if 1000000000<acc+x.1*128 ^ k∨vt ((acc+x.1*128 ^ k:Nat):Int)≠(t.drop a).take (k+x.2) then (0,0,false) else (((acc+x.1*128 ^ k:Nat):Int),((a+k+x.2:Nat):Int),true))
 | 0,k,acc,hk,_=>by
  have:k=5:=by omega
  subst this
  have ew:w64 ((a:Int)+5)=((a+5:Nat):Int):=by rw [B4 (by omega) (by omega)]; omega
  rw [D0 (r:=.inr ()) (by
   unfold U8
   simp only [ew]
   rw [show decide (((a+5:Nat):Int)<((a+5:Nat):Int))=false from by simp]
   cases decide (((a+5:Nat):Int)<(t.length:Int)) <;> simp)]
  simp [dig]
 | f+1,k,acc,hk,hacc=>by
  have ew:w64 ((a:Int)+5)=((a+5:Nat):Int):=by rw [B4 (by omega) (by omega)]; omega
  by_cases hlt:a+k<t.length
  ·have hd:t.drop (a+k)=t[a+k]::t.drop (a+k+1):=List.drop_eq_getElem_cons hlt
   have hb:=(t[a+k]).toNat_lt
   generalize hbv:t[a+k]=b at hd hb
   have hpk:128 ^ k≤128 ^ 4:=Nat.pow_le_pow_right (by omega) (by omega)
   have hpp:(b.toNat%128)*128 ^ k≤127*128 ^ 4:=Nat.mul_le_mul (by omega) hpk
   have hq:(b.toNat%128)*128 ^ k≤127*128 ^ k:=Nat.mul_le_mul_right _ (by omega)
   have eb:w64 ((b.toNat:Nat):Int)=(b.toNat:Int):=Fo (by omega)
   have em:w64 (Int.tmod (b.toNat:Int) 128*((128 ^ k:Nat):Int))=(((b.toNat%128)*128 ^ k:Nat):Int):=by
    rw [Int.tmod_eq_emod_of_nonneg (by omega)]
    have:((b.toNat:Int)%128)*((128 ^ k:Nat):Int)=(((b.toNat%128)*128 ^ k:Nat):Int):=by simp
    rw [this]
    exact Fo (by omega)
   have ea:w64 ((acc:Int)+(((b.toNat%128)*128 ^ k:Nat):Int))=((acc+(b.toNat%128)*128 ^ k:Nat):Int):=by
    rw [← Int.natCast_add]; exact Fo (by omega)
   have e128:w64 (((128 ^ k:Nat):Int)*128)=((128 ^ (k+1):Nat):Int):=by
    rw [show ((128 ^ k:Nat):Int)*128=((128 ^ (k+1):Nat):Int) by rw [Nat.pow_succ]; simp]
    exact Fo (by rw [Nat.pow_succ]; omega)
   have hsub:sub? t (a:Int) ((a+k+1:Nat):Int)=some ((t.drop a).take (k+1)):=by
    unfold sub?
    rw [if_pos (by omega)]
    have e1:((a+k+1:Nat):Int).toNat=a+(k+1):=by omega
    have e2:(a:Int).toNat=a:=by omega
    rw [e1,e2,List.drop_take]
    congr 2
    omega
   have hst:U8 t (a:Int) ((acc:Int),((128 ^ k:Nat):Int),((a+k:Nat):Int))=if 127<b.toNat then some (.inl (((acc+(b.toNat%128)*128 ^ k:Nat):Int),((128 ^ (k+1):Nat):Int),((a+k+1:Nat):Int))) else if 1000000000<acc+(b.toNat%128)*128 ^ k∨vt ((acc+(b.toNat%128)*128 ^ k:Nat):Int)≠(t.drop a).take (k+1) then some (.inr (.inl (0,0,false))) else some (.inr (.inl (((acc+(b.toNat%128)*128 ^ k:Nat):Int),((a+k+1:Nat):Int),true))):=by
    unfold U8
    simp only [show decide (((a+k:Nat):Int)<(t.length:Int))=true from by simp; omega,if_true,ew,show decide (((a+k:Nat):Int)<((a+5:Nat):Int))=true from by simp; omega,ob,bt?_nat hlt,hbv,eb,em,ea,e128,hsub,B9 (show a+k<9223372036854775807 by omega)]
    rw [T7 (by omega) (by omega),ob]
    generalize acc+b.toNat%128*128 ^ k=M
    by_cases g1:127<b.toNat
    ·rw [if_pos g1,if_neg (by simp; omega)]
    ·rw [if_neg g1,if_pos (by simp; omega)]
     have g4':decide ((M:Int)>1000000000)=decide (1000000000<M):=by
      rw [decide_eq_decide]; omega
     rw [g4']
     by_cases g3:1000000000<M <;> by_cases g4:vt (M:Int)=(t.drop a).take (k+1) <;> simp [g3,g4]
   by_cases g1:127<b.toNat
   ·rw [if_pos g1] at hst
    have ih:=Ra ht ha f (k+1) (acc+(b.toNat%128)*128 ^ k) (by omega) (by rw [Nat.pow_succ]; omega)
    rw [show a+(k+1)=a+k+1 by omega] at ih
    rw [Q6 hst,ih,hd]
    simp only [dig,if_neg (show ¬ b.toNat<128 by omega)]
    cases hdg:dig f (t.drop (a+k+1)) with
    | none=>rfl
    | some x =>
     have ev:acc+b.toNat%128*128 ^ k+x.1*128 ^ (k+1)=acc+(b.toNat - 128+128*x.1)*128 ^ k:=by
      rw [show b.toNat%128=b.toNat - 128 by omega,Nat.pow_succ,Nat.add_mul]
      rw [show 128*x.1*128 ^ k=x.1*(128 ^ k*128) by rw [Nat.mul_comm 128,Nat.mul_assoc,Nat.mul_comm 128]]
      omega
     have e4:a+k+1+x.2=a+k+(x.2+1):=by omega
     have e5:k+1+x.2=k+(x.2+1):=by omega
     simp only [ev,e4,e5]
   ·rw [if_neg g1] at hst
    rw [hd]
    simp only [dig,if_pos (show b.toNat<128 by omega)]
    have em:b.toNat%128=b.toNat:=by omega
    rw [em] at hst
    by_cases g2:1000000000<acc+b.toNat*128 ^ k∨vt ((acc+b.toNat*128 ^ k:Nat):Int)≠(t.drop a).take (k+1)
    ·rw [if_pos g2] at hst
     rw [D0 hst,if_pos g2]; rfl
    ·rw [if_neg g2] at hst
     rw [D0 hst,if_neg g2]; rfl
  ·rw [D0 (r:=.inr ()) (by unfold U8; rw [show decide (((a+k:Nat):Int)<(t.length:Int))=false from by simp; omega]; simp)]
   rw [List.drop_eq_nil_of_le (by omega)]
   simp [dig]
theorem A1x {t:List UInt8} {a:Nat} (h:t.length<a):rv t a=none:=by
 unfold rv
 rw [List.drop_eq_nil_of_le (by omega)]
 simp [dig]
theorem Ma {t:List UInt8} (ht:t.length≤4611686018427387904) (a:Nat):Ag t (a:Int)=some (rvR (rv t a)):=by
 unfold Ag
 rw [M4,ob]
 by_cases ha:a≤t.length
 ·rw [if_pos (by unfold inR; simp; omega)]
  have:=Ra ht ha 5 0 0 (by omega) (by simp)
  simp only [Nat.pow_zero,Nat.mul_one,Nat.zero_add,Nat.add_zero] at this
  rw [show ((0:Nat):Int)=0 from rfl,show ((1:Nat):Int)=1 from rfl] at this
  rw [this]
  unfold rv rvR
  cases hd:dig 5 (t.drop a) with
  | none=>rfl
  | some x =>
   simp only []
   by_cases g1:1000000000<x.1
   ·rw [if_pos (.inl g1),if_neg (by omega)]
   ·by_cases g2:vt (x.1:Int)=(t.drop a).take x.2
    ·rw [if_neg (by rintro (g | g); exact g1 g; exact g g2),if_pos ⟨by omega,g2⟩]
    ·rw [if_pos (.inr g2),if_neg (fun g=>g2 g.2)]
 ·rw [if_neg (by unfold inR; simp; omega),A1x (by omega)]; rfl
theorem Ea {t:List UInt8} (ht:t.length≤4611686018427387904) (a:Nat):J6 t (a:Int)=some (rvR (rv t a)):=by
 unfold J6
 rw [R2,ob]
 by_cases ha:a≤t.length
 ·rw [if_pos (by unfold inR; simp; omega)]
  have:=Rh ht ha 5 0 0 (by omega) (by simp)
  simp only [Nat.pow_zero,Nat.mul_one,Nat.zero_add,Nat.add_zero] at this
  rw [show ((0:Nat):Int)=0 from rfl] at this
  rw [this]
  unfold rv rvR
  cases hd:dig 5 (t.drop a) with
  | none=>rfl
  | some x =>
   have hc:=A10 hd
   rw [← A1m] at hc
   simp only []
   by_cases g1:1000000000<x.1
   ·rw [if_pos (.inl g1),if_neg (by omega)]
   ·by_cases g2:vt (x.1:Int)=(t.drop a).take x.2
    ·have:=hc.1 g2
     rw [if_neg (by rintro (g | g); exact g1 g; exact this ⟨g.2,g.1⟩),if_pos ⟨by omega,g2⟩]
    ·rw [if_pos,if_neg (fun g=>g2 g.2)]
     refine .inr ?_
     have:¬ ¬ (1<x.2∧(t.drop a)[x.2 - 1]?=some 0):=fun h=>g2 (hc.2 h)
     have:=Classical.not_not.1 this
     exact ⟨this.2,this.1⟩
 ·rw [if_neg (by unfold inR; simp; omega),A1x (by omega)]; rfl
def rs (t:List UInt8):Option (List UInt8×Nat):=match rv t 0 with
 | some x=>if x.1≤20000∧x.2+x.1≤t.length then some ((t.drop x.2).take x.1,x.2+x.1) else none
 | none=>none
def rsR (o:Option (List UInt8×Nat)):List UInt8×Int×Bool:=match o with
 | some x=>(x.1,(x.2:Int),true)
 | none=>([],0,false)
theorem sub?_mid {α:Type} {l:List α} {i n:Nat} (h:i+n≤l.length):sub? l (i:Int) ((i+n:Nat):Int)=some ((l.drop i).take n):=by
 unfold sub?
 rw [if_pos (by omega)]
 have e1:((i+n:Nat):Int).toNat=i+n:=by omega
 have e2:(i:Int).toNat=i:=by omega
 rw [e1,e2,List.drop_take]
 congr 2
 omega
theorem A5b {t:List UInt8} (ht:t.length≤8388608) {n p:Nat} (h2:p≤t.length) (h3:n≤1000000000):((if !true then some true else (if decide ((n:Int)>20000) then some true else (if decide ((n:Int)>(w64 ((t.length:Int) - (p:Int)))) then some true else some false))):Option Bool).bind (fun y2=>(if y2 then some (([]:List UInt8),(0:Int),false) else (sub? t (p:Int) (w64 ((p:Int)+(n:Int)))).bind fun v3=>some (v3,w64 ((p:Int)+(n:Int)),true)))=some (rsR (if n≤20000∧p+n≤t.length then some ((t.drop p).take n,p+n) else none)):=by
 have e1:w64 ((t.length:Int) - (p:Int))=(t.length:Int) - p:=B4 (by omega) (by omega)
 have e2:w64 ((p:Int)+(n:Int))=((p+n:Nat):Int):=by rw [B4 (by omega) (by omega)]; omega
 rw [e1,e2]
 by_cases g1:20000<n
 ·rw [if_neg (by simp),if_pos (by simp <;> omega),if_neg (by omega)]; rfl
 ·rw [if_neg (by simp),if_neg (by simp <;> omega)]
  by_cases g2:p+n≤t.length
  ·rw [if_neg (by simp <;> omega),if_pos ⟨by omega,g2⟩,ob,if_neg (by simp),sub?_mid g2]; rfl
  ·rw [if_pos (by simp <;> omega),if_neg (by omega)]; rfl
theorem A7d {t:List UInt8} (ht:t.length≤8388608):((if !(rvR (rv t 0)).2.2 then some true else (if decide ((rvR (rv t 0)).1>20000) then some true else (if decide ((rvR (rv t 0)).1>(w64 ((t.length:Int) - (rvR (rv t 0)).2.1))) then some true else some false))):Option Bool).bind (fun y2=>(if y2 then some (([]:List UInt8),(0:Int),false) else (sub? t (rvR (rv t 0)).2.1 (w64 ((rvR (rv t 0)).2.1+(rvR (rv t 0)).1))).bind fun v3=>some (v3,w64 ((rvR (rv t 0)).2.1+(rvR (rv t 0)).1),true)))=some (rsR (rs t)):=by
 unfold rs
 cases h:rv t 0 with
 | none=>rfl
 | some x =>
  obtain ⟨h1,h2,h3⟩:=Kj h
  exact A5b ht h2 h3
theorem A5d {t:List UInt8} (ht:t.length≤8388608):Q7 t 0=some (rsR (rs t)):=by
 unfold Q7
 rw [show (0:Int)=((0:Nat):Int) from rfl,Ma (by omega) 0,ob]
 exact A7d ht
theorem A5a {t:List UInt8} (ht:t.length≤8388608):H4 t 0=some (rsR (rs t)):=by
 unfold H4
 rw [show (0:Int)=((0:Nat):Int) from rfl,Ea (by omega) 0,ob]
 exact A7d ht
theorem A81 {s r:List UInt8} (h:s.length≤20000):rs (short s++r)=some (s,(short s).length):=by
 unfold rs
 rw [A1d (n:=s.length) (r:=s++r) (by simp [short]) (by omega)]
 have hl:(short s).length=(vt (s.length:Int)).length+s.length:=by simp [short]
 simp only [Nat.zero_add]
 rw [if_pos ⟨h,by rw [List.length_append,hl]; omega⟩]
 simp [short]
theorem A2b {t:List UInt8} {x:List UInt8×Nat} (h:rs t=some x):x.2≤t.length∧x.1.length≤20000:=by
 unfold rs at h
 split at h
 ·rename_i y hy
  split at h
  ·rename_i hc
   cases h
   refine ⟨hc.2,?_⟩
   simp only [List.length_take]
   omega
  ·cases h
 ·cases h
def us (s:List UInt8):Option (List UInt8):=if 4≤s.length∧s.length≤20004∧s.drop (s.length - 4)=sealL (s.take (s.length - 4)) then some (s.take (s.length - 4)) else none
def usR (o:Option (List UInt8)):List UInt8×Bool:=match o with
 | some x=>(x,true)
 | none=>([],false)
theorem sub?_tail {α:Type} {l:List α} {i:Nat} (h:i≤l.length):sub? l (i:Int) (l.length:Int)=some (l.drop i):=by
 unfold sub?
 rw [if_pos (by omega)]
 simp
theorem A1v {s:List UInt8} (hs:s.length≤8388608):Gc s=some (usR (us s)):=by
 unfold Gc us
 by_cases h4:4≤s.length
 ·have e:w64 ((s.length:Int) - 4)=((s.length - 4:Nat):Int):=by rw [B4 (by omega) (by omega)]; omega
  rw [e,if_neg (by simp <;> omega)]
  by_cases h5:s.length≤20004
  ·rw [if_neg (by simp <;> omega),sub?_tail (by omega),ob,sub?_take (by omega),ob,Yx (by simp <;> omega),ob,A0q,ob]
   by_cases h6:s.drop (s.length - 4)=sealL (s.take (s.length - 4))
   ·rw [if_neg (by simp only [Bool.not_eq_true',beq_eq_false_iff_ne,ne_eq,Classical.not_not]; exact h6),ob,if_neg (by simp),ob,if_pos ⟨h4,h5,h6⟩]; rfl
   ·rw [if_pos (by simp only [Bool.not_eq_true',beq_eq_false_iff_ne,ne_eq]; exact h6),if_neg (fun h=>h6 h.2.2)]; rfl
  ·rw [if_pos (by simp <;> omega),if_neg (by omega)]; rfl
 ·have e:w64 ((s.length:Int) - 4)=(s.length:Int) - 4:=B4 (by omega) (by omega)
  rw [e,if_pos (by simp <;> omega),if_neg (by omega)]; rfl
theorem A28 {s:List UInt8} (hs:s.length≤8388608):Bc s=some (usR (us s)):=by
 unfold Bc us
 rw [R2,ob]
 by_cases h4:4≤s.length
 ·have e:w64 ((s.length:Int) - 4)=((s.length - 4:Nat):Int):=by rw [B4 (by omega) (by omega)]; omega
  rw [e]
  by_cases h5:s.length≤20004
  ·rw [if_pos (by rw [M8]; omega),sub?_tail (by omega),ob,sub?_take (by omega),ob,Uk (by simp <;> omega),ob]
   by_cases h6:s.drop (s.length - 4)=sealL (s.take (s.length - 4))
   ·rw [if_neg (by simp only [Bool.not_eq_true',beq_eq_false_iff_ne,ne_eq,Classical.not_not]; exact h6),ob,if_neg (by simp),ob,if_pos ⟨h4,h5,h6⟩]; rfl
   ·rw [if_pos (by simp only [Bool.not_eq_true',beq_eq_false_iff_ne,ne_eq]; exact h6),if_neg (fun h=>h6 h.2.2)]; rfl
  ·rw [if_neg (by rw [M8]; omega),if_neg (by omega)]; rfl
 ·have e:w64 ((s.length:Int) - 4)=(s.length:Int) - 4:=B4 (by omega) (by omega)
  rw [e,if_neg (by rw [M8]; omega),if_neg (by omega)]; rfl
theorem A69 {b:List UInt8} (h:b.length≤20000):us (b++sealL b)=some b:=by
 have hl:(b++sealL b).length=b.length+4:=by rw [List.length_append,X1]
 unfold us
 rw [hl,Nat.add_sub_cancel,List.take_left,List.drop_left,if_pos ⟨by omega,by omega,rfl⟩]
theorem A88 {s x:List UInt8} (h:us s=some x):x.length≤s.length:=by
 unfold us at h
 split at h
 ·cases h; simp
 ·cases h
def chunk (T:List UInt8) (j:Nat):List UInt8:=(T.drop (32*j)).take 32
theorem Ju (T:List UInt8) (j:Nat):(chunk T j).length=min 32 (T.length - 32*j):=by simp [chunk]
theorem A5o {T:List UInt8} {j:Nat} (hj:32*j<T.length):sub? T ((32*j:Nat):Int) ((32*j+(chunk T j).length:Nat):Int)=some (chunk T j):=by
 have hl:=Ju T j
 rw [sub?_mid (by omega)]
 congr 1
 rw [hl]
 unfold chunk
 by_cases c:32≤T.length - 32*j
 ·rw [Nat.min_eq_left c]
 ·rw [Nat.min_eq_right (by omega),List.take_of_length_le (by simp),List.take_of_length_le (by simp; omega)]
def wb1 (s:Nat) (T:List UInt8) (j:Nat) (d:TDisk):Option TDisk:=if s+j<d.Sectors.length∧(rsec d (s+j)).length=32 then wr d ((s+j:Nat):Int) (chunk T j++(rsec d (s+j)).drop (chunk T j).length) else none
def wbN (s:Nat) (T:List UInt8):Nat→Nat→TDisk→Option TDisk
 | 0,_,d=>some d
 | n+1,j,d=>if 32*j<T.length then (match wb1 s T j d with | some d'=>wbN s T n (j+1) d' | none=>none) else some d
theorem A4u {s:Nat} {T:List UInt8} {j:Nat} {d d':TDisk} (h:wb1 s T j d=some d'):D7 d'=true:=by
 unfold wb1 at h
 split at h
 ·exact (A9k h).1
 ·cases h
theorem A85 {s:Nat} {T:List UInt8}:∀ {n j:Nat} {d d':TDisk},D7 d=true→wbN s T n j d=some d'→D7 d'=true
 | 0,j,d,d',hd,h=>by simp only [wbN,qS] at h; subst h; exact hd
 | n+1,j,d,d',hd,h=>by
  rw [wbN] at h
  split at h
  ·split at h
   ·rename_i d1 h1
    exact A85 (A4u h1) h
   ·cases h
  ·cases h; exact hd
theorem A2n {x0 d:TDisk} {T:List UInt8} {s j:Nat} (hx:DkS x0) (hd:D7 d=true) (hT:T.length≤100000) (hs:s≤1000) (hj:32*j<T.length) :
  D5 x0 (s:Int) 0 T (((32*j:Nat):Int),d.Sectors,d.Cache)=some (match wb1 s T j d with | some d'=>.inl (((32*j+(chunk T j).length:Nat):Int),d'.Sectors,d'.Cache) | none=>.inr (.inl (x0,false))):=by
 have hD:=DkS.ofOk hd
 have hl:=Ju T j
 have w0:w64 (0+((32*j:Nat):Int))=((32*j:Nat):Int):=by rw [B4 (by omega) (by omega)]; omega
 have t0:Int.tmod ((32*j:Nat):Int) 32=0:=by rw [Int.tmod_eq_emod_of_nonneg (by omega)]; omega
 have t1:Int.tdiv ((32*j:Nat):Int) 32=(j:Int):=by rw [Int.tdiv_eq_ediv_of_nonneg (by omega)]; omega
 have w1:w64 (32 - 0)=32:=by rw [B4 (by omega) (by omega)]; rfl
 have w2:w64 ((T.length:Int) - ((32*j:Nat):Int))=(T.length:Int) - ((32*j:Nat):Int):=B4 (by omega) (by omega)
 have w3:w64 (j:Int)=j:=B4 (by omega) (by omega)
 have w4:w64 ((s:Int)+(j:Int))=((s+j:Nat):Int):=by rw [B4 (by omega) (by omega)]; omega
 have hdd:({ Sectors:=d.Sectors,Cache:=d.Cache }:TDisk)=d:=rfl
 have fin:∀ m:Int,m=((chunk T j).length:Int) →
   ((K9 d ((s+j:Nat):Int)).bind fun v8=>((if !v8.2 then some true else (if ((v8.1.length:Int) != 32) then some true else some false)):Option Bool).bind (fun y9=>(if y9 then (E2 x0).bind fun v17=>some (.inr (.inl (({ Sectors:=v17.Sectors,Cache:=v17.Cache }:TDisk),false))) else (sub? v8.1 0 0).bind fun v10=>(sub? T ((32*j:Nat):Int) (w64 (((32*j:Nat):Int)+m))).bind fun v11=>(cat? v10 v11).bind fun v12=>(sub? v8.1 (w64 (0+m)) (v8.1.length:Int)).bind fun v13=>(cat? v12 v13).bind fun v14=>(L2 d ((s+j:Nat):Int) v14).bind fun v15=>(if !v15.2 then (E2 x0).bind fun v16=>some (.inr (.inl (({ Sectors:=v16.Sectors,Cache:=v16.Cache }:TDisk),false))) else some (.inl (w64 (((32*j:Nat):Int)+m),v15.1.Sectors,v15.1.Cache))))):Option ((Int×(List (List UInt8))×(List TWrite)) ⊕ ((TDisk×Bool) ⊕ ((List (List UInt8))×(List TWrite)))))=some (match wb1 s T j d with | some d'=>.inl (((32*j+(chunk T j).length:Nat):Int),d'.Sectors,d'.Cache) | none=>.inr (.inl (x0,false))):=by
  rintro _ rfl
  have f1:w64 (((32*j:Nat):Int)+((chunk T j).length:Int))=((32*j+(chunk T j).length:Nat):Int):=by rw [B4 (by omega) (by omega)]; omega
  have f2:w64 (0+((chunk T j).length:Int))=((chunk T j).length:Int):=by rw [B4 (by omega) (by omega)]; omega
  rw [Dv hD,ob,f1,f2]
  unfold wb1
  by_cases c1:s+j<d.Sectors.length
  ·rw [Ls c1]
   dsimp only
   by_cases c2:(rsec d (s+j)).length=32
   ·rw [if_neg (by simp),if_neg (by simp [c2]),ob,if_neg (by simp),if_pos ⟨c1,c2⟩]
    have g1:sub? (rsec d (s+j)) 0 0=some []:=by unfold sub?; simp
    rw [g1,ob,A5o hj,ob,cat?_ok (by simp; omega),ob,List.nil_append,sub?_tail (by omega),ob,cat?_ok (by simp; omega),ob,A5n hD,ob]
    cases wr d ((s+j:Nat):Int) (chunk T j++(rsec d (s+j)).drop (chunk T j).length) with
    | none=>simp [wrR,Bl hx]
    | some d'=>simp [wrR]
   ·rw [if_neg (by simp),if_pos (by simp; omega),ob,if_pos rfl,Bl hx,ob,if_neg (fun h=>c2 h.2)]
  ·rw [Mk (by omega)]
   dsimp only
   rw [if_pos (by simp),ob,if_pos rfl,Bl hx,ob,if_neg (fun h=>c1 h.1)]
 unfold D5
 rw [if_pos (by simp; omega),w0,t0,t1,w1,w2,w3,w4]
 dsimp only
 rw [hdd]
 by_cases c:(32:Int)>(T.length:Int) - ((32*j:Nat):Int)
 ·rw [if_pos (by simpa using c)]
  exact fin _ (by omega)
 ·rw [if_neg (by simpa using c)]
  exact fin _ (by omega)
theorem Re {x0:TDisk} {T:List UInt8} {s:Nat} (hx:DkS x0) (hT:T.length≤100000) (hs:s≤1000):∀ (n j:Nat) (d:TDisk),T.length≤32*(j+n)→D7 d=true →
  iter (D5 x0 (s:Int) 0 T) (((min (32*j) T.length:Nat):Int),d.Sectors,d.Cache)=some (match wbN s T n j d with | some d'=>.inr (d'.Sectors,d'.Cache) | none=>.inl (x0,false))
 | 0,j,d,hn,hd=>by
  rw [wbN,Nat.min_eq_right (by omega)]
  refine D0 ?_
  unfold D5
  rw [if_neg (by simp)]
 | n+1,j,d,hn,hd=>by
  rw [wbN]
  by_cases c:32*j<T.length
  ·rw [if_pos c,Nat.min_eq_left (by omega)]
   have hst:=A2n (x0:=x0) (s:=s) hx hd hT hs c
   cases h1:wb1 s T j d with
   | none =>
    rw [h1] at hst
    exact D0 hst
   | some d' =>
    rw [h1] at hst
    rw [Q6 hst]
    have hl:=Ju T j
    have e:32*j+(chunk T j).length=min (32*(j+1)) T.length:=by omega
    rw [e]
    exact Re hx hT hs n (j+1) d' (by omega) (A4u h1)
  ·rw [if_neg c,Nat.min_eq_right (by omega)]
   refine D0 ?_
   unfold D5
   rw [if_neg (by simp)]
def writeB (d:TDisk) (s:Nat) (T:List UInt8):TDisk×Bool:=if s<d.Sectors.length then wrR d (wbN s T (T.length+1) 0 d) else (d,false)
theorem Tq {d:TDisk} (h:D7 d=true) (s:Nat) (T:List UInt8):D7 (writeB d s T).1=true:=by
 unfold writeB
 split
 ·cases hw:wbN s T (T.length+1) 0 d with
  | none=>exact h
  | some d'=>exact A85 h hw
 ·exact h
theorem Lr {d:TDisk} (h:D7 d=true) {s:Nat} (hs:s≤1000) {T:List UInt8} (hT:T.length≤100000):J9 d (s:Int) 0 T=some (writeB d s T):=by
 have hD:=DkS.ofOk h
 have h1:=hD.sec.1
 unfold J9 writeB
 rw [Bl hD,ob,M4,ob,if_pos (by unfold inR; simp),M4,ob,B4 (n:=(d.Sectors.length:Int) - 1) (by omega) (by omega),Fx hD,h]
 by_cases c:s<d.Sectors.length
 ·rw [if_pos (by unfold inR; simp; omega),ob,if_pos rfl,ob,if_neg (by simp),if_pos c]
  have:=Re hD hT hs (T.length+1) 0 d (by omega) h
  rw [show ((min (32*0) T.length:Nat):Int)=0 by simp] at this
  rw [this,ob]
  cases wbN s T (T.length+1) 0 d <;> rfl
 ·rw [if_neg (by unfold inR; simp; omega),ob,if_pos rfl,if_neg c]
theorem A2h {x0 d:TDisk} {T:List UInt8} {s j:Nat} (hd:D7 d=true) (hT:T.length≤100000) (hs:s≤1000) (hj:32*j<T.length) :
  L8 (s:Int) x0 (((32*j:Nat):Int),T.drop (32*j),d.Sectors,d.Cache)=some (match wb1 s T j d with | some d'=>.inl (((32*j+(chunk T j).length:Nat):Int),T.drop (32*j+(chunk T j).length),d'.Sectors,d'.Cache) | none=>.inr (.inl (x0,false))):=by
 have hD:=DkS.ofOk hd
 have hc:=(L9.1 hd).2.1
 have hl:=Ju T j
 have hlen:(T.drop (32*j)).length=T.length - 32*j:=by simp
 have t0:Int.tmod ((32*j:Nat):Int) 32=0:=by rw [Int.tmod_eq_emod_of_nonneg (by omega)]; omega
 have t1:Int.tdiv ((32*j:Nat):Int) 32=(j:Int):=by rw [Int.tdiv_eq_ediv_of_nonneg (by omega)]; omega
 have w1:w64 (32 - 0)=32:=by rw [B4 (by omega) (by omega)]; rfl
 have w3:w64 (j:Int)=j:=B4 (by omega) (by omega)
 have w4:w64 ((s:Int)+(j:Int))=((s+j:Nat):Int):=by rw [B4 (by omega) (by omega)]; omega
 have hm:(if (32:Int)<((T.drop (32*j)).length:Int) then (32:Int) else ((T.drop (32*j)).length:Int))=((chunk T j).length:Int):=by
  rw [hlen,hl]
  split <;> omega
 have hdd:({ Sectors:=d.Sectors,Cache:=d.Cache }:TDisk)=d:=rfl
 have f1:w64 (((32*j:Nat):Int)+((chunk T j).length:Int))=((32*j+(chunk T j).length:Nat):Int):=by rw [B4 (by omega) (by omega)]; omega
 have f2:w64 (0+((chunk T j).length:Int))=((chunk T j).length:Int):=by rw [B4 (by omega) (by omega)]; omega
 unfold L8
 rw [if_pos (by simp only [Bool.not_eq_true',beq_eq_false_iff_ne,ne_eq]; intro h0; have:=congrArg List.length h0; rw [hlen] at this; simp at this; omega)]
 dsimp only
 rw [t0,t1,w1,w3,w4,hdd,hm,f1,f2,Ga hD,ob]
 unfold wb1
 by_cases c1:s+j<d.Sectors.length
 ·rw [Ls c1]
  dsimp only
  by_cases c2:(rsec d (s+j)).length=32
  ·rw [if_neg (by simp),if_neg (by simp [c2]),ob,if_neg (by simp),if_pos ⟨c1,c2⟩]
   have g1:sub? (rsec d (s+j)) 0 0=some []:=by unfold sub?; simp
   have g2:sub? (T.drop (32*j)) 0 ((chunk T j).length:Int)=some (chunk T j):=by
    rw [sub?_take (by omega)]
    congr 1
    rw [hl]
    unfold chunk
    by_cases c:32≤T.length - 32*j
    ·rw [Nat.min_eq_left c]
    ·rw [Nat.min_eq_right (by omega),List.take_of_length_le (by simp),List.take_of_length_le (by simp; omega)]
   rw [g1,ob,g2,ob,cat?_ok (by simp; omega),ob,List.nil_append,sub?_tail (by omega),ob,cat?_ok (by simp; omega),ob,A94 hD (by simp; omega) (by omega),ob]
   cases wr d ((s+j:Nat):Int) (chunk T j++(rsec d (s+j)).drop (chunk T j).length) with
   | none=>simp [wrR]
   | some d' =>
    simp only [wrR,Bool.not_true,Bool.false_eq_true,if_false]
    rw [sub?_tail (by omega),ob,List.drop_drop]
  ·rw [if_neg (by simp),if_pos (by simp; omega),ob,if_pos rfl,if_neg (fun h=>c2 h.2)]
 ·rw [Mk (by omega)]
  dsimp only
  rw [if_pos (by simp),ob,if_pos rfl,if_neg (fun h=>c1 h.1)]
theorem Tl {x0:TDisk} {T:List UInt8} {s:Nat} (hT:T.length≤100000) (hs:s≤1000):∀ (n j:Nat) (d:TDisk),T.length≤32*(j+n)→D7 d=true →
  iter (L8 (s:Int) x0) (((min (32*j) T.length:Nat):Int),T.drop (min (32*j) T.length),d.Sectors,d.Cache)=some (match wbN s T n j d with | some d'=>.inr (d'.Sectors,d'.Cache) | none=>.inl (x0,false))
 | 0,j,d,hn,hd=>by
  rw [wbN,Nat.min_eq_right (by omega)]
  refine D0 ?_
  unfold L8
  rw [if_neg (by simp)]
 | n+1,j,d,hn,hd=>by
  rw [wbN]
  by_cases c:32*j<T.length
  ·rw [if_pos c,Nat.min_eq_left (by omega)]
   have hst:=A2h (x0:=x0) (s:=s) hd hT hs c
   cases h1:wb1 s T j d with
   | none =>
    rw [h1] at hst
    exact D0 hst
   | some d' =>
    rw [h1] at hst
    rw [Q6 hst]
    have hl:=Ju T j
    have e:32*j+(chunk T j).length=min (32*(j+1)) T.length:=by omega
    rw [e]
    exact Tl hT hs n (j+1) d' (by omega) (A4u h1)
  ·rw [if_neg c,Nat.min_eq_right (by omega)]
   refine D0 ?_
   unfold L8
   rw [if_neg (by simp)]
theorem A3u {d:TDisk} (h:D7 d=true) {s:Nat} (hs:s≤1000) {T:List UInt8} (hT:T.length≤100000):Y2 d (s:Int) 0 T=some (writeB d s T):=by
 have hD:=DkS.ofOk h
 have h1:=hD.sec.1
 unfold Y2 writeB
 rw [Ek hD,ob,R2,ob,if_pos (by unfold inR; simp),R2,ob,B4 (n:=(d.Sectors.length:Int) - 1) (by omega) (by omega)]
 by_cases c:s<d.Sectors.length
 ·rw [if_pos (by unfold inR; simp; omega),ob,if_neg (by simp),if_pos c,ob]
  have:=Tl (x0:=d) hT hs (T.length+1) 0 d (by omega) h
  rw [show min (32*0) T.length=0 by simp] at this
  rw [show ((0:Nat):Int)=0 from rfl,List.drop_zero] at this
  rw [this,ob]
  cases wbN s T (T.length+1) 0 d <;> rfl
 ·rw [if_neg (by unfold inR; simp; omega),ob,if_pos rfl,if_neg c]
theorem Yc (a:Int):∀ (l:List TWrite) (o:Option TWrite) (z:List UInt8),secV (l.foldl (fun o w=>if w.At==a then some w else o) o) z=secV (hit a l) (secV o z)
 | [],o,z=>rfl
 | x::l,o,z=>by
  unfold hit
  rw [List.foldl_cons,List.foldl_cons,Yc a l,Yc a l (if x.At==a then some x else none)]
  cases x.At==a <;> rfl
theorem A3t:∀ (l:List TWrite) (s:List (List UInt8)),(∀ w∈l,0≤w.At)→∀ a,a<s.length→(l.foldl setW s)[a]?=some (secV (hit (a:Int) l) ((s[a]?).getD []))
 | [],s,_,a,ha=>by simp [hit,secV,ha]
 | w::l,s,h,a,ha=>by
  rw [List.foldl_cons,A3t l _ (fun w hw=>h w (List.mem_cons_of_mem _ hw)) a (by simp [setW]; exact ha)]
  have e:hit (a:Int) (w::l)=l.foldl (fun o w=>if w.At==(a:Int) then some w else o) (if w.At==(a:Int) then some w else none):=rfl
  rw [e,Yc]
  have h0:=h w List.mem_cons_self
  congr 2
  unfold setW
  by_cases c:w.At=(a:Int)
  ·rw [if_pos (by simpa using c),show w.At.toNat=a by omega,List.getElem?_set_self ha]; rfl
  ·rw [if_neg (by simpa using c),List.getElem?_set_ne (by omega)]; rfl
theorem Ko {d:TDisk} (h:D7 d=true) {a:Nat} (ha:a<d.Sectors.length):(rsec d a).length=32:=by
 obtain ⟨_,_,h3,h4⟩:=L9.1 h
 unfold rsec secV
 split
 ·rename_i w hw; exact (h4 w (A56 hw)).2
 ·rw [qG ha]; exact h3 _ (List.getElem_mem ha)
theorem A6g {d:TDisk} (h:D7 d=true):(flush d).Sectors.length=d.Sectors.length:=by
 unfold flush; rw [if_pos h]; exact Td _ _
theorem A63 {d:TDisk} (h:D7 d=true) {a:Nat} (ha:a<d.Sectors.length):(flush d).Sectors[a]?=some (rsec d a):=by
 unfold flush; rw [if_pos h]
 exact A3t _ _ (fun w hw=>((L9.1 h).2.2.2 w hw).1.1) a ha
theorem Va {d:TDisk} (hc:d.Cache=[]) (a:Nat):rsec d a=(d.Sectors[a]?).getD []:=by unfold rsec; rw [hc]; rfl
def poke (d:TDisk) (b:Nat) (T:List UInt8):TDisk:={ Sectors:=(List.range d.Sectors.length).map fun a=>(List.range 32).map fun q=>if b≤32*a+q∧32*a+q<b+T.length then T.getD (32*a+q - b) 0 else (rsec d a).getD q 0,Cache:=[] }
theorem X6 (d:TDisk) (b:Nat) (T:List UInt8):(poke d b T).Sectors.length=d.Sectors.length:=by simp [poke]
theorem Ki {d:TDisk} (h:D7 d=true) (b:Nat) (T:List UInt8):D7 (poke d b T)=true:=by
 rw [L9] at h ⊢
 refine ⟨by rw [X6]; exact h.1,by simp [poke],?_,by simp [poke]⟩
 intro s hs
 simp only [poke,List.mem_map] at hs
 obtain ⟨a,_,rfl⟩:=hs
 simp
theorem A30 {d:TDisk} {b:Nat} {T:List UInt8} {a:Nat} (ha:a<d.Sectors.length):rsec (poke d b T) a=(List.range 32).map fun q=>if b≤32*a+q∧32*a+q<b+T.length then T.getD (32*a+q - b) 0 else (rsec d a).getD q 0:=by
 rw [Va rfl]
 simp [poke,ha]
theorem Ua {d:TDisk} (h:D7 d=true) {b:Nat} {T:List UInt8} {a:Nat} (ha:a<d.Sectors.length) (hb:32*a+32≤b∨b+T.length≤32*a):rsec (poke d b T) a=rsec d a:=by
 have h32:=Ko h ha
 rw [A30 ha]
 refine List.ext_getElem? fun q=>?_
 by_cases hq:q<32
 ·rw [List.getElem?_map,List.getElem?_range hq,Option.map_some,if_neg (by omega),List.getD_eq_getElem?_getD,qG (by omega)]; rfl
 ·rw [List.getElem?_eq_none (by simp; omega),List.getElem?_eq_none (by omega)]
theorem A7o (s:List (List UInt8)) (c:List TWrite) (k a:Nat) (t:List UInt8):rsec { Sectors:=s,Cache:=c++[{ At:=(k:Int),Text:=t }] } a=if k=a then t else rsec { Sectors:=s,Cache:=c } a:=by
 unfold rsec
 simp only
 rw [Pn]
 by_cases e:k=a
 ·rw [if_pos e,if_pos (by simp [e])]; rfl
 ·rw [if_neg e,if_neg (by simp; omega)]
structure Wst (d:TDisk) (b:Nat) (T:List UInt8) (j i:Nat) (d':TDisk):Prop where
 ok:D7 d'=true
 sec:d'.Sectors=d.Sectors
 cache:d'.Cache.length=j
 ge:∀ w∈d'.Cache,(b:Int)<32*w.At+32
 le:∀ w∈d'.Cache,32*w.At<(b+T.length:Nat)
 get:∀ a q,a<d.Sectors.length→q<32→(rsec d' a)[q]?=if b≤32*a+q∧32*a+q<b+i then T[32*a+q - b]? else (rsec d a)[q]?
theorem Wst.flush {d d':TDisk} {b j:Nat} {T:List UInt8} (h:Wst d b T j T.length d') (hd:D7 d=true):flush d'=poke d b T:=by
 have hc:(V.flush d').Cache=[]:=by unfold V.flush; rw [if_pos h.ok]
 have hs:(V.flush d').Sectors=(poke d b T).Sectors:=by
  refine List.ext_getElem? fun a=>?_
  by_cases ha:a<d.Sectors.length
  ·have h32:(rsec d' a).length=32:=Ko h.ok (by rw [h.sec]; exact ha)
   have h32':=Ko hd ha
   rw [A63 h.ok (by rw [h.sec]; exact ha)]
   simp only [poke,List.getElem?_map,List.getElem?_range ha,Option.map_some]
   congr 1
   refine List.ext_getElem? fun q=>?_
   by_cases hq:q<32
   ·rw [h.get a q ha hq,List.getElem?_map,List.getElem?_range hq,Option.map_some]
    split
    ·rw [List.getD_eq_getElem?_getD,qG (by omega)]; rfl
    ·rw [List.getD_eq_getElem?_getD,qG (by omega)]; rfl
   ·rw [List.getElem?_eq_none (by omega),List.getElem?_eq_none (by simp; omega)]
  ·rw [List.getElem?_eq_none (by rw [A6g h.ok,h.sec]; omega),List.getElem?_eq_none (by rw [X6]; omega)]
 cases hf:V.flush d' with
 | mk s c =>
  rw [hf] at hc hs
  simp only at hc hs
  rw [hc,hs]; rfl
theorem Wst.step {d d':TDisk} {b j i m:Nat} {T:List UInt8} (h:Wst d b T j i d') (hj:j<60) (hi:i<T.length) (hk:(b+i) / 32<d.Sectors.length) (hm:m=min (32 - (b+i)%32) (T.length - i)) :
  ∃ d'',wr d' (((b+i) / 32:Nat):Int) ((rsec d' ((b+i) / 32)).take ((b+i)%32)++(T.drop i).take m++(rsec d' ((b+i) / 32)).drop ((b+i)%32+m))=some d''∧Wst d b T (j+1) (i+m) d'':=by
 have h32:(rsec d' ((b+i) / 32)).length=32:=Ko h.ok (by rw [h.sec]; exact hk)
 have hl:((rsec d' ((b+i) / 32)).take ((b+i)%32)++(T.drop i).take m++(rsec d' ((b+i) / 32)).drop ((b+i)%32+m)).length=32:=by
  simp [h32]; omega
 generalize ht:(rsec d' ((b+i) / 32)).take ((b+i)%32)++(T.drop i).take m++(rsec d' ((b+i) / 32)).drop ((b+i)%32+m)=t at hl
 have hw:wr d' (((b+i) / 32:Nat):Int) t=some { Sectors:=d'.Sectors,Cache:=d'.Cache++[{ At:=(((b+i) / 32:Nat):Int),Text:=t }] }:=by
  unfold wr
  rw [if_pos]
  simp only [h.ok,Bool.true_and,Bool.and_eq_true,decide_eq_true_eq,hl,h.sec,h.cache,inR,beq_self_eq_true]
  omega
 refine ⟨_,hw,(A9k hw).1,h.sec,by simp [h.cache],?_,?_,?_⟩
 ·intro w hw
  rcases List.mem_append.1 hw with hw | hw
  ·exact h.ge w hw
  ·rw [List.mem_singleton] at hw; subst hw; simp only; omega
 ·intro w hw
  rcases List.mem_append.1 hw with hw | hw
  ·exact h.le w hw
  ·rw [List.mem_singleton] at hw; subst hw; simp only; omega
 ·intro a q ha hq
  rw [A7o]
  by_cases c:(b+i) / 32=a
  ·rw [if_pos c]
   subst c
   have g:=h.get _ q hk hq
   rw [← ht]
   by_cases c1:q<(b+i)%32
   ·rw [List.append_assoc,List.getElem?_append_left (by simp [h32]; omega),List.getElem?_take_of_lt c1,g]
    by_cases c2:b≤32*((b+i) / 32)+q
    ·rw [if_pos ⟨c2,by omega⟩,if_pos ⟨c2,by omega⟩]
    ·rw [if_neg (by omega),if_neg (by omega)]
   ·by_cases c2:q<(b+i)%32+m
    ·rw [List.append_assoc,List.getElem?_append_right (by simp [h32]; omega),List.getElem?_append_left (by simp [h32]; omega),List.getElem?_take_of_lt (by simp [h32]; omega),List.getElem?_drop,if_pos (by omega)]
     congr 1
     simp [h32]; omega
    ·rw [List.getElem?_append_right (by simp [h32]; omega),List.getElem?_drop]
     have e:(b+i)%32+m+(q - ((rsec d' ((b+i) / 32)).take ((b+i)%32)++(T.drop i).take m).length)=q:=by simp [h32]; omega
     rw [e,g,if_neg (by omega),if_neg (by omega)]
  ·have g:=h.get a q ha hq
   rw [if_neg c]
   show (rsec d' a)[q]?=_
   rw [g]
   by_cases c2:b≤32*a+q∧32*a+q<b+i
   ·rw [if_pos c2,if_pos ⟨c2.1,by omega⟩]
   ·rw [if_neg c2,if_neg (by omega)]
theorem A84 (n:Nat):Int.tmod (n:Int) 32=((n%32:Nat):Int):=by rw [Int.tmod_eq_emod_of_nonneg (by omega)]; omega
theorem A8g (n:Nat):Int.tdiv (n:Int) 32=((n / 32:Nat):Int):=by rw [Int.tdiv_eq_ediv_of_nonneg (by omega)]; omega
theorem A27 {x0 d d':TDisk} {T:List UInt8} {s t j i m:Nat} (h:Wst d (32*s+t) T j i d') (hT:T.length≤1000) (hs:s≤1000) (ht:t≤3200) (hj:j<60) (hi:i<T.length) (hk:(32*s+t+i) / 32<d.Sectors.length) (hm:m=min (32 - (32*s+t+i)%32) (T.length - i)) :
  ∃ d'',D5 x0 (s:Int) (t:Int) T ((i:Int),d'.Sectors,d'.Cache)=some (.inl (((i+m:Nat):Int),d''.Sectors,d''.Cache))∧Wst d (32*s+t) T (j+1) (i+m) d'':=by
 obtain ⟨d'',hw,hst⟩:=h.step hj hi hk hm
 refine ⟨d'',?_,hst⟩
 have hD:=DkS.ofOk h.ok
 have h32:(rsec d' ((32*s+t+i) / 32)).length=32:=Ko h.ok (by rw [h.sec]; exact hk)
 have w0:w64 ((t:Int)+(i:Int))=((t+i:Nat):Int):=by rw [B4 (by omega) (by omega)]; omega
 have e1:(t+i)%32=(32*s+t+i)%32:=by omega
 have w4:w64 ((s:Int)+w64 (((t+i) / 32:Nat):Int))=(((32*s+t+i) / 32:Nat):Int):=by rw [Fo (by omega),B4 (by omega) (by omega)]; omega
 have w5:w64 (32 - (((32*s+t+i)%32:Nat):Int))=((32 - (32*s+t+i)%32:Nat):Int):=by rw [B4 (by omega) (by omega)]; omega
 have w6:w64 ((T.length:Int) - (i:Int))=((T.length - i:Nat):Int):=by rw [B4 (by omega) (by omega)]; omega
 have hdd:({ Sectors:=d'.Sectors,Cache:=d'.Cache }:TDisk)=d':=rfl
 have fin:∀ n:Int,n=(m:Int) →
   ((K9 d' (((32*s+t+i) / 32:Nat):Int)).bind fun v8=>((if !v8.2 then some true else (if ((v8.1.length:Int) != 32) then some true else some false)):Option Bool).bind (fun y9=>(if y9 then (E2 x0).bind fun v17=>some (.inr (.inl (({ Sectors:=v17.Sectors,Cache:=v17.Cache }:TDisk),false))) else (sub? v8.1 0 (((32*s+t+i)%32:Nat):Int)).bind fun v10=>(sub? T (i:Int) (w64 ((i:Int)+n))).bind fun v11=>(cat? v10 v11).bind fun v12=>(sub? v8.1 (w64 ((((32*s+t+i)%32:Nat):Int)+n)) (v8.1.length:Int)).bind fun v13=>(cat? v12 v13).bind fun v14=>(L2 d' (((32*s+t+i) / 32:Nat):Int) v14).bind fun v15=>(if !v15.2 then (E2 x0).bind fun v16=>some (.inr (.inl (({ Sectors:=v16.Sectors,Cache:=v16.Cache }:TDisk),false))) else some (.inl (w64 ((i:Int)+n),v15.1.Sectors,v15.1.Cache))))):Option ((Int×(List (List UInt8))×(List TWrite)) ⊕ ((TDisk×Bool) ⊕ ((List (List UInt8))×(List TWrite)))))=some (.inl (((i+m:Nat):Int),d''.Sectors,d''.Cache)):=by
  rintro _ rfl
  have f1:w64 ((i:Int)+(m:Int))=((i+m:Nat):Int):=by rw [B4 (by omega) (by omega)]; omega
  have f2:w64 ((((32*s+t+i)%32:Nat):Int)+(m:Int))=(((32*s+t+i)%32+m:Nat):Int):=by rw [B4 (by omega) (by omega)]; omega
  rw [Dv hD,ob,f1,f2,Ls (by rw [h.sec]; exact hk)]
  dsimp only
  rw [if_neg (by simp),if_neg (by simp [h32]),ob,if_neg (by simp),sub?_take (by omega),ob,sub?_mid (by omega),ob,cat?_ok (by simp; omega),ob,sub?_tail (by omega),ob,cat?_ok (by simp; omega),ob,A5n hD,ob,hw]
  rfl
 unfold D5
 rw [if_pos (by simp; omega)]
 dsimp only
 rw [w0,A84,A8g,w4,e1,w5,w6,hdd]
 by_cases c:T.length - i<32 - (32*s+t+i)%32
 ·rw [if_pos (by simp; omega)]
  exact fin _ (by omega)
 ·rw [if_neg (by simp; omega)]
  exact fin _ (by omega)
theorem Ru {x0 d:TDisk} {T:List UInt8} {s t:Nat} (hT:T.length≤1000) (hs:s≤1000) (ht:t≤3200) (hn:32*s+t+T.length≤32*d.Sectors.length):∀ (n i j:Nat) (d':TDisk),T.length≤i+n→i≤T.length→(i=T.length∨32*j≤i+31∧(i=0∨(32*s+t+i)%32=0))→Wst d (32*s+t) T j i d' →
  ∃ d1 j1,iter (D5 x0 (s:Int) (t:Int) T) ((i:Int),d'.Sectors,d'.Cache)=some (.inr (d1.Sectors,d1.Cache))∧Wst d (32*s+t) T j1 T.length d1
 | 0,i,j,d',h1,h2,_,h=>by
  have:i=T.length:=by omega
  subst this
  refine ⟨d',j,D0 ?_,h⟩
  unfold D5
  rw [if_neg (by simp)]
 | n+1,i,j,d',h1,h2,h3,h=>by
  by_cases c:i<T.length
  ·obtain ⟨d'',e,hw⟩:=A27 (x0:=x0) (m:=min (32 - (32*s+t+i)%32) (T.length - i)) h hT hs ht (by omega) c (by omega) rfl
   rw [Q6 e]
   exact Ru hT hs ht hn n _ (j+1) d'' (by omega) (by omega) (by omega) hw
  ·have:i=T.length:=by omega
   subst this
   refine ⟨d',j,D0 ?_,h⟩
   unfold D5
   rw [if_neg (by simp)]
theorem Wst.start {d:TDisk} (h:D7 d=true) (hc:d.Cache=[]) (b:Nat) (T:List UInt8):Wst d b T 0 0 d:=by
 refine ⟨h,rfl,by rw [hc]; rfl,by rw [hc]; simp,by rw [hc]; simp,?_⟩
 intro a q _ _
 rw [if_neg (by omega)]
theorem Xp {d:TDisk} (h:D7 d=true) (hc:d.Cache=[]) {T:List UInt8} {s t:Nat} (hT:T.length≤1000) (hs:s<d.Sectors.length) (ht:t≤3200) (hn:32*s+t+T.length≤32*d.Sectors.length) :
  ∃ d1 j,J9 d (s:Int) (t:Int) T=some (d1,true)∧Wst d (32*s+t) T j T.length d1:=by
 have hD:=DkS.ofOk h
 have h1:=hD.sec.1
 have h100:=(L9.1 h).1.2
 obtain ⟨d1,j1,e,hw⟩:=Ru (x0:=d) hT (show s≤1000 by omega) ht hn T.length 0 0 d (by omega) (by omega) (by omega) (Wst.start h hc _ T)
 refine ⟨d1,j1,?_,hw⟩
 unfold J9
 rw [Bl hD,ob,M4,ob,if_pos (by unfold inR; simp; omega),M4,ob,B4 (n:=(d.Sectors.length:Int) - 1) (by omega) (by omega),Fx hD,h]
 rw [if_pos (by unfold inR; simp; omega),ob,if_pos rfl,ob,if_neg (by simp)]
 have e':iter (D5 d (s:Int) (t:Int) T) (0,d.Sectors,d.Cache)=_:=e
 rw [e']; rfl
theorem A68 {d:TDisk} (h:D7 d=true) (hc:d.Cache=[]) {T:List UInt8} {s t:Nat} (hT:T.length≤1000) (hs:s<d.Sectors.length) (ht:t≤3200) (hn:32*s+t+T.length≤32*d.Sectors.length) :
  ∃ d1,J9 d (s:Int) (t:Int) T=some (d1,true)∧G9 d1=some (poke d (32*s+t) T):=by
 obtain ⟨d1,j,e,hw⟩:=Xp h hc hT hs ht hn
 exact ⟨d1,e,by rw [Pm (DkS.ofOk hw.ok),hw.flush h]⟩
theorem Za {x:TRec} (hk:recOk x=true):x.User.length≤8∧x.Name.length≤8∧x.Text.length≤100:=by
 unfold recOk wordOk inR at hk
 simp only [Bool.and_eq_true,decide_eq_true_eq] at hk
 obtain ⟨⟨⟨⟨_,h1⟩,_⟩,_⟩,h2⟩:=hk
 refine ⟨?_,?_,?_⟩
 ·split at h1
  ·simp only [Bool.and_eq_true,decide_eq_true_eq] at h1; omega
  ·simp only [Bool.and_eq_true,beq_iff_eq] at h1; rw [h1.1.1]; simp
 ·split at h1
  ·simp only [Bool.and_eq_true,decide_eq_true_eq] at h1; omega
  ·simp only [Bool.and_eq_true,beq_iff_eq] at h1; rw [h1.1.2]; simp
 ·split at h2
  ·simpa using h2
  ·simp at h2; rw [h2]; simp
def E9 (f:TFrame):Bool:=inR f.Gen 1 1000000000&&inR f.Seq 1 1000000000&&inR f.Body.length 1 180
theorem Rp (f:TFrame):Z9 f=some (E9 f):=by
 unfold Z9 E9
 simp only [M4,ob]
 cases inR f.Gen 1 1000000000 <;> cases inR f.Seq 1 1000000000 <;> simp
theorem Kb (f:TFrame):W4 f=some (E9 f):=by
 unfold W4 E9
 simp only [R2,ob]
 cases inR f.Gen 1 1000000000 <;> cases inR f.Seq 1 1000000000 <;> simp
theorem X7 {f:TFrame} (h:E9 f=true):(1≤f.Gen∧f.Gen≤1000000000)∧(1≤f.Seq∧f.Seq≤1000000000)∧1≤f.Body.length∧f.Body.length≤180:=by
 unfold E9 inR at h
 simp only [Bool.and_eq_true,decide_eq_true_eq] at h
 omega
def frameT (f:TFrame):List UInt8:=vt f.Gen++vt f.Seq++vt f.Body.length++f.Body
def E6 (f:TFrame):List UInt8×Bool:=if E9 f then (frameT f++sealL (frameT f),true) else ([],false)
theorem Hv {f:TFrame} (h:E9 f=true):(frameT f).length≤213:=by
 obtain ⟨h1,h2,h3,h4⟩:=X7 h
 have l1:=K7 (n:=f.Gen) (by omega)
 have l2:=K7 (n:=f.Seq) (by omega)
 have l3:=K7 (n:=f.Body.length) (by omega)
 unfold frameT
 simp; omega
theorem Ca (f:TFrame):J7 f=some (E6 f):=by
 unfold J7 E6
 rw [Rp,ob]
 cases hk:E9 f with
 | false=>rfl
 | true =>
  obtain ⟨h1,h2,h3,h4⟩:=X7 hk
  have l1:=K7 (n:=f.Gen) (by omega)
  have l2:=K7 (n:=f.Seq) (by omega)
  have l3:=K7 (n:=f.Body.length) (by omega)
  have lt:=Hv hk
  simp only [if_true]
  rw [T7 (by omega) (by omega),ob,T7 (by omega) (by omega),ob,cat?_ok (by omega),ob,T7 (by omega) (by omega),ob,cat?_ok (by simp; omega),ob,cat?_ok (by simp; omega),ob]
  rw [show vt f.Gen++vt f.Seq++vt f.Body.length++f.Body=frameT f from rfl,Wj (by omega),ob]
  unfold sealed
  rw [if_neg (by omega)]
theorem Zq (f:TFrame):Am f=some (E6 f):=by
 unfold Am E6
 rw [Kb,ob]
 cases hk:E9 f with
 | false=>rfl
 | true =>
  obtain ⟨h1,h2,h3,h4⟩:=X7 hk
  have l1:=K7 (n:=f.Gen) (by omega)
  have l2:=K7 (n:=f.Seq) (by omega)
  have l3:=K7 (n:=f.Body.length) (by omega)
  have lt:=Hv hk
  simp only [if_true]
  rw [Bx (by omega) (by omega),ob,Bx (by omega) (by omega),ob,cat?_ok (by omega),ob,Bx (by omega) (by omega),ob,cat?_ok (by simp; omega),ob,cat?_ok (by simp; omega),ob]
  rw [show vt f.Gen++vt f.Seq++vt f.Body.length++f.Body=frameT f from rfl,A3w (by omega),ob]
  unfold sealed
  rw [if_neg (by omega)]
def frame0:TFrame:={ Gen:=0,Seq:=0,Body:=[] }
def G4 (x:TItem) (gen:Int):TFrame×Bool:=if (recText x.Rec).2&&E9 { Gen:=gen,Seq:=x.Seq,Body:=(recText x.Rec).1 } then ({ Gen:=gen,Seq:=x.Seq,Body:=(recText x.Rec).1 },true) else (frame0,false)
theorem Yj {x:TItem} (h:RecS x.Rec) (gen:Int):Z7 x gen=some (G4 x gen):=by
 unfold Z7 G4
 simp only [Ka h,ob,Rp]
 cases (recText x.Rec).2 <;> cases E9 { Gen:=gen,Seq:=x.Seq,Body:=(recText x.Rec).1 } <;> rfl
structure LgN (g:TLog):Prop where
 used:g.Used.length≤1048576
 items:∀ x∈g.Used,x.Items.length≤1048576∧∀ y∈x.Items,A3r y
 tot:(g.Used.map fun x=>x.Items.length).sum≤1048576
def B6 (g:TLog):List TItem:=g.Used.flatMap fun x=>x.Items
theorem A3l {g:TLog} (h:LgN g) (i:Nat):((g.Used.take i).flatMap fun x=>x.Items).length≤1048576:=by
 rw [List.length_flatMap]
 have e:((g.Used.take i).map fun x=>x.Items.length).sum≤(g.Used.map fun x=>x.Items.length).sum:=by
  conv=>rhs; rw [← List.take_append_drop i g.Used]
  rw [List.map_append,List.sum_append]; omega
 have:=h.tot
 omega
theorem Yn {g:TLog} (h:LgN g) {step:Int×List TItem→Option ((Int×List TItem) ⊕ List TItem)}
  (h1:∀ (i:Nat) (o:List TItem) (hi:i<g.Used.length),step ((i:Int),o)=(app? 96 o g.Used[i].Items).bind fun v=>some (.inl (((i+1:Nat):Int),v)))
  (h2:∀ o,step ((g.Used.length:Int),o)=some (.inr o)):iter step (0,[])=some (B6 g):=by
 have:=H8 (step:=step) (fun i=>((i:Int),(g.Used.take i).flatMap fun x=>x.Items)) g.Used.length (r:=B6 g) ?_ ?_
 ·simpa using this
 ·intro i hi
  have e:((g.Used.take (i+1)).flatMap fun x=>x.Items)=((g.Used.take i).flatMap fun x=>x.Items)++g.Used[i].Items:=by
   rw [List.take_succ_eq_append_getElem hi,List.flatMap_append]; simp
  have hl:=A3l h (i+1)
  rw [e,List.length_append] at hl
  rw [h1 i _ hi,app?_ok (by omega) (by omega),e]; rfl
 ·rw [h2,List.take_length]; rfl
theorem A2j {g:TLog} (h:LgN g):Cd g=some (B6 g):=by
 unfold Cd
 rw [Yn h]
 ·rfl
 ·intro i o hi
  have:=h.used
  unfold De
  simp only [dlt hi,if_true,at?_nat hi,ob,B9 (show i<9223372036854775807 by omega)]
 ·intro o; unfold De; simp
theorem A1u {g:TLog} (h:LgN g):W2 g=some (B6 g):=by
 unfold W2
 rw [Yn h]
 ·rfl
 ·intro i o hi
  have:=h.used
  unfold Dd
  simp only [dlt hi,if_true,at?_nat hi,ob,B9 (show i<9223372036854775807 by omega)]
 ·intro o; unfold Dd; simp
theorem A0n {n:Nat} {p:Nat→Bool} {step:Int×List Int→Option ((Int×List Int) ⊕ List Int)} (hn:n≤1048576)
  (h1:∀ (i:Nat) (o:List Int),i<n→step ((i:Int),o)=if p i then (app? 8 o [(i:Int)]).bind fun v=>some (.inl (((i+1:Nat):Int),v)) else some (.inl (((i+1:Nat):Int),o)))
  (h2:∀ o,step ((n:Int),o)=some (.inr o)):iter step (0,[])=some (((List.range n).filter p).map fun (k:Nat)=>(k:Int)):=by
 have:=H8 (step:=step) (fun i=>((i:Int),((List.range i).filter p).map fun (k:Nat)=>(k:Int))) n (r:=((List.range n).filter p).map fun (k:Nat)=>(k:Int)) ?_ (h2 _)
 ·simpa using this
 ·intro i hi
  have hl:=List.length_filter_le p (List.range i)
  rw [List.length_range] at hl
  rw [h1 i _ hi,List.range_succ,List.filter_append,List.map_append]
  by_cases hp:p i=true
  ·rw [if_pos hp,app?_ok (by simp; omega) (by simp; omega),List.filter_cons,if_pos hp]; rfl
  ·rw [if_neg hp,List.filter_cons,if_neg hp]; simp
def usedNo (g:TLog) (no:Int):Bool:=g.Used.any fun s=>s.No==no
def nSegs (g:TLog):Nat:=if 11<g.Segs then 11 else g.Segs.toNat
theorem A3q (g:TLog):nSegs g≤11:=by unfold nSegs; split <;> omega
def freeSegs (g:TLog):List Int:=((List.range (nSegs g)).filter fun i:Nat=>!usedNo g (i:Int)).map fun (k:Nat)=>(k:Int)
theorem A8m {g:TLog} (h:g.Used.length≤1048576):Kv g=some (freeSegs g):=by
 have hn:=A3q g
 unfold Kv freeSegs
 rw [A0n (n:=nSegs g) (p:=fun i=>!usedNo g (i:Int)) (by omega)]
 ·rfl
 ·intro i o hi
  have hc:=Dm (x0:=g.Used) (x1:=(i:Int)) (q:=fun y=>y.No==(i:Int)) (by omega) (fun y _=>rfl)
  have hlt:decide ((i:Int)<(if 11<g.Segs then 11 else g.Segs))=true:=by
   unfold nSegs at hi
   split at hi <;> rename_i c
   ·rw [if_pos c]; simp; omega
   ·rw [if_neg c]; simp; omega
  unfold Ex
  simp only [hlt,if_true,hc,ob,B9 (show i<9223372036854775807 by omega)]
  unfold usedNo
  cases g.Used.any fun s=>s.No==(i:Int) <;> rfl
 ·intro o
  unfold Ex
  have hlt:decide (((nSegs g:Nat):Int)<(if 11<g.Segs then 11 else g.Segs))=false:=by
   unfold nSegs
   split <;> rename_i c
   ·simp
   ·simp; omega
  simp [hlt]
theorem Pb {g:TLog} (h:g.Used.length≤1048576):P8 g=some (freeSegs g):=by
 have hn:=A3q g
 unfold P8 freeSegs
 rw [A0n (n:=nSegs g) (p:=fun i=>!usedNo g (i:Int)) (by omega)]
 ·rfl
 ·intro i o hi
  have h11:(i:Int)<g.Segs∧(i:Int)<11:=by
   unfold nSegs at hi
   split at hi <;> omega
  have inner:iter (R9 g ((i:Int),o)) (false,0)=some (usedNo g (i:Int)):=by
   have:=H8 (step:=R9 g ((i:Int),o)) (fun j=>((g.Used.take j).any (fun s=>s.No==(i:Int)),(j:Int))) g.Used.length (r:=usedNo g (i:Int)) ?_ ?_
   ·simpa using this
   ·intro j hj
    have e:(g.Used.take (j+1)).any (fun s=>s.No==(i:Int))=((g.Used.take j).any (fun s=>s.No==(i:Int))||g.Used[j].No==(i:Int)):=by
     rw [List.take_succ_eq_append_getElem hj,List.any_append]; simp
    unfold R9
    simp only [dlt hj,if_true,at?_nat hj,ob,B9 (show j<9223372036854775807 by omega),e]
    generalize (g.Used.take j).any (fun s=>s.No==(i:Int))=b
    by_cases c:g.Used[j].No=(i:Int) <;> cases b <;> simp [c]
   ·unfold R9
    simp [usedNo]
  unfold Br
  simp only [show decide ((i:Int)<g.Segs)=true by simpa using h11.1,show decide ((i:Int)<11)=true by simpa using h11.2,if_true,ob,inner,B9 (show i<9223372036854775807 by omega)]
 ·intro o
  unfold Br
  have hlt:¬ (((nSegs g:Nat):Int)<g.Segs∧((nSegs g:Nat):Int)<11):=by
   unfold nSegs
   split <;> omega
  by_cases c:((nSegs g:Nat):Int)<g.Segs
  ·have c2:¬ ((nSegs g:Nat):Int)<11:=fun d=>hlt ⟨c,d⟩
   simp [c,c2]
  ·simp [c]
theorem Tg {c:TCheck} (h:(checkText c).2=true):checkOk c=true:=by
 unfold checkText at h
 split at h
 ·assumption
 ·cases h
theorem Pe {c:TCheck}:(checkText c).1.length≤100000:=by
 unfold checkText
 split
 ·split
  ·simp
  ·dsimp only; omega
 ·simp
def writeC (d:TDisk) (c:TCheck):TDisk×Bool :=
 if (checkText c).2=true∧D7 d=true then (if (writeB d (4*(c.Stamp.toNat%2)) (checkText c).1).2 then (flush (writeB d (4*(c.Stamp.toNat%2)) (checkText c).1).1,true) else (d,false)) else (d,false)
theorem place {c:TCheck} (h:checkOk c=true):w64 (4*Int.tmod c.Stamp 2)=((4*(c.Stamp.toNat%2):Nat):Int):=by
 have h1:=(Y3 h).1.1
 rw [Int.tmod_eq_emod_of_nonneg (by omega),B4 (by omega) (by omega)]
 omega
theorem A3p {d:TDisk} (hD:DkS d) {c:TCheck} (hc:c.Refs.length≤1048576):R6 d c=some (writeC d c):=by
 unfold R6 writeC
 rw [Hq hc,ob,Fx hD]
 by_cases h1:(checkText c).2=true
 ·rw [if_neg (by simp [h1]),ob]
  by_cases h2:D7 d=true
  ·rw [if_pos h2,ob,if_neg (by simp),if_pos ⟨h1,h2⟩,place (Tg h1),Lr h2 (by omega) Pe,ob]
   have hw:=DkS.ofOk (Tq h2 (4*(c.Stamp.toNat%2)) (checkText c).1)
   cases h3:(writeB d (4*(c.Stamp.toNat%2)) (checkText c).1).2 with
   | true=>simp [Pm hw]
   | false=>simp [Bl hD]
  ·rw [if_neg h2,ob,if_pos rfl,Bl hD,if_neg (fun h=>h2 h.2)]; rfl
 ·rw [if_pos (by simp [h1]),ob,if_pos rfl,Bl hD,if_neg (fun h=>h1 h.1)]; rfl
theorem A2s {d:TDisk} (hD:DkS d) {c:TCheck} (hc:c.Refs.length≤1048576):Y1 d c=some (writeC d c):=by
 unfold Y1 writeC Fp
 rw [Ha hc,ob,Ei hD,ob]
 by_cases h2:D7 d=true
 ·rw [if_pos h2]
  by_cases h1:(checkText c).2=true
  ·rw [if_neg (by simp [h1]),ob,if_pos ⟨h1,h2⟩,place (Tg h1),A3u h2 (by omega) Pe,ob]
   have hw:=DkS.ofOk (Tq h2 (4*(c.Stamp.toNat%2)) (checkText c).1)
   cases h3:(writeB d (4*(c.Stamp.toNat%2)) (checkText c).1).2 with
   | true=>simp [A4e hw]
   | false=>simp [Ek hD]
  ·rw [if_pos (by simp [h1]),Ek hD,if_neg (fun h=>h1 h.1)]; rfl
 ·rw [if_neg h2,Ek hD,if_neg (fun h=>h2 h.2)]; rfl
def refOf (s:TSeg):TRef:={ No:=s.No,Gen:=s.Gen }
def checkOf (g:TLog):TCheck:={ Stamp:=w64 (g.Stamp+1),NextGen:=g.NextGen,NextSeq:=g.NextSeq,NextValid:=g.NextValid,Refs:=g.Used.map refOf }
theorem A72 {g:TLog} (h:g.Used.length≤1048576) {step:Int×List TRef→Option ((Int×List TRef) ⊕ List TRef)}
  (h1:∀ (i:Nat) (o:List TRef) (hi:i<g.Used.length),step ((i:Int),o)=(app? 16 o [refOf g.Used[i]]).bind fun v=>some (.inl (((i+1:Nat):Int),v)))
  (h2:∀ o,step ((g.Used.length:Int),o)=some (.inr o)):iter step (0,[])=some (g.Used.map refOf):=by
 have:=H8 (step:=step) (fun i=>((i:Int),(g.Used.take i).map refOf)) g.Used.length (r:=g.Used.map refOf) ?_ ?_
 ·simpa using this
 ·intro i hi
  rw [h1 i _ hi,app?_ok (by simp; omega) (by simp; omega),List.take_succ_eq_append_getElem hi,List.map_append]; rfl
 ·rw [h2,List.take_length]
theorem Qx {g:TLog} (h:g.Used.length≤1048576):W1 g=some (checkOf g):=by
 unfold W1
 rw [A72 h]
 ·rfl
 ·intro i o hi
  unfold Dc
  simp only [dlt hi,if_true,at?_nat hi,ob,B9 (show i<9223372036854775807 by omega)]
  rfl
 ·intro o; unfold Dc; simp
def itemEq (a b:TItem):Bool:=(a.Seq==b.Seq&&(a.Rec.Kind==b.Rec.Kind&&(a.Rec.Valid==b.Rec.Valid&&(a.Rec.Uid==b.Rec.Uid&&(a.Rec.Next==b.Rec.Next&&(a.Rec.Flags==b.Rec.Flags&&(a.Rec.User==b.Rec.User&&(a.Rec.Name==b.Rec.Name&&(a.Rec.Text==b.Rec.Text&&true)))))))))
theorem Zd {a b:TItem}:itemEq a b=true↔a=b:=by
 unfold itemEq
 constructor
 ·intro h
  simp only [Bool.and_eq_true,beq_iff_eq,and_true] at h
  obtain ⟨h0,h1,h2,h3,h4,h5,h6,h7,h8⟩:=h
  obtain ⟨s,⟨_,_,_,_,_,_,_,_⟩⟩:=a
  obtain ⟨s',⟨_,_,_,_,_,_,_,_⟩⟩:=b
  simp_all
 ·rintro rfl; simp
theorem RecS.of {x:TRec} (h:A1w x):RecS x:=⟨h.sUser,h.sName,h.sText⟩
def SzI (l:List TItem):Prop:=l.length≤1048576∧∀ y∈l,A3r y
def clash (x y:TItem):Bool:=y.Seq==x.Seq&&!itemEq y x
def itOk (l:List TItem) (i:Nat):Bool:=match l[i]? with
 | some x=>inR x.Seq 1 1000000000&&recOk x.Rec&&!(l.take i).any (clash x)
 | none=>true
def itemsOk (l:List TItem):Bool:=(List.range l.length).all (itOk l)&&decide (l.length≤200)
theorem A2r {l:List TItem} (h:itemsOk l=true):l.length≤200∧(∀ x∈l,(1≤x.Seq∧x.Seq≤1000000000)∧recOk x.Rec=true)∧∀ x∈l,∀ y∈l,x.Seq=y.Seq→x=y:=by
 unfold itemsOk at h
 simp only [Bool.and_eq_true,decide_eq_true_eq,List.all_eq_true] at h
 obtain ⟨h1,h2⟩:=h
 have key:∀ i (hi:i<l.length),(1≤l[i].Seq∧l[i].Seq≤1000000000)∧recOk l[i].Rec=true∧∀ j (hj:j<i),l[j].Seq=l[i].Seq→l[j]=l[i]:=by
  intro i hi
  have h3:=h1 i (List.mem_range.2 hi)
  unfold itOk at h3
  rw [qG hi] at h3
  simp only [Bool.and_eq_true,inR,decide_eq_true_eq,Bool.not_eq_true',List.any_eq_false] at h3
  refine ⟨h3.1.1,h3.1.2,?_⟩
  intro j hj he
  have h4:=h3.2 l[j] (qM (i:=j) (by rw [List.getElem?_take_of_lt hj,qG (by omega)]))
  unfold clash at h4
  rw [he] at h4
  simp only [beq_self_eq_true,Bool.true_and,Bool.not_eq_true',Bool.not_eq_false] at h4
  exact Zd.1 h4
 refine ⟨h2,?_,?_⟩
 ·intro x hx
  obtain ⟨i,hi,rfl⟩:=List.mem_iff_getElem.1 hx
  exact ⟨(key i hi).1,(key i hi).2.1⟩
 ·intro x hx y hy he
  obtain ⟨i,hi,rfl⟩:=List.mem_iff_getElem.1 hx
  obtain ⟨j,hj,rfl⟩:=List.mem_iff_getElem.1 hy
  rcases Nat.lt_trichotomy i j with h | h | h
  ·exact (key j hj).2.2 i h he
  ·subst h; rfl
  ·exact ((key i hi).2.2 j h he.symm).symm
theorem A99 {l:List TItem} (h:SzI l):Lu l=some (itemsOk l):=by
 have hlen:=h.1
 have hl:iter (Cw l) 0=some (if (List.range l.length).all (itOk l) then .inr () else .inl false):=by
  refine Jz (fun i=>(i:Int)) l.length _ ?_ ?_ ?_
  all_goals first
   | (unfold Cw; simp; done)
   | skip
  all_goals
   intro i hi hp
   have inner:iter (Db l (i:Int)) 0=some (if (l.take i).any (clash l[i]) then .inl false else .inr ()):=by
    refine Ho (by omega) ?_ ?_
    ·intro j hj hji
     unfold Db
     simp only [dlt hji,if_true,at?_nat hj,at?_nat hi,ob,B9 (show j<9223372036854775807 by omega)]
     show ((if (l[j].Seq==l[i].Seq)=true then (if (!itemEq l[j] l[i])=true then some true else some false) else some false):Option Bool).bind _=_
     unfold clash
     cases l[j].Seq==l[i].Seq <;> cases itemEq l[j] l[i] <;> simp
    ·unfold Db
     simp
   have hr:=Yo (RecS.of (h.2 _ (List.getElem_mem hi)).sRec)
   unfold itOk at hp
   rw [qG hi] at hp
   dsimp only at hp
   unfold Cw
   simp only [dlt hi,if_true,at?_nat hi,ob,M4,inner,hr]
   generalize inR l[i].Seq 1 1000000000=b1 at hp ⊢
   generalize recOk l[i].Rec=b2 at hp ⊢
   generalize (l.take i).any (clash l[i])=b4 at hp ⊢
   revert hp
   cases b1 <;> cases b2 <;> cases b4 <;> simp [B9 (show i<9223372036854775807 by omega)]
 unfold Lu itemsOk
 rw [hl]
 cases (List.range l.length).all (itOk l)
 ·simp
 ·simp; omega
theorem A1n {l:List TItem} (h:SzI l):Ci l=some (itemsOk l):=by
 have hlen:=h.1
 have hl:iter (Z4 l) 0=some (if (List.range l.length).all (itOk l) then .inr () else .inl false):=by
  refine Jz (fun i=>(i:Int)) l.length _ ?_ ?_ ?_
  all_goals first
   | (unfold Z4; simp; done)
   | skip
  all_goals
   intro i hi hp
   have hc:=Di (x0:=l.take i) (x1:=l[i]) (q:=clash l[i]) (by simp; omega) (fun y _=>by
    show (if (y.Seq==l[i].Seq)=true then some (!itemEq y l[i]) else some false)=_
    unfold clash
    cases y.Seq==l[i].Seq <;> simp)
   have hr:=Qk (RecS.of (h.2 _ (List.getElem_mem hi)).sRec)
   unfold itOk at hp
   rw [qG hi] at hp
   dsimp only at hp
   unfold Z4
   simp only [dlt hi,if_true,at?_nat hi,ob,R2,hc,hr,sub?_take (Nat.le_of_lt hi)]
   generalize inR l[i].Seq 1 1000000000=b1 at hp ⊢
   generalize recOk l[i].Rec=b2 at hp ⊢
   generalize (l.take i).any (clash l[i])=b4 at hp ⊢
   revert hp
   cases b1 <;> cases b2 <;> cases b4 <;> simp [B9 (show i<9223372036854775807 by omega)]
 unfold Ci itemsOk
 rw [hl]
 by_cases h2:l.length≤200
 ·rw [if_neg (by simp; omega)]
  cases (List.range l.length).all (itOk l) <;> simp [h2]
 ·rw [if_pos (by simp; omega)]
  simp [h2]
def pk (p:TItem→Bool) (lt:TItem→TItem→Bool) (l:List TItem):Nat→Option TItem
 | 0=>none
 | i+1=>match l[i]? with
  | some x=>if p x&&(match pk p lt l i with | none=>true | some b=>lt b x) then some x else pk p lt l i
  | none=>pk p lt l i
def pick (p:TItem→Bool) (lt:TItem→TItem→Bool) (l:List TItem):Option TItem:=pk p lt l l.length
theorem A7h {β:Type} {n byt:Nat} {f:Nat→β} {step:Int×List β→Option ((Int×List β) ⊕ List β)} (hl:n≤1048576) (hb:byt≤1000000)
  (h1:∀ (i:Nat) (o:List β),i<n→step ((i:Int),o)=(app? byt o [f i]).bind fun v=>some (.inl (((i+1:Nat):Int),v)))
  (h2:∀ o,step ((n:Int),o)=some (.inr o)):iter step (0,[])=some ((List.range n).map f):=by
 refine H8 (step:=step) (fun i=>((i:Int),(List.range i).map f)) n ?_ (h2 _)
 intro i hi
 have hm:(i+1)*byt≤1048576*1000000:=Nat.mul_le_mul (by omega) hb
 rw [h1 i _ hi,app?_ok (by simp; omega) (by simp; omega),List.range_succ,List.map_append]
 rfl
def zero32:List UInt8:=List.replicate 32 0
def newDisk (n:Nat):TDisk:={ Sectors:=List.replicate n zero32,Cache:=[] }
theorem A73:Bv=some zero32:=by
 unfold Bv Es
 rw [show (32:Int)=((32:Nat):Int) from rfl,mk?_ok (by omega) (by omega),ob]
 have h:=A9d (l:=List.replicate 32 (0:Int)) (z:=(0:Int)) (step:=Z5 ((32:Nat):Int) 0) (by simp) ?_ ?_
 ·rw [List.length_replicate] at h
  rw [h]; rfl
 ·intro i hi o ho
  rw [List.length_replicate] at hi ho
  have hio:i<o.length:=by omega
  unfold Z5
  simp only [dlt hi,if_true,at?_nat hio,ob,B9 (show i<9223372036854775807 by omega),Qr,List.getElem_replicate]
 ·intro o
  unfold Z5
  simp
theorem A66 {n:Nat} (hn:n≤100) {step:Int×List (List UInt8)→Option ((Int×List (List UInt8)) ⊕ List (List UInt8))}
  (h1:∀ (i:Nat) (o:List (List UInt8)),i<n→step ((i:Int),o)=(app? 16 o [zero32]).bind fun v=>some (.inl (((i+1:Nat):Int),v)))
  (h2:∀ o,step ((n:Int),o)=some (.inr o)):iter step (0,[])=some (List.replicate n zero32):=by
 have h:=A7h (n:=n) (byt:=16) (f:=fun _=>zero32) (step:=step) (by omega) (by omega) h1 h2
 rw [h]
 congr 1
 simp [List.map_const']
theorem A2l {n:Nat} (h0:1≤n) (hn:n≤100):Cn (n:Int)=some (newDisk n,true):=by
 unfold Cn
 rw [M4,ob,if_pos (by unfold inR; simp; omega),A66 (n:=n) hn]
 ·rfl
 ·intro i o hi
  unfold Cx
  simp only [dlt hi,if_true,A73,ob,B9 (show i<9223372036854775807 by omega)]
 ·intro o
  unfold Cx; simp
theorem A48 {n:Nat} (h0:1≤n) (hn:n≤100):D7 (newDisk n)=true:=by
 rw [L9]
 refine ⟨by simp [newDisk]; omega,by simp [newDisk],?_,by simp [newDisk]⟩
 intro s hs
 have:=List.eq_of_mem_replicate hs
 subst this; rfl
def head1:TFrame:={ Gen:=1,Seq:=1,Body:=[115,101,103] }
def headT:List UInt8:=(E6 head1).1
theorem A9b:(E6 head1).2=true:=by
 unfold E6
 rw [if_pos (by decide)]
theorem Qy:headT.length≤256:=by
 unfold headT E6
 rw [if_pos (by decide)]
 have:=Hv (f:=head1) (by decide)
 simp only [List.length_append]
 have h4:(sealL (frameT head1)).length=4:=by rfl
 omega
def log0 (k:Nat):TLog:={ Disk:=newDisk (8+k*8),Segs:=(k:Int),Used:=[],NextGen:=1,NextSeq:=1,Stamp:=0,NextValid:=1 }
def zlog:TLog:={ Disk:={ Sectors:=[],Cache:=[] },Segs:=0,Used:=[],NextGen:=0,NextSeq:=0,Stamp:=0,NextValid:=0 }
def open0 (k:Nat):TDisk×Bool:=writeB (newDisk (8+k*8)) 8 headT
def log1 (k:Nat):TLog:={ Disk:=flush (open0 k).1,Segs:=(k:Int),Used:=[{ No:=0,Gen:=1,End:=(headT.length:Int),Items:=[] }],NextGen:=2,NextSeq:=1,Stamp:=0,NextValid:=1 }
def fixd (k:Nat):TDisk×Bool:=writeC (log1 k).Disk (checkOf (log1 k))
def fmtK (k:Nat):TLog×Bool:=if (open0 k).2&&(fixd k).2 then ({ log1 k with Disk:=(fixd k).1,Stamp:=1 },true) else (zlog,false)
def fmt (x:Int):TLog×Bool:=if inR x 5 11 then fmtK x.toNat else (zlog,false)
theorem free0 {k:Nat} (h:5≤k∧k≤11):∃ t,freeSegs (log0 k)=0::t:=by
 have:k=5∨k=6∨k=7∨k=8∨k=9∨k=10∨k=11:=by omega
 rcases this with rfl | rfl | rfl | rfl | rfl | rfl | rfl <;> exact ⟨_,rfl⟩
theorem A1a {k:Nat} (h:5≤k∧k≤11):D7 (newDisk (8+k*8))=true:=A48 (by omega) (by omega)
theorem Aa3 {k:Nat} (h:5≤k∧k≤11):D7 (open0 k).1=true:=Tq (A1a h) 8 headT
theorem A0l {k:Nat} (h:5≤k∧k≤11):F8 (newDisk (8+k*8)) 0 0 headT=some (open0 k):=by
 have hl:=Qy
 unfold F8 T3
 rw [M4,ob,if_pos (by decide),M4,ob,if_pos (by decide)]
 rw [if_neg (by rw [show w64 (256 - 0)=256 from rfl]; simp; omega),ob,if_neg (by simp)]
 simp only [ob]
 rw [if_pos (by decide),ob,show w64 (8+w64 (0*8))=((8:Nat):Int) from rfl,Lr (A1a h) (by omega) (by omega)]
 rfl
theorem A4x {k:Nat} (h:5≤k∧k≤11):T0 (log0 k) 0=some (if (open0 k).2 then (true,log1 k) else (false,log0 k)):=by
 obtain ⟨t,ht⟩:=free0 h
 unfold T0
 have e1:=Pb (g:=log0 k) (by simp [log0])
 show (P8 (log0 k)).bind _=_
 rw [e1,ob,ht]
 rw [if_neg (by decide),if_neg (by simp),ob,if_neg (by simp)]
 show (J7 head1).bind _=_
 rw [Ca,ob,show at? (0::t) 0=some 0 from by rw [show (0:Int)=((0:Nat):Int) from rfl,at?_nat (by simp)]; rfl,ob]
 show (F8 (newDisk (8+k*8)) 0 0 headT).bind _=_
 rw [A0l h,ob,A9b]
 cases ho:(open0 k).2
 ·rfl
 ·simp only [Bool.not_true,Bool.false_eq_true,if_false]
  rw [if_neg (show ¬ (decide ((log0 k).NextGen≥1000000000)=true) by simp [log0]),ob,if_neg (by simp),Pm (DkS.ofOk (Aa3 h)),ob,ob,app?_ok (by simp) (by simp)]
  rfl
theorem A2o {k:Nat} (h:5≤k∧k≤11):D7 (log1 k).Disk=true:=A76 (Aa3 h)
theorem A83 (x:Int):Y5 x=some (fmt x):=by
 unfold Y5 fmt
 rw [M4,ob]
 cases hr:inR x 5 11 with
 | false=>rfl
 | true =>
  unfold inR at hr
  simp only [Bool.and_eq_true,decide_eq_true_eq] at hr
  obtain ⟨k,rfl⟩:∃ k:Nat,x=k:=⟨x.toNat,by omega⟩
  have h:5≤k∧k≤11:=by omega
  rw [if_pos rfl,if_pos rfl,Int.toNat_natCast]
  have e:w64 (8+w64 ((k:Int)*8))=((8+k*8:Nat):Int):=by
   rw [B4 (n:=(k:Int)*8) (by omega) (by omega),B4 (by omega) (by omega)]; omega
  rw [e,A2l (by omega) (by omega),ob]
  show (T0 (log0 k) 0).bind _=_
  rw [A4x h,ob]
  unfold fmtK
  cases ho:(open0 k).2
  ·rfl
  ·simp only [if_true,Bool.true_and]
   have e1:=Qx (g:=log1 k) (by simp [log1])
   show (W1 (log1 k)).bind _=_
   rw [e1,ob]
   show (R6 (log1 k).Disk (checkOf (log1 k))).bind _=_
   rw [A3p (DkS.ofOk (A2o h)) (by simp [checkOf,log1]),ob]
   show (if (!(fixd k).2)=true then _ else _)=_
   cases hf:(fixd k).2
   ·rfl
   ·rfl
theorem andv255 (a:Int):0≤andv .i64 a 255∧andv .i64 a 255≤255:=by
 have h:andv .i64 a 255=w64 ((BitVec.ofInt 64 a &&& BitVec.ofInt 64 255).toNat:Int):=rfl
 have h2:(BitVec.ofInt 64 a &&& BitVec.ofInt 64 255).toNat≤255:=by
  rw [BitVec.toNat_and]
  exact Nat.le_trans Nat.and_le_right (by decide)
 rw [h,B4 (by omega) (by omega)]
 omega
def IOk (b:List Int) (i:Int):Prop:=0≤i∧i≤(b.length:Int)∧(b.length:Int)≤1048576
def Dr {α:Type} (b:List Int) (o:Option (α×TL01Cur)) (P:α→Prop):Prop:=∃ r i h,o=some (r,⟨b,i,h⟩)∧P r∧IOk b i
theorem Dr.bind {α β:Type} {b:List Int} {o:Option (α×TL01Cur)} {P:α→Prop} {f:α×TL01Cur→Option (β×TL01Cur)} {Q:β→Prop} (h:Dr b o P) (g:∀ r i h,P r→IOk b i→Dr b (f (r,⟨b,i,h⟩)) Q):Dr b (o.bind f) Q:=by
 obtain ⟨r,i,h',rfl,hp,hi⟩:=h
 exact g r i h' hp hi
theorem Dr.ret {α:Type} {b:List Int} {r:α} {i h:Int} {Q:α→Prop} (hi:IOk b i) (hq:Q r):Dr b (some (r,⟨b,i,h⟩)) Q:=⟨r,i,h,rfl,hq,hi⟩
theorem Dr.get {α γ:Type} {b:List Int} {o:Option (α×TL01Cur)} {P:α→Prop} {f:α×TL01Cur→Option γ} {Q:γ→Prop} (h:Dr b o P) (g:∀ r i h,P r→IOk b i→∃ z,f (r,⟨b,i,h⟩)=some z∧Q z):∃ z,o.bind f=some z∧Q z:=by
 obtain ⟨r,i,h',rfl,hp,hi⟩:=h
 exact g r i h' hp hi
theorem Qw {b:List Int} {i h:Int} (hi:IOk b i):Dr b (L6 ⟨b,i,h⟩) fun x=>0≤x∧x≤255:=by
 unfold L6
 obtain ⟨h0,h1,h2⟩:=hi
 by_cases hl:i<(b.length:Int)
 ·obtain ⟨n,rfl⟩:∃ n:Nat,i=n:=⟨i.toNat,by omega⟩
  rw [if_pos (by simpa using hl),at?_nat (show n<b.length by omega),ob]
  refine ⟨_,_,_,rfl,andv255 _,?_⟩
  show IOk b (w64 ((n:Int)+1))
  rw [B4 (by omega) (by omega)]; exact ⟨by omega,by omega,h2⟩
 ·rw [if_neg (by simpa using hl)]
  exact ⟨_,_,_,rfl,andv255 _,h0,h1,h2⟩
theorem Cc {b:List Int} {i h:Int} (hi:IOk b i) {n:Int} (hn:1≤n) (hm:n≤4294967296):Dr b (D4 ⟨b,i,h⟩ n) fun x=>0≤x∧x<n:=by
 unfold D4
 rw [if_neg (by simp; omega)]
 have tm:∀ x:Int,0≤x→0≤Int.tmod x n∧Int.tmod x n<n:=fun x hx=>⟨Int.tmod_nonneg _ hx,Int.tmod_lt_of_pos _ (by omega)⟩
 have rm:∀ x:Int,rem? x n=some (Int.tmod x n):=fun x=>by unfold rem?; rw [if_neg (by omega)]
 by_cases hs:n≤256
 ·rw [if_pos (by simpa using hs)]
  refine Dr.bind (Qw hi) fun x i h hx hi=>?_
  rw [rm,ob]
  exact Dr.ret hi (tm x hx.1)
 ·rw [if_neg (by simpa using hs)]
  refine Dr.bind (Qw hi) fun x i h hx hi=>Dr.bind (Qw hi) fun y i h hy hi=>Dr.bind (Qw hi) fun z i h hz hi=>Dr.bind (Qw hi) fun u i h hu hi=>?_
  rw [rm,ob]
  refine Dr.ret hi (tm _ ?_)
  dsimp only
  rw [B4 (n:=x*16777216) (by omega) (by omega),B4 (n:=y*65536) (by omega) (by omega),B4 (n:=z*256) (by omega) (by omega),B4 (n:=x*16777216+y*65536) (by omega) (by omega),B4 (n:=x*16777216+y*65536+z*256) (by omega) (by omega),B4 (by omega) (by omega)]
  omega
theorem A51 {b:List Int} {i h:Int} (hi:IOk b i) {l:List Int} (h1:1≤l.length) (h2:l.length≤100):Dr b (U0 ⟨b,i,h⟩ l) fun x=>x∈l:=by
 unfold U0
 refine Dr.bind (Cc hi (by omega) (by omega)) fun x i h hx hi=>?_
 obtain ⟨n,rfl⟩:∃ n:Nat,x=n:=⟨x.toNat,by omega⟩
 rw [at?_nat (by omega),ob]
 exact Dr.ret hi (List.getElem_mem _)
theorem A1q {b:List Int} {i h:Int} (hi:IOk b i) {l:List (List UInt8)} (h1:1≤l.length) (h2:l.length≤100):Dr b (Q8 ⟨b,i,h⟩ l) fun x=>x∈l:=by
 unfold Q8
 refine Dr.bind (Cc hi (by omega) (by omega)) fun x i h hx hi=>?_
 obtain ⟨n,rfl⟩:∃ n:Nat,x=n:=⟨x.toNat,by omega⟩
 rw [at?_nat (by omega),ob]
 exact Dr.ret hi (List.getElem_mem _)
theorem A9o {b:List Int} (_hb:b.length≤1048576):∃ h,Bd b=some ⟨b,0,h⟩:=by
 have key:∃ r,iter (Bt b) (w64 (76001+(b.length:Int)),0)=some r∧True:=by
  refine Fu (fun s:Int×Int=>0≤s.2∧s.2≤(b.length:Int)) (fun s=>((b.length:Int) - s.2).toNat) (fun _=>True) ?_ _ ⟨by simp,by simp⟩
  rintro ⟨x,i⟩ ⟨h0,h1⟩
  simp only at h0 h1
  unfold Bt
  by_cases hl:i<(b.length:Int)
  ·by_cases h4:i<4000
   ·left
    obtain ⟨n,rfl⟩:∃ n:Nat,i=n:=⟨i.toNat,by omega⟩
    rw [if_pos (by simpa using hl),if_pos (by simpa using h4),ob,if_pos rfl]
    show ∃ s',(at? b (n:Int)).bind _=_∧_
    rw [at?_nat (by omega),ob]
    refine ⟨_,rfl,?_,?_⟩
    ·simp only; rw [B4 (by omega) (by omega)]; omega
    ·simp only; rw [B4 (by omega) (by omega)]; omega
   ·right
    rw [if_pos (by simpa using hl),if_neg (by simpa using h4)]
    exact ⟨_,rfl,trivial⟩
  ·right
   rw [if_neg (by simpa using hl)]
   exact ⟨_,rfl,trivial⟩
 obtain ⟨r,e,_⟩:=key
 exact ⟨r,by unfold Bd; rw [e,ob]⟩
theorem iok0 {b:List Int} (hb:b.length≤1048576):IOk b 0:=⟨by omega,by omega,by omega⟩
theorem Wa {x:TRec} (h:recOk x=true):1≤x.Valid∧x.Valid≤9999:=by
 unfold recOk at h
 simp only [Bool.and_eq_true] at h
 have:=h.1.1.1.1.2
 simpa [inR] using this
theorem A2y {l:List TItem}:itemsOk l=true↔l.length≤200∧(∀ x∈l,(1≤x.Seq∧x.Seq≤1000000000)∧recOk x.Rec=true)∧∀ x∈l,∀ y∈l,x.Seq=y.Seq→x=y:=by
 refine ⟨A2r,fun ⟨h1,h2,h3⟩=>?_⟩
 unfold itemsOk
 simp only [Bool.and_eq_true,decide_eq_true_eq,List.all_eq_true]
 refine ⟨fun i hi=>?_,h1⟩
 have hi:=List.mem_range.1 hi
 unfold itOk
 rw [qG hi]
 have hx:=h2 l[i] (List.getElem_mem hi)
 simp only [Bool.and_eq_true,inR,decide_eq_true_eq,Bool.not_eq_true',List.any_eq_false]
 refine ⟨⟨hx.1,hx.2⟩,fun y hy=>?_⟩
 have hy:=List.mem_of_mem_take hy
 unfold clash
 by_cases he:y.Seq=l[i].Seq
 ·have:=h3 y hy l[i] (List.getElem_mem hi) he
  simp [this,Zd.2 rfl]
 ·simp [he]
structure RecD (r:TRec):Prop where
 ok:recOk r=true
 valid:r.Valid≤3
 next:r.Next≤6
 uid:r.Uid≤5
 user:r.User.length≤3
 name:r.Name.length≤5
 text:r.Text.length≤28
theorem Ri {k v u n f:Int} {us nm tx:List UInt8} (h:recOk { Kind:=k,Valid:=v,Uid:=u,Next:=n,Flags:=f,User:=us,Name:=nm,Text:=tx }=true) (h1:v≤3) (h2:n≤6) (h3:u≤5) (h4:us.length≤3) (h5:nm.length≤5) (h6:tx.length≤28):RecD { Kind:=k,Valid:=v,Uid:=u,Next:=n,Flags:=f,User:=us,Name:=nm,Text:=tx }:=⟨h,h1,h2,h3,h4,h5,h6⟩
theorem A91 {b:List Int} {i h:Int} (hi:IOk b i):Dr b (Z3 ⟨b,i,h⟩) fun x=>x.length≤28:=by
 unfold Z3
 refine Dr.bind (A1q hi (by decide) (by decide)) fun x i h hx hi=>Dr.ret hi ?_
 simp only [List.mem_cons,List.not_mem_nil,or_false] at hx
 rcases hx with rfl | rfl | rfl | rfl | rfl <;> simp
theorem w64s {x:Int} (h:0≤x) (h':x≤1000000000):w64 (1+x)=1+x:=B4 (by omega) (by omega)
theorem A9u {b:List Int} {i h:Int} (hi:IOk b i):Dr b (Bg ⟨b,i,h⟩) RecD:=by
 unfold Bg
 refine Dr.bind (A51 hi (by decide) (by decide)) fun k i h hk hi=>Dr.bind (Cc hi (by omega) (by omega)) fun v i h hv hi=>?_
 have hk':k=1∨k=2∨k=3∨k=4∨k=5:=by
  simp only [List.mem_cons,List.not_mem_nil,or_false] at hk; omega
 have hv1:w64 (1+v)=1+v:=w64s hv.1 (by omega)
 have iv:inR (1+v) 1 9999=true:=by unfold inR; simp; omega
 rcases hk' with rfl | rfl | rfl | rfl | rfl
 ·show Dr b (Option.bind _ _) _
  refine Dr.bind (A1q hi (by decide) (by decide)) fun us i h hus hi=>Dr.bind (A1q hi (by decide) (by decide)) fun nm i h hnm hi=>Dr.bind (Cc hi (by omega) (by omega)) fun n i h hn hi=>Dr.ret hi ?_
  dsimp only
  have hw:wordOk us=true∧us.length≤3:=by
   simp only [List.mem_cons,List.not_mem_nil,or_false] at hus
   rcases hus with rfl | rfl <;> decide
  have hw2:wordOk nm=true∧nm.length≤5:=by
   simp only [List.mem_cons,List.not_mem_nil,or_false] at hnm
   rcases hnm with rfl | rfl <;> decide
  rw [hv1,w64s hn.1 (by omega)]
  refine Ri ?_ (by omega) (by omega) (by omega) hw.2 hw2.2 (by simp)
  unfold recOk
  simp [hw.1,hw2.1,inR]; omega
 ·refine Dr.ret hi ?_
  dsimp only
  rw [hv1]
  refine Ri ?_ (by omega) (by omega) (by omega) (by simp) (by simp) (by simp)
  unfold recOk
  simp [iv]; decide
 ·show Dr b (Option.bind _ _) _
  refine Dr.bind (Cc hi (by omega) (by omega)) fun u i h hu hi=>Dr.bind (Cc hi (by omega) (by omega)) fun f i h hf hi=>Dr.bind (A91 hi) fun tx i h htx hi=>Dr.ret hi ?_
  dsimp only
  rw [hv1,w64s hu.1 (by omega)]
  refine Ri ?_ (by omega) (by omega) (by omega) (by simp) (by simp) htx
  have i2:inR (1+u) 1 9999=true:=by unfold inR; simp; omega
  have i3:inR f 0 7=true:=by unfold inR; simp; omega
  have i4:inR 3 1 5=true:=by decide
  unfold recOk
  simp [iv,i2,i3,i4]; omega
 ·show Dr b (Option.bind _ _) _
  refine Dr.bind (Cc hi (by omega) (by omega)) fun u i h hu hi=>Dr.bind (Cc hi (by omega) (by omega)) fun f i h hf hi=>Dr.ret hi ?_
  dsimp only
  rw [hv1,w64s hu.1 (by omega)]
  refine Ri ?_ (by omega) (by omega) (by omega) (by simp) (by simp) (by simp)
  have i2:inR (1+u) 1 9999=true:=by unfold inR; simp; omega
  have i3:inR f 0 7=true:=by unfold inR; simp; omega
  have i4:inR 4 1 5=true:=by decide
  unfold recOk
  simp [iv,i2,i3,i4]
 ·show Dr b (Option.bind _ _) _
  refine Dr.bind (Cc hi (by omega) (by omega)) fun u i h hu hi=>Dr.ret hi ?_
  dsimp only
  rw [hv1,w64s hu.1 (by omega)]
  refine Ri ?_ (by omega) (by omega) (by omega) (by simp) (by simp) (by simp)
  have i2:inR (1+u) 1 9999=true:=by unfold inR; simp; omega
  have i4:inR 5 1 5=true:=by decide
  unfold recOk
  simp [iv,i2,i4]
theorem RecD.sz {r:TRec} (h:RecD r):A1w r:=⟨by have:=h.user; omega,by have:=h.name; omega,by have:=h.text; omega⟩
def hd (g:TLog):TSeg:=(g.Used[g.Used.length - 1]?).getD { No:=0,Gen:=0,End:=0,Items:=[] }
def hdF (gen:Int):TFrame:={ Gen:=gen,Seq:=1,Body:=[115,101,103] }
def hdT (gen:Int):List UInt8:=(E6 (hdF gen)).1
theorem A9m {gen:Int} (h:1≤gen∧gen≤1000000000):(E6 (hdF gen)).2=true:=by
 unfold E6
 rw [if_pos]
 unfold E9 hdF inR
 simp; omega
theorem A1p (gen:Int):(hdT gen).length≤217:=by
 unfold hdT E6
 split
 ·rename_i h
  have:=Hv h
  have e:=X1 (frameT (hdF gen))
  rw [List.length_append]; omega
 ·simp
def openG (g:TLog):TLog:={ g with Disk:=poke g.Disk (256*(g.Used.length+1)) (hdT g.NextGen),Used:=g.Used++[{ No:=(g.Used.length:Int),Gen:=g.NextGen,End:=((hdT g.NextGen).length:Int),Items:=[] }],NextGen:=g.NextGen+1 }
def appG (g:TLog) (x:TItem) (T:List UInt8):TLog:={ g with Disk:=poke g.Disk (256*g.Used.length+(hd g).End.toNat) T,Used:=g.Used.dropLast++[{ No:=(hd g).No,Gen:=(hd g).Gen,End:=(hd g).End+(T.length:Int),Items:=(hd g).Items++[x] }],NextSeq:=if x.Seq≥g.NextSeq then x.Seq+1 else g.NextSeq,NextValid:=if x.Rec.Valid≥g.NextValid then x.Rec.Valid+1 else g.NextValid }
def openS (n:Nat) (g:TLog) (keep:Int):Bool×TLog:=if keep<((n - g.Used.length:Nat):Int) then (true,openG g) else (false,g)
def frT (g:TLog) (f:TFrame):List UInt8×Bool:=E6 { Gen:=(hd g).Gen,Seq:=f.Seq,Body:=f.Body }
def appS (n:Nat) (g:TLog) (x:TItem) (keep:Int):Bool×TLog :=
 let f:=G4 x (hd g).Gen
 let t:=E6 f.1
 if f.2=false then (false,g) else if t.2=false then (false,g) else if x.Seq≥1000000000 then (false,g)
 else if (hd g).End+(t.1.length:Int)>256 then
  (if (openS n g keep).1 then
   (if (frT (openG g) f.1).2=false then (false,openG g) else if (hd (openG g)).End+((frT (openG g) f.1).1.length:Int)>256 then (false,openG g) else (true,appG (openG g) x (frT (openG g) f.1).1))
  else (false,g))
 else (true,appG g x t.1)
structure W (n:Nat) (S0:Nat→List UInt8) (g:TLog):Prop where
 rng:5≤n∧n≤11
 ok:D7 g.Disk=true
 cache:g.Disk.Cache=[]
 sec:g.Disk.Sectors.length=8+8*n
 segs:g.Segs=(n:Int)
 used:∀ (j:Nat) (s:TSeg),g.Used[j]?=some s→s.No=(j:Int)∧s.Gen=(j:Int)+1∧0≤s.End∧s.End≤256
 len:1≤g.Used.length∧g.Used.length≤n
 gen:g.NextGen=(g.Used.length:Int)+1
 seq:g.NextSeq=((B6 g).length:Int)+1
 stamp:g.Stamp=1
 valid:1≤g.NextValid∧g.NextValid≤4
 its:∀ (i:Nat) (x:TItem),(B6 g)[i]?=some x→x.Seq=(i:Int)+1∧RecD x.Rec∧x.Rec.Valid<g.NextValid
 home:∀ a,a<8→rsec g.Disk a=S0 a
theorem A9h {g:TLog} {l:List TSeg} {s:TSeg} (h:g.Used=l++[s]):hd g=s:=by
 unfold hd; rw [h]; simp
theorem Vl {g:TLog} (h:1≤g.Used.length):g.Used=g.Used.dropLast++[hd g]:=by
 have h0:g.Used≠[]:=by intro e; rw [e] at h; simp at h
 have:=List.dropLast_concat_getLast h0
 conv=>lhs; rw [← this]
 have e:hd g=g.Used.getLast h0:=A9h this.symm
 rw [e]
theorem A89 {g:TLog} (h:1≤g.Used.length):g.Used[g.Used.length - 1]?=some (hd g):=by
 unfold hd
 rw [qG (by omega)]; rfl
theorem W.hd {n:Nat} {S0:Nat→List UInt8} {g:TLog} (h:W n S0 g):(hd g).No=(g.Used.length:Int) - 1∧(V.hd g).Gen=(g.Used.length:Int)∧0≤(V.hd g).End∧(V.hd g).End≤256:=by
 have h1:=h.len.1
 obtain ⟨a,b,c,d⟩:=h.used _ _ (A89 h1)
 refine ⟨by omega,by omega,c,d⟩
theorem W.usedNo {n:Nat} {S0:Nat→List UInt8} {g:TLog} (h:W n S0 g) (i:Nat):usedNo g (i:Int)=decide (i<g.Used.length):=by
 unfold V.usedNo
 rw [Bool.eq_iff_iff,List.any_eq_true,decide_eq_true_iff]
 constructor
 ·rintro ⟨s,hs,he⟩
  obtain ⟨j,hj⟩:=List.getElem?_of_mem hs
  have:=h.used j s hj
  have hl:=(qI hj).1
  have he':=beq_iff_eq.1 he
  omega
 ·intro hi
  refine ⟨g.Used[i],List.getElem_mem hi,?_⟩
  have:=h.used i _ (qG hi)
  rw [this.1]; simp
theorem A4r:∀ n:Nat,n<12→∀ u:Nat,u<12→u≤n→(List.range n).filter (fun i=>!decide (i<u))=List.range' u (n - u):=by decide
theorem W.free {n:Nat} {S0:Nat→List UInt8} {g:TLog} (h:W n S0 g):freeSegs g=(List.range' g.Used.length (n - g.Used.length)).map fun (k:Nat)=>(k:Int):=by
 have hn:=h.rng
 have hl:=h.len
 unfold freeSegs
 have e:nSegs g=n:=by unfold nSegs; rw [h.segs,if_neg (by omega)]; rfl
 rw [e,← A4r n (by omega) g.Used.length (by omega) hl.2]
 congr 2
 funext i
 rw [h.usedNo i]
theorem A19 {d:TDisk} (h:D7 d=true) (hc:d.Cache=[]) {T:List UInt8} {no t:Nat} (hno:no≤10) (hs:16+8*no≤d.Sectors.length) (ht:t+T.length≤256) :
  ∃ d1,F8 d (no:Int) (t:Int) T=some (d1,true)∧G9 d1=some (poke d (256*(no+1)+t) T):=by
 obtain ⟨d1,e1,e2⟩:=A68 h hc (T:=T) (s:=8+8*no) (t:=t) (by omega) (by omega) (by omega) (by omega)
 refine ⟨d1,?_,by rw [e2]; congr 2; omega⟩
 unfold F8 T3
 rw [M4,ob,if_pos (by unfold inR; simp; omega),M4,ob,if_pos (by unfold inR; simp; omega)]
 rw [if_neg (by rw [B4 (by omega) (by omega)]; simp; omega),ob,if_neg (by simp)]
 simp only [ob]
 rw [if_pos (by unfold inR; simp; omega),ob,B4 (n:=(no:Int)*8) (by omega) (by omega),B4 (by omega) (by omega),show (8:Int)+(no:Int)*8=((8+8*no:Nat):Int) by omega,e1]
 rfl
theorem A6t {n:Nat} {S0:Nat→List UInt8} {g:TLog} (h:W n S0 g) {keep:Int} (hk:0≤keep):T1 g keep=some (openS n g keep):=by
 have hn:=h.rng
 have hl:=h.len
 unfold T1 openS
 show (P8 g).bind _=_
 rw [Pb (by omega),ob,if_neg (by simp; omega),h.free]
 by_cases c:keep<((n - g.Used.length:Nat):Int)
 ·rw [if_neg (by simp; omega),ob,if_neg (by simp),if_pos c]
  show (J7 (hdF g.NextGen)).bind _=_
  have ho:=A9m (gen:=g.NextGen) (by rw [h.gen]; omega)
  have ha:at? ((List.range' g.Used.length (n - g.Used.length)).map fun (k:Nat)=>(k:Int)) 0=some (g.Used.length:Int):=by
   rw [show (0:Int)=((0:Nat):Int) from rfl,at?_nat (by simp; omega)]; simp
  rw [Ca,ob,ha,ob]
  have ht:=A1p g.NextGen
  obtain ⟨d1,e1,e2⟩:=A19 h.ok h.cache (T:=hdT g.NextGen) (no:=g.Used.length) (t:=0) (by omega) (by rw [h.sec]; omega) (by omega)
  show (F8 g.Disk (g.Used.length:Int) ((0:Nat):Int) (hdT g.NextGen)).bind _=_
  rw [e1,ob,ho,if_neg (by simp),if_neg (by simp),if_neg (by rw [h.gen]; simp; omega),ob,if_neg (by simp),e2,ob,app?_ok (by simp; omega) (by simp; omega),ob,ob,app?_ok (by simp; omega) (by simp; omega),ob,B4 (n:=g.NextGen+1) (by rw [h.gen]; omega) (by rw [h.gen]; omega)]
  rfl
 ·rw [if_pos (by simp; omega),ob,if_pos rfl,if_neg c]
theorem W.openG {n:Nat} {S0:Nat→List UInt8} {g:TLog} (h:W n S0 g) (hu:g.Used.length<n):W n S0 (openG g):=by
 have hn:=h.rng
 have hl:=h.len
 have ht:=A1p g.NextGen
 have hi:B6 (V.openG g)=B6 g:=by unfold B6 V.openG; simp
 refine ⟨hn,Ki h.ok _ _,rfl,by unfold V.openG; rw [X6]; exact h.sec,h.segs,?_,by simp [V.openG]; omega,by simp only [V.openG,List.length_append,List.length_singleton]; rw [h.gen]; omega,by rw [hi]; exact h.seq,h.stamp,h.valid,by rw [hi]; exact h.its,?_⟩
 ·intro j s hs
  simp only [V.openG] at hs
  by_cases c:j<g.Used.length
  ·rw [List.getElem?_append_left c] at hs
   exact h.used j s hs
  ·rw [List.getElem?_append_right (by omega)] at hs
   have:j - g.Used.length=0:=by
    by_cases e:j - g.Used.length=0
    ·exact e
    ·rw [List.getElem?_eq_none (by simp; omega)] at hs; cases hs
   rw [this] at hs
   simp only [List.getElem?_cons_zero,qS] at hs
   subst hs
   refine ⟨by simp only; omega,by simp only; rw [h.gen]; omega,by simp only; omega,by simp only; omega⟩
 ·intro a ha
  have:=h.sec
  show rsec (poke g.Disk _ _) a=_
  rw [Ua h.ok (by omega) (by omega)]
  exact h.home a ha
theorem W.appG {n:Nat} {S0:Nat→List UInt8} {g:TLog} (h:W n S0 g) {x:TItem} {T:List UInt8} (hx:x.Seq=g.NextSeq) (hr:RecD x.Rec) (hT:(V.hd g).End+(T.length:Int)≤256):W n S0 (appG g x T)∧B6 (V.appG g x T)=B6 g++[x]:=by
 have hn:=h.rng
 have hl:=h.len
 obtain ⟨h1,h2,h3,h4⟩:=h.hd
 have hu:=Vl hl.1
 have hi:B6 (V.appG g x T)=B6 g++[x]:=by
  unfold B6 V.appG
  conv=>rhs; rw [hu]
  simp
 have hlen:(V.appG g x T).Used.length=g.Used.length:=by unfold V.appG; simp; omega
 have hv:=hr.valid
 refine ⟨⟨hn,Ki h.ok _ _,rfl,by unfold V.appG; rw [X6]; exact h.sec,h.segs,?_,by rw [hlen]; exact hl,by rw [hlen]; exact h.gen,?_,h.stamp,?_,?_,?_⟩,hi⟩
 ·intro j s hs
  simp only [V.appG] at hs
  by_cases c:j<g.Used.length - 1
  ·rw [List.getElem?_append_left (by simp; omega)] at hs
   refine h.used j s ?_
   rw [hu,List.getElem?_append_left (by simp; omega)]
   exact hs
  ·rw [List.getElem?_append_right (by simp; omega)] at hs
   have e:j - g.Used.dropLast.length=0:=by
    by_cases e:j - g.Used.dropLast.length=0
    ·exact e
    ·rw [List.getElem?_eq_none (by simp at e ⊢; omega)] at hs; cases hs
   rw [e] at hs
   simp only [List.getElem?_cons_zero,qS] at hs
   subst hs
   simp only [List.length_dropLast] at e
   refine ⟨by simp only; omega,by simp only; omega,by simp only; omega,by simp only; omega⟩
 ·rw [hi]
  show (if x.Seq≥g.NextSeq then x.Seq+1 else g.NextSeq)=_
  rw [if_pos (by omega),hx,h.seq]; simp
 ·have:=h.valid
  show 1≤(if x.Rec.Valid≥g.NextValid then x.Rec.Valid+1 else g.NextValid)∧(if x.Rec.Valid≥g.NextValid then x.Rec.Valid+1 else g.NextValid)≤4
  split <;> omega
 ·intro i y hy
  rw [hi] at hy
  have hge:g.NextValid≤(V.appG g x T).NextValid∧x.Rec.Valid<(V.appG g x T).NextValid:=by
   show g.NextValid≤(if x.Rec.Valid≥g.NextValid then x.Rec.Valid+1 else g.NextValid)∧x.Rec.Valid<(if x.Rec.Valid≥g.NextValid then x.Rec.Valid+1 else g.NextValid)
   split <;> omega
  by_cases c:i<(B6 g).length
  ·rw [List.getElem?_append_left c] at hy
   obtain ⟨a1,a2,a3⟩:=h.its i y hy
   exact ⟨a1,a2,by omega⟩
  ·rw [List.getElem?_append_right (by omega)] at hy
   have e:i - (B6 g).length=0:=by
    by_cases e:i - (B6 g).length=0
    ·exact e
    ·rw [List.getElem?_eq_none (by simp; omega)] at hy; cases hy
   rw [e] at hy
   simp only [List.getElem?_cons_zero,qS] at hy
   subst hy
   refine ⟨by rw [hx,h.seq]; omega,hr,hge.2⟩
 ·intro a ha
  have:=h.sec
  show rsec (poke g.Disk _ _) a=_
  rw [Ua h.ok (by omega) (by omega)]
  exact h.home a ha
theorem Pg (f:TFrame):(E6 f).1.length≤217:=by
 unfold E6
 split
 ·rename_i h
  have:=Hv h
  have e:=X1 (frameT f)
  rw [List.length_append]; omega
 ·simp
theorem A7j {α:Type} {l:List α} {y:α} (h:1≤l.length):l.set (l.length - 1) y=l.dropLast++[y]:=by
 have h0:l≠[]:=by intro e; rw [e] at h; simp at h
 obtain ⟨a,b,rfl⟩:∃ a b,l=a++[b]:=⟨l.dropLast,l.getLast h0,(List.dropLast_concat_getLast h0).symm⟩
 simp
theorem A2d {n:Nat} {S0:Nat→List UInt8} {g:TLog} (h:W n S0 g):∀ y∈B6 g,RecD y.Rec:=by
 intro y hy
 obtain ⟨i,hi⟩:=List.getElem?_of_mem hy
 exact (h.its i y hi).2.1
theorem A2w {g:TLog} (h:1≤g.Used.length):(hd g).Items.length≤(B6 g).length:=by
 unfold B6
 conv=>rhs; rw [Vl h]
 simp
theorem A3e {n:Nat} {S0:Nat→List UInt8} {g:TLog} (h:W n S0 g) (hm:(B6 g).length≤1000) {x:TItem} (hx:0≤x.Seq∧x.Seq≤1000000000) (hv:x.Rec.Valid≤1000000000) (hv0:0≤x.Rec.Valid) {T:List UInt8} (hT:(hd g).End+(T.length:Int)≤256) :
  ((F8 g.Disk (hd g).No (hd g).End T).bind fun v4=>(if !v4.2 then some (false,g) else (G9 v4.1).bind fun v5=>(app? 96 ([]:List TItem) (hd g).Items).bind fun v6=>(app? 96 v6 ([x]:List TItem)).bind fun v7=>(some (hd g)).bind fun _=>(some (set' g.Used (w64 ((g.Used.length:Int) - 1)) ({ No:=(hd g).No,Gen:=(hd g).Gen,End:=(hd g).End+(T.length:Int),Items:=v7 }:TSeg))).bind fun v9=>(if decide (x.Seq≥g.NextSeq) then (if decide (x.Rec.Valid≥g.NextValid) then some (true,({ Disk:=({ Sectors:=v5.Sectors,Cache:=v5.Cache }:TDisk),Segs:=g.Segs,Used:=v9,NextGen:=g.NextGen,NextSeq:=w64 (x.Seq+1),Stamp:=g.Stamp,NextValid:=w64 (x.Rec.Valid+1) }:TLog)) else some (true,({ Disk:=({ Sectors:=v5.Sectors,Cache:=v5.Cache }:TDisk),Segs:=g.Segs,Used:=v9,NextGen:=g.NextGen,NextSeq:=w64 (x.Seq+1),Stamp:=g.Stamp,NextValid:=g.NextValid }:TLog))) else (if decide (x.Rec.Valid≥g.NextValid) then some (true,({ Disk:=({ Sectors:=v5.Sectors,Cache:=v5.Cache }:TDisk),Segs:=g.Segs,Used:=v9,NextGen:=g.NextGen,NextSeq:=g.NextSeq,Stamp:=g.Stamp,NextValid:=w64 (x.Rec.Valid+1) }:TLog)) else some (true,({ Disk:=({ Sectors:=v5.Sectors,Cache:=v5.Cache }:TDisk),Segs:=g.Segs,Used:=v9,NextGen:=g.NextGen,NextSeq:=g.NextSeq,Stamp:=g.Stamp,NextValid:=g.NextValid }:TLog))))):Option (Bool×TLog))=some (true,appG g x T):=by
 have hn:=h.rng
 have hl:=h.len
 obtain ⟨h1,h2,h3,h4⟩:=h.hd
 have hit:=A2w hl.1
 obtain ⟨d1,e1,e2⟩:=A19 h.ok h.cache (T:=T) (no:=g.Used.length - 1) (t:=(hd g).End.toNat) (by omega) (by rw [h.sec]; omega) (by omega)
 rw [show (hd g).No=((g.Used.length - 1:Nat):Int) by omega]
 have e1':F8 g.Disk ((g.Used.length - 1:Nat):Int) (hd g).End T=some (d1,true):=by
  rw [← e1]; congr 1; omega
 rw [e1',ob,if_neg (by simp),e2,ob,app?_ok (by simp; omega) (by simp; omega),ob,app?_ok (by simp; omega) (by simp; omega),ob]
 rw [B4 (n:=(g.Used.length:Int) - 1) (by omega) (by omega),show (g.Used.length:Int) - 1=((g.Used.length - 1:Nat):Int) by omega,ob,ob,Qr,A7j hl.1]
 rw [B4 (n:=x.Seq+1) (by omega) (by omega),B4 (n:=x.Rec.Valid+1) (by omega) (by omega)]
 unfold appG
 rw [show 256*(g.Used.length - 1+1)=256*g.Used.length by omega,show ((g.Used.length - 1:Nat):Int)=(hd g).No by omega]
 by_cases c1:x.Seq≥g.NextSeq
 ·rw [if_pos (by simpa using c1),if_pos c1]
  by_cases c2:x.Rec.Valid≥g.NextValid
  ·rw [if_pos (by simpa using c2),if_pos c2]; rfl
  ·rw [if_neg (by simpa using c2),if_neg c2]; rfl
 ·rw [if_neg (by simpa using c1),if_neg c1]
  by_cases c2:x.Rec.Valid≥g.NextValid
  ·rw [if_pos (by simpa using c2),if_pos c2]; rfl
  ·rw [if_neg (by simpa using c2),if_neg c2]; rfl
theorem A39 {n:Nat} {S0:Nat→List UInt8} {g:TLog} (h:W n S0 g) (hm:(B6 g).length≤1000) {x:TItem} (hx:0≤x.Seq) (hr:RecS x.Rec) (hv:x.Rec.Valid≤1000000000) (hv0:0≤x.Rec.Valid) {keep:Int} (hk:0≤keep):P6 g x keep=some (appS n g x keep):=by
 have hn:=h.rng
 have hl:=h.len
 obtain ⟨h1,h2,h3,h4⟩:=h.hd
 unfold P6 appS
 have ha:∀ g:TLog,1≤g.Used.length→g.Used.length≤11→at? g.Used (w64 ((g.Used.length:Int) - 1))=some (hd g):=by
  intro g a b
  rw [B4 (n:=(g.Used.length:Int) - 1) (by omega) (by omega),show (g.Used.length:Int) - 1=((g.Used.length - 1:Nat):Int) by omega,at?_eq (A89 a)]
 have l1:=Pg (G4 x (hd g).Gen).1
 rw [ha g hl.1 (by omega),ob,Yj hr,ob,Ca,ob]
 dsimp only
 cases c1:(G4 x (hd g).Gen).2
 ·rfl
 ·simp only [Bool.not_true,Bool.false_eq_true,Bool.true_eq_false,if_false]
  cases c2:(E6 (G4 x (hd g).Gen).1).2
  ·rfl
  ·simp only [Bool.not_true,Bool.false_eq_true,Bool.true_eq_false,if_false]
   by_cases c3:x.Seq≥1000000000
   ·rw [if_pos (by simpa using c3),if_pos c3]; rfl
   ·rw [if_neg (by simpa using c3),if_neg c3,ob,if_neg (by simp),B4 (n:=(hd g).End+_) (by omega) (by omega)]
    by_cases c4:(hd g).End+((E6 (G4 x (hd g).Gen).1).1.length:Int)>256
    ·rw [if_pos (by simpa using c4),if_pos c4]
     show (T1 g keep).bind _=_
     rw [A6t h hk,ob]
     unfold openS
     by_cases c5:keep<((n - g.Used.length:Nat):Int)
     ·have hw:=h.openG (by omega)
      obtain ⟨k1,k2,k3,k4⟩:=hw.hd
      rw [if_pos c5]
      dsimp only
      simp only [if_true]
      rw [ha (openG g) hw.len.1 (by have:=hw.len.2; omega),ob,Ca,ob]
      have l2:=Pg { Gen:=(hd (openG g)).Gen,Seq:=(G4 x (hd g).Gen).1.Seq,Body:=(G4 x (hd g).Gen).1.Body }
      have hi:B6 (openG g)=B6 g:=by unfold B6 openG; simp
      unfold frT
      cases c6:(E6 { Gen:=(hd (openG g)).Gen,Seq:=(G4 x (hd g).Gen).1.Seq,Body:=(G4 x (hd g).Gen).1.Body }).2
      ·rfl
      ·simp only [Bool.not_true,Bool.false_eq_true,Bool.true_eq_false,if_false]
       rw [B4 (n:=(hd (openG g)).End+_) (by omega) (by omega)]
       by_cases c7:(hd (openG g)).End+((E6 { Gen:=(hd (openG g)).Gen,Seq:=(G4 x (hd g).Gen).1.Seq,Body:=(G4 x (hd g).Gen).1.Body }).1.length:Int)>256
       ·rw [if_pos (by simpa using c7),if_pos c7]; rfl
       ·rw [if_neg (by simpa using c7),if_neg c7,ob,if_neg (by simp)]
        exact A3e hw (by rw [hi]; exact hm) ⟨hx,by omega⟩ hv hv0 (T:=(E6 { Gen:=(hd (openG g)).Gen,Seq:=(G4 x (hd g).Gen).1.Seq,Body:=(G4 x (hd g).Gen).1.Body }).1) (by omega)
     ·rw [if_neg c5]
      rfl
    ·rw [if_neg (by simpa using c4),if_neg c4]
     exact A3e h hm ⟨hx,by omega⟩ hv hv0 (T:=(E6 (G4 x (hd g).Gen).1).1) (by omega)
theorem Pj (n:Nat) (g:TLog) (x:TItem) (keep:Int):((appS n g x keep).2=g∧(appS n g x keep).1=false)∨((appS n g x keep).2=openG g∧(appS n g x keep).1=false∧keep<((n - g.Used.length:Nat):Int))∨(∃ T,appS n g x keep=(true,appG g x T)∧T=(E6 (G4 x (hd g).Gen).1).1∧(G4 x (hd g).Gen).2=true∧(E6 (G4 x (hd g).Gen).1).2=true∧(hd g).End+(T.length:Int)≤256) ∨
  (∃ T,appS n g x keep=(true,appG (openG g) x T)∧T=(frT (openG g) (G4 x (hd g).Gen).1).1∧(G4 x (hd g).Gen).2=true∧(frT (openG g) (G4 x (hd g).Gen).1).2=true∧(hd (openG g)).End+(T.length:Int)≤256∧keep<((n - g.Used.length:Nat):Int)):=by
 generalize hr:appS n g x keep=r
 unfold appS openS at hr
 dsimp only at hr
 split at hr
 ·subst hr; exact .inl ⟨rfl,rfl⟩
 ·rename_i a1
  split at hr
  ·subst hr; exact .inl ⟨rfl,rfl⟩
  ·rename_i a2
   split at hr
   ·subst hr; exact .inl ⟨rfl,rfl⟩
   ·split at hr
    ·by_cases c:keep<((n - g.Used.length:Nat):Int)
     ·rw [if_pos c] at hr
      dsimp only at hr
      rw [if_pos rfl] at hr
      split at hr
      ·subst hr; exact .inr (.inl ⟨rfl,rfl,c⟩)
      ·rename_i a5
       split at hr
       ·subst hr; exact .inr (.inl ⟨rfl,rfl,c⟩)
       ·rename_i a6
        subst hr
        exact .inr (.inr (.inr ⟨_,rfl,rfl,by simpa using a1,by simpa using a5,by omega,c⟩))
     ·rw [if_neg c] at hr
      dsimp only at hr
      rw [if_neg (by simp)] at hr
      subst hr; exact .inl ⟨rfl,rfl⟩
    ·rename_i a4
     subst hr
     exact .inr (.inr (.inl ⟨_,rfl,rfl,by simpa using a1,by simpa using a2,by omega⟩))
theorem Mn {s:TSeg}:∀ (l:List TSeg),s∈l→s.Items.length≤(l.map fun x=>x.Items.length).sum
 | [],h=>by cases h
 | x::l,h=>by
  rw [List.map_cons,List.sum_cons]
  rcases List.mem_cons.1 h with e | h
  ·rw [e]; omega
  ·have:=Mn l h; omega
theorem W.appS {n:Nat} {S0:Nat→List UInt8} {g:TLog} (h:W n S0 g) {x:TItem} (hx:x.Seq=g.NextSeq) (hr:RecD x.Rec) {keep:Int} (hk:0≤keep):W n S0 (appS n g x keep).2∧(B6 (V.appS n g x keep).2).length≤(B6 g).length+1:=by
 have hi:B6 (V.openG g)=B6 g:=by unfold B6 V.openG; simp
 rcases Pj n g x keep with ⟨e,_⟩ | ⟨e,_,c⟩ | ⟨T,e,_,_,_,c⟩ | ⟨T,e,_,_,_,c,c'⟩
 ·rw [e]; exact ⟨h,by omega⟩
 ·rw [e]; exact ⟨h.openG (by omega),by rw [hi]; omega⟩
 ·rw [e]
  have:=h.appG hx hr c
  exact ⟨this.1,by rw [this.2]; simp⟩
 ·rw [e]
  have:=(h.openG (by omega)).appG (x:=x) (T:=T) hx hr c
  exact ⟨this.1,by rw [this.2,hi]; simp⟩
theorem W.lgn {n:Nat} {S0:Nat→List UInt8} {g:TLog} (h:W n S0 g) (hm:(B6 g).length≤1000):LgN g:=by
 have hn:=h.rng
 have hl:=h.len
 have hw:=A2d h
 have ht:(B6 g).length=(g.Used.map fun x=>x.Items.length).sum:=by unfold B6; rw [List.length_flatMap]
 refine ⟨by omega,fun s hs=>⟨?_,fun y hy=>⟨(hw y (List.mem_flatMap.2 ⟨s,hs,hy⟩)).sz⟩⟩,by omega⟩
 have:s.Items.length≤(g.Used.map fun x=>x.Items.length).sum:=Mn _ hs
 omega
theorem A6k {n:Nat} {S0:Nat→List UInt8} {g:TLog} (h:W n S0 g) (hm:(B6 g).length<200) {x:TItem} (hx:x.Seq=g.NextSeq):Ad g x=some true:=by
 have a1:=Ho (l:=B6 g) (k:=(B6 g).length) (by omega) (q:=fun _=>false) (step:=Ac x (B6 g)) (bad:=.inl false) (good:=.inr ()) (by
  intro i hi _
  have:=(h.its i _ (qG hi)).1
  have hs:=h.seq
  unfold Ac
  rw [if_pos (dlt hi),at?_nat hi,ob,if_neg (by simp; omega),ob,if_neg (by simp),if_neg (by simp),B9 (by omega)]) (by unfold Ac; simp)
 unfold Ad
 rw [A2j (h.lgn (by omega)),ob,a1]
 simp; omega
theorem A3g {n:Int} (h:0≤n) (h':n<128):(vt n).length=1:=by
 unfold vt
 rw [if_pos h,X4 (by omega)]; rfl
theorem A0o {c:TCheck} (h1:0≤c.Stamp∧c.Stamp<128) (h2:0≤c.NextGen∧c.NextGen<128) (h3:0≤c.NextSeq∧c.NextSeq<128) (h4:0≤c.NextValid∧c.NextValid<128) (h5:c.Refs.length≤11) (h6:∀ r∈c.Refs,(0≤r.No∧r.No<128)∧0≤r.Gen∧r.Gen<128):(ctOut c).length≤64:=by
 have e1:=A3g h1.1 h1.2
 have e2:=A3g h2.1 h2.2
 have e3:=A3g h3.1 h3.2
 have e4:=A3g h4.1 h4.2
 have e5:=A3g (n:=(c.Refs.length:Int)) (by omega) (by omega)
 have key:∀ l:List TRef,(∀ r∈l,(0≤r.No∧r.No<128)∧0≤r.Gen∧r.Gen<128)→(l.flatMap refT).length=2*l.length:=by
  intro l
  induction l with
  | nil=>intro _; rfl
  | cons r l ih =>
   intro hl
   have hr:=hl r List.mem_cons_self
   have f1:=A3g hr.1.1 hr.1.2
   have f2:=A3g hr.2.1 hr.2.2
   rw [List.flatMap_cons,List.length_append,ih fun r hr=>hl r (List.mem_cons_of_mem _ hr)]
   unfold refT
   simp [f1,f2]; omega
 have hk:=key c.Refs h6
 unfold ctOut short ctBody ctHead
 have hs:=X1
 simp only [List.length_append,hs,e1,e2,e3,e4,e5,hk]
 have e6:=A3g (n:=((1+1+1+1+1+2*c.Refs.length+4:Nat):Int)) (by omega) (by omega)
 rw [e6]; omega
theorem Ji {c:TCheck} (h:checkOk c=true) (hl:(ctOut c).length≤128):checkText c=(ctOut c,true):=by
 unfold checkText
 rw [if_pos h,if_neg (by omega)]
theorem W.check {n:Nat} {S0:Nat→List UInt8} {g:TLog} (h:W n S0 g) (hm:(B6 g).length≤100):checkOk (checkOf g)=true∧(ctOut (checkOf g)).length≤64:=by
 have hn:=h.rng
 have hl:=h.len
 have hlen:(checkOf g).Refs.length=g.Used.length:=by unfold checkOf; simp
 have hget:∀ j:Nat,∀ r,(checkOf g).Refs[j]?=some r→r.No=(j:Int)∧r.Gen=(j:Int)+1:=by
  intro j r hr
  unfold checkOf at hr
  simp only [List.getElem?_map,Option.map_eq_some_iff] at hr
  obtain ⟨s,hs,rfl⟩:=hr
  have:=h.used j s hs
  exact ⟨this.1,this.2.1⟩
 have hstamp:(checkOf g).Stamp=2:=by unfold checkOf; simp only; rw [h.stamp]; rfl
 have hgen:(checkOf g).NextGen=(g.Used.length:Int)+1:=h.gen
 have hseq:(checkOf g).NextSeq=((B6 g).length:Int)+1:=h.seq
 have hval:1≤(checkOf g).NextValid∧(checkOf g).NextValid≤4:=h.valid
 constructor
 ·have hall:∀ i,i<g.Used.length→okS (checkOf g).Refs (checkOf g).NextGen i=true:=by
   intro i hi
   have he:(checkOf g).Refs[i]?=some ((checkOf g).Refs[i]'(by omega)):=qG _
   have hr:=hget i _ he
   generalize (checkOf g).Refs[i]'(by omega)=r at he hr
   unfold okS
   rw [he]
   dsimp only
   rw [hgen,B4 (by omega) (by omega)]
   have a1:inR r.No 0 10=true:=M8.2 (by omega)
   have a2:inR r.Gen 1 ((g.Used.length:Int)+1 - 1)=true:=M8.2 (by omega)
   rw [a1,a2]
   have a3:(i==0||decide (lastG (checkOf g).Refs i<r.Gen))=true:=by
    cases i with
    | zero=>rfl
    | succ k =>
     rw [Hk (by omega)]
     have:=hget k _ (qG (by omega))
     simp; omega
   have a4:anyNo ((checkOf g).Refs.take i) r.No=false:=by
    unfold anyNo
    rw [List.any_eq_false]
    intro q hq
    obtain ⟨k,hk⟩:=List.getElem?_of_mem hq
    have hki:k<i:=by
     have:=(qI hk).1
     simp at this; omega
    rw [List.getElem?_take_of_lt hki] at hk
    have:=hget k _ hk
    simp; omega
   rw [a3,a4]; rfl
  have hall':=List.all_eq_true.2 fun i hi=>hall i (List.mem_range.1 hi)
  have a1:inR (checkOf g).Stamp 1 1000000000=true:=M8.2 (by omega)
  have a2:inR (checkOf g).NextGen 1 1000000000=true:=M8.2 (by omega)
  have a3:inR (checkOf g).NextSeq 1 1000000000=true:=M8.2 (by omega)
  have a4:inR (checkOf g).NextValid 1 1000000000=true:=M8.2 (by omega)
  have a5:inR (g.Used.length:Int) 1 11=true:=M8.2 (by omega)
  unfold checkOk stamps
  rw [hlen,hall',a1,a2,a3,a4,a5]; rfl
 ·refine A0o (by omega) (by omega) (by omega) (by omega) (by omega) ?_
  intro r hr
  obtain ⟨j,hj⟩:=List.getElem?_of_mem hr
  have:=hget j r hj
  have:=(qI hj).1
  omega
theorem Vy {d:TDisk} (h:D7 d=true) (hc:d.Cache=[]) {s:Nat} {T:List UInt8} (hT:T.length≤1000) (hs:s<d.Sectors.length) (hn:32*s+T.length≤32*d.Sectors.length):(writeB d s T).2=true∧flush (writeB d s T).1=poke d (32*s) T∧∃ j,Wst d (32*s) T j T.length (writeB d s T).1:=by
 have h100:=(L9.1 h).1.2
 obtain ⟨d1,j,e,hw⟩:=Xp h hc (T:=T) (s:=s) (t:=0) hT hs (by omega) (by omega)
 have e':J9 d (s:Int) 0 T=some (d1,true):=e
 rw [Lr h (by omega) (by omega)] at e'
 have:=Option.some.inj e'
 rw [this]
 exact ⟨rfl,hw.flush h,j,hw⟩
theorem Wm {d:TDisk} (h:D7 d=true) (hc:d.Cache=[]) (hd:8≤d.Sectors.length) {c:TCheck} (hk:checkOk c=true) (hl:(ctOut c).length≤128):writeC d c=(poke d (128*(c.Stamp.toNat%2)) (ctOut c),true):=by
 obtain ⟨h1,h2,_⟩:=Vy h hc (s:=4*(c.Stamp.toNat%2)) (T:=ctOut c) (by omega) (by omega) (by omega)
 unfold writeC
 rw [Ji hk hl]
 dsimp only
 rw [if_pos ⟨rfl,h⟩,if_pos h1,h2]
 congr 2; omega
theorem Kk {k:Nat} (h:5≤k∧k≤11):(open0 k).2=true∧(log1 k).Disk=poke (newDisk (8+k*8)) 256 headT:=by
 have hl:=Qy
 have:=Vy (A1a h) rfl (s:=8) (T:=headT) (by omega) (by simp [newDisk]; omega) (by simp [newDisk]; omega)
 exact ⟨this.1,this.2.1⟩
def first8 (k:Nat) (a:Nat):List UInt8:=rsec (fixd k).1 a
theorem He (k:Nat):checkOk (checkOf (log1 k))=true∧(ctOut (checkOf (log1 k))).length≤64:=by
 have e:checkOf (log1 k)={ Stamp:=1,NextGen:=2,NextSeq:=1,NextValid:=1,Refs:=[{ No:=0,Gen:=1 }] }:=rfl
 rw [e]
 refine ⟨by decide,A0o (by decide) (by decide) (by decide) (by decide) (by decide) ?_⟩
 intro r hr
 rw [List.mem_singleton] at hr
 subst hr; decide
theorem Vt {k:Nat} (h:5≤k∧k≤11):fixd k=(poke (log1 k).Disk 128 (ctOut (checkOf (log1 k))),true):=by
 have hd:=(Kk h).2
 have hc:=He k
 unfold fixd
 rw [Wm (A2o h) (by rw [hd]; rfl) (by rw [hd,X6]; simp [newDisk]) hc.1 (by omega)]
 rfl
theorem Aa5 {k:Nat} (h:5≤k∧k≤11):∃ g,fmt (k:Int)=(g,true)∧W k (first8 k) g∧B6 g=[]:=by
 have ho:=Kk h
 have hf:=Vt h
 refine ⟨{ log1 k with Disk:=(fixd k).1,Stamp:=1 },?_,?_,rfl⟩
 ·unfold fmt fmtK
  rw [if_pos (by unfold inR; simp; omega),Int.toNat_natCast,if_pos (by rw [ho.1,hf]; rfl)]
 ·have hlen:(fixd k).1.Sectors.length=8+8*k:=by rw [hf]; simp only; rw [X6,ho.2,X6]; simp [newDisk,Nat.mul_comm]
  refine ⟨h,?_,?_,hlen,rfl,?_,by simp [log1]; omega,rfl,rfl,rfl,⟨by simp [log1],by simp [log1]⟩,?_,fun a _=>rfl⟩
  ·simp only; rw [hf]; exact Ki (A2o h) _ _
  ·simp only; rw [hf]; rfl
  ·intro j s hs
   simp only [log1] at hs
   cases j with
   | zero =>
    simp only [List.getElem?_cons_zero,qS] at hs
    subst hs
    have:=Qy
    refine ⟨rfl,rfl,by simp only; omega,by simp only; omega⟩
   | succ j=>simp at hs
  ·intro i x hx
   have:B6 { log1 k with Disk:=(fixd k).1,Stamp:=1 }=[]:=rfl
   rw [this] at hx
   simp at hx
theorem RecD.rs {r:TRec} (h:RecD r):RecS r:=⟨by have:=h.user; omega,by have:=h.name; omega,by have:=h.text; omega⟩
theorem A9c {Q:Nat→TLog→Prop} (q0:∀ (k:Nat) (g:TLog),5≤k∧k≤8→fmt (k:Int)=(g,true)→W k (first8 k) g→Q k g) (qs:∀ (k:Nat) (g:TLog) (x:TItem),W k (first8 k) g→(B6 g).length≤33→Q k g→x.Seq=g.NextSeq→RecD x.Rec→Q k (appS k g x 1).2)
  {b:List Int} {i0 h0:Int} (hi0:IOk b i0):Dr b (Ba ⟨b,i0,h0⟩) fun g=>∃ n,(5≤n∧n≤8)∧W n (first8 n) g∧(B6 g).length≤33∧Q n g:=by
 unfold Ba
 refine Dr.bind (Cc hi0 (by omega) (by omega)) fun x i h hx hi=>?_
 obtain ⟨k,hk⟩:∃ k:Nat,w64 (5+x)=(k:Int):=⟨(5+x).toNat,by rw [B4 (by omega) (by omega)]; omega⟩
 have hk':5≤k∧k≤8:=by rw [B4 (by omega) (by omega)] at hk; omega
 obtain ⟨g0,e0,hw0,hit0⟩:=Aa5 (k:=k) (by omega)
 simp only
 rw [hk,A83,e0,ob]
 have key:∃ r,iter (X5 ⟨b,i0,h0⟩) (0,i,h,g0.Segs,g0.NextGen,g0.NextSeq,g0.Stamp,g0.NextValid,g0.Disk.Sectors,g0.Disk.Cache,g0.Used)=some r∧(IOk b r.1∧W k (first8 k) { Disk:={ Sectors:=r.2.2.2.2.2.2.2.1,Cache:=r.2.2.2.2.2.2.2.2.1 },Segs:=r.2.2.1,Used:=r.2.2.2.2.2.2.2.2.2,NextGen:=r.2.2.2.1,NextSeq:=r.2.2.2.2.1,Stamp:=r.2.2.2.2.2.1,NextValid:=r.2.2.2.2.2.2.1 }∧(B6 { Disk:={ Sectors:=r.2.2.2.2.2.2.2.1,Cache:=r.2.2.2.2.2.2.2.2.1 },Segs:=r.2.2.1,Used:=r.2.2.2.2.2.2.2.2.2,NextGen:=r.2.2.2.1,NextSeq:=r.2.2.2.2.1,Stamp:=r.2.2.2.2.2.1,NextValid:=r.2.2.2.2.2.2.1 }).length≤33∧Q k { Disk:={ Sectors:=r.2.2.2.2.2.2.2.1,Cache:=r.2.2.2.2.2.2.2.2.1 },Segs:=r.2.2.1,Used:=r.2.2.2.2.2.2.2.2.2,NextGen:=r.2.2.2.1,NextSeq:=r.2.2.2.2.1,Stamp:=r.2.2.2.2.2.1,NextValid:=r.2.2.2.2.2.2.1 }):=by
  refine Fu (fun s:Int×Int×Int×Int×Int×Int×Int×Int×(List (List UInt8))×(List TWrite)×(List TSeg)=>(0≤s.1∧s.1≤33)∧IOk b s.2.1∧∃ g:TLog,s.2.2.2=(g.Segs,g.NextGen,g.NextSeq,g.Stamp,g.NextValid,g.Disk.Sectors,g.Disk.Cache,g.Used)∧W k (first8 k) g∧((B6 g).length:Int)≤s.1∧Q k g) (fun s=>(34 - s.1).toNat) _ ?_ _ ⟨⟨by simp,by simp⟩,hi,g0,rfl,hw0,by rw [hit0]; simp,q0 k g0 hk' e0 hw0⟩
  rintro ⟨c,i,h',s⟩ ⟨⟨q0',q1⟩,hi,g,hs,hw,hc,hq⟩
  simp only at q0' q1 hi hs hc
  subst hs
  unfold X5
  obtain ⟨n,i1,h1',e,hn,hi1⟩:=Cc (h:=h') hi (n:=34) (by omega) (by omega)
  simp only
  rw [e,ob]
  by_cases hk:c<n
  ·left
   rw [if_pos (by simpa using hk)]
   obtain ⟨r,i2,h2',e2,hr,hi2⟩:=A9u (h:=h1') hi1
   simp only
   rw [e2,ob]
   show ∃ s',(Ad g { Seq:=g.NextSeq,Rec:=r }).bind _=_∧_
   rw [A6k hw (by omega) rfl,ob,if_pos rfl]
   have hok:=(Wa hr.ok).1
   have hseq:=hw.seq
   show ∃ s',(P6 g { Seq:=g.NextSeq,Rec:=r } 1).bind _=_∧_
   rw [A39 hw (by omega) (by simp only; omega) (RecD.rs hr) (by simp only; have:=hr.valid; omega) (by simp only; omega) (by omega),ob]
   have hA:=hw.appS (x:={ Seq:=g.NextSeq,Rec:=r }) rfl hr (keep:=1) (by omega)
   refine ⟨_,rfl,⟨⟨?_,?_⟩,hi2,(appS k g { Seq:=g.NextSeq,Rec:=r } 1).2,rfl,hA.1,?_,qs k g _ hw (by omega) hq rfl hr⟩,?_⟩
   ·simp only; rw [B4 (by omega) (by omega)]; omega
   ·simp only; rw [B4 (by omega) (by omega)]; omega
   ·simp only; rw [B4 (by omega) (by omega)]; have:=hA.2; omega
   ·simp only; rw [B4 (by omega) (by omega)]; omega
  ·right
   rw [if_neg (by simpa using hk)]
   exact ⟨_,rfl,hi1,hw,by show (B6 g).length≤33; omega,hq⟩
 obtain ⟨r,e,hi1,hw,hl,hq⟩:=key
 have e':iter (X5 ⟨b,i0,h0⟩) (0,i,h,g0.Segs,g0.NextGen,g0.NextSeq,g0.Stamp,g0.NextValid,g0.Disk.Sectors,g0.Disk.Cache,g0.Used)=some r:=e
 have fin:Dr b (some (({ Disk:={ Sectors:=r.2.2.2.2.2.2.2.1,Cache:=r.2.2.2.2.2.2.2.2.1 },Segs:=r.2.2.1,Used:=r.2.2.2.2.2.2.2.2.2,NextGen:=r.2.2.2.1,NextSeq:=r.2.2.2.2.1,Stamp:=r.2.2.2.2.2.1,NextValid:=r.2.2.2.2.2.2.1 }:TLog),({ mB:=b,mI:=r.1,mH:=r.2.1 }:TL01Cur))) (fun g=>∃ n,(5≤n∧n≤8)∧W n (first8 n) g∧(B6 g).length≤33∧Q n g):=Dr.ret hi1 ⟨k,hk',hw,hl,hq⟩
 refine (show Dr b (Option.bind _ _) _ from ?_)
 rw [e',ob]
 exact fin
def check0:TCheck:={ Stamp:=0,NextGen:=0,NextSeq:=0,NextValid:=0,Refs:=[] }
def goodC (t:List UInt8) (c:TCheck):Prop:=checkText c=(ctOut c,true)∧∃ r,t=ctOut c++r
theorem Xb {t:List UInt8} {c:TCheck} (h:goodC t c):checkOk c=true:=by
 have:=h.1
 unfold checkText at this
 split at this
 ·assumption
 ·exact absurd (congrArg Prod.snd this) (by simp)
theorem Uq {t:List UInt8} {c:TCheck} {e:Nat} (h2:(checkText c).2=true) (h:(checkText c).1=t.take e):goodC t c:=by
 have hk:checkText c=(ctOut c,true):=by
  unfold checkText at h2 ⊢
  split
  ·rw [if_pos (by assumption)] at h2
   split
   ·rw [if_pos (by assumption)] at h2; cases h2
   ·rfl
  ·rw [if_neg (by assumption)] at h2; cases h2
 refine ⟨hk,t.drop e,?_⟩
 rw [hk] at h
 rw [show ctOut c=t.take e from h,List.take_append_drop]
theorem A17 {t:List UInt8} {c:TCheck} (h:goodC t c):rs t=some (ctBody c++sealL (ctBody c),(ctOut c).length)∧us (ctBody c++sealL (ctBody c))=some (ctBody c):=by
 obtain ⟨r,hr⟩:=h.2
 have hl:=Hd (Xb h)
 refine ⟨?_,A69 (by omega)⟩
 rw [hr]
 exact A81 (by rw [List.length_append,X1]; omega)
theorem A61 {t:List UInt8} {F G:Option (TCheck×Bool)} (f1:∃ r,F=some r∧(r.2=true→goodC t r.1)∧(r.2=false→r.1=check0)) (f2:∀ c,goodC t c→F=some (c,true))
  (g1:∃ r,G=some r∧(r.2=true→goodC t r.1)∧(r.2=false→r.1=check0)) (g2:∀ c,goodC t c→G=some (c,true)):F=G:=by
 obtain ⟨⟨rc,rb⟩,h1,h2,h3⟩:=f1
 obtain ⟨⟨sc,sb⟩,k1,k2,k3⟩:=g1
 cases rb with
 | true=>rw [h1,g2 rc (h2 rfl)]
 | false =>
  cases sb with
  | true=>rw [f2 sc (k2 rfl),k1]
  | false=>rw [h1,k1]; simp only at h3 k3; rw [h3 trivial,k3 trivial]
theorem A9l {A B:List UInt8} {z:Int} (h:0≤z∧z≤1000000000):rvR (rv (A++(vt z++B)) A.length)=(z,((A++vt z).length:Int),true):=by
 obtain ⟨n,rfl⟩:∃ n:Nat,z=n:=⟨z.toNat,by omega⟩
 rw [A1d (n:=n) (r:=B) (by rw [List.drop_left]) (by omega)]
 simp [rvR]
theorem A5w {v:List UInt8×Bool} (hv:v.1.length≤8388608):∃ o:(TCheck×Bool) ⊕ List Int,iter (L0 v) (0,[])=some o∧(o=.inl (check0,false)∨∃ l,o=.inr l∧l.length≤v.1.length):=by
 refine Fu (fun s=>∃ a:Nat,s.1=(a:Int)∧a≤v.1.length∧s.2.length≤a) (fun s=>v.1.length - s.1.toNat) _ ?_ (0,[]) ⟨0,rfl,by omega,by simp⟩
 rintro ⟨_,l⟩ ⟨a,rfl,ha,hl⟩
 simp only at hl
 unfold L0
 by_cases h:a<v.1.length
 ·rw [if_pos (by simpa using h),Ea (t:=v.1) (by omega) a,ob]
  cases hr:rv v.1 a with
  | none=>exact .inr ⟨.inl (check0,false),rfl,.inl rfl⟩
  | some x =>
   obtain ⟨h1,h2,h3⟩:=Kj hr
   refine .inl ⟨((x.2:Int),l++[(x.1:Int)]),?_,⟨x.2,rfl,h2,by simp <;> omega⟩,by simp only [Int.toNat_natCast]; omega⟩
   rw [show rvR (some x)=((x.1:Int),(x.2:Int),true) from rfl,if_neg (by simp),app?_ok (by simp <;> omega) (by simp <;> omega)]
   rfl
 ·refine .inr ⟨.inr l,?_,.inr ⟨l,rfl,by omega⟩⟩
  rw [if_neg (by simpa using h)]
theorem A4b {l:List Int} (hl:l.length≤8388608):∃ o,iter (L3 l) (5,[])=some o∧o.length≤l.length:=by
 refine Fu (fun s=>∃ j:Nat,s.1=((5+2*j:Nat):Int)∧s.2.length=j∧j≤l.length) (fun s=>l.length+10 - s.1.toNat) _ ?_ (5,[]) ⟨0,rfl,by simp,by omega⟩
 rintro ⟨_,m⟩ ⟨j,rfl,hm,hj⟩
 simp only at hm
 unfold L3
 have ew:w64 (((5+2*j:Nat):Int)+1)=((5+2*j+1:Nat):Int):=B9 (by omega)
 have ew2:w64 (((5+2*j:Nat):Int)+2)=((5+2*(j+1):Nat):Int):=by rw [B4 (by omega) (by omega)]; omega
 simp only [ew,ew2]
 by_cases h:5+2*j+1<l.length
 ·refine .inl ⟨(((5+2*(j+1):Nat):Int),m++[{ No:=l[5+2*j],Gen:=l[5+2*j+1] }]),?_,⟨j+1,rfl,by simp [hm],by omega⟩,by simp only [Int.toNat_natCast]; omega⟩
  simp only [dlt h,if_true,at?_nat h,at?_nat (show 5+2*j<l.length by omega),ob]
  rw [app?_ok (by simp <;> omega) (by simp <;> omega)]
  rfl
 ·refine .inr ⟨m,?_,by omega⟩
  rw [if_neg (by simp only [decide_eq_true_eq]; omega)]
theorem A4m {t:List UInt8} (ht:t.length≤8388608):∃ r,M5 t=some r∧(r.2=true→goodC t r.1)∧(r.2=false→r.1=check0):=by
 have fail:∃ r,some (check0,false)=some r∧(r.2=true→goodC t r.1)∧(r.2=false→r.1=check0):=⟨_,rfl,by simp,by simp⟩
 unfold M5
 rw [A5a ht,ob]
 cases h1:rs t with
 | none =>
  rw [show rsR none=([],0,false) from rfl,A28 (by simp),ob,if_pos (by simp)]
  exact fail
 | some x =>
  obtain ⟨b1,b2⟩:=A2b h1
  rw [show rsR (some x)=(x.1,(x.2:Int),true) from rfl]
  dsimp only
  rw [A28 (by omega),ob,if_neg (by simp)]
  cases h2:us x.1 with
  | none=>rw [show usR none=([],false) from rfl,if_pos (by simp)]; exact fail
  | some s =>
   have b3:=A88 h2
   rw [show usR (some s)=(s,true) from rfl,if_neg (by simp)]
   obtain ⟨o,h3,h4⟩:=A5w (v:=(s,true)) (by dsimp only; omega)
   rw [h3,ob]
   rcases h4 with rfl | ⟨l,rfl,hl⟩
   ·exact fail
   ·dsimp only at hl
    rw [Sum.elim_inr]
    by_cases h5:l.length<5
    ·rw [if_pos (by simp <;> omega)]; exact fail
    ·rw [if_neg (by simp <;> omega)]
     have a0:=at?_nat (l:=l) (i:=0) (by omega)
     have a1:=at?_nat (l:=l) (i:=1) (by omega)
     have a2:=at?_nat (l:=l) (i:=2) (by omega)
     have a3:=at?_nat (l:=l) (i:=3) (by omega)
     rw [show ((0:Nat):Int)=0 from rfl] at a0
     rw [show ((1:Nat):Int)=1 from rfl] at a1
     rw [show ((2:Nat):Int)=2 from rfl] at a2
     rw [show ((3:Nat):Int)=3 from rfl] at a3
     obtain ⟨o,h6,h7⟩:=A4b (l:=l) (by omega)
     rw [a0,ob,a1,ob,a2,ob,a3,ob,h6,ob,Ha (by simp only []; omega),ob]
     generalize hc:({ Stamp:=l[0],NextGen:=l[1],NextSeq:=l[2],NextValid:=l[3],Refs:=o }:TCheck)=c
     cases h8:(checkText c).2 with
     | false=>simp only [Bool.not_false,if_true,ob]; exact fail
     | true =>
      simp only [Bool.not_true,Bool.false_eq_true,if_false]
      rw [sub?_take b1,ob]
      by_cases h9:(checkText c).1=t.take x.2
      ·rw [if_neg (by simpa using h9),ob,if_neg (by simp)]
       exact ⟨_,rfl,fun _=>by simp only; exact Uq h8 h9,by simp⟩
      ·rw [if_pos (by simpa using h9),ob,if_pos rfl]
       exact fail
def nums (c:TCheck):List Int:=[c.Stamp,c.NextGen,c.NextSeq,c.NextValid,(c.Refs.length:Int)]++c.Refs.flatMap fun r=>[r.No,r.Gen]
theorem A1g (c:TCheck):ctBody c=(nums c).flatMap vt:=by
 unfold ctBody ctHead nums
 simp only [List.flatMap_append,List.flatMap_cons,List.flatMap_nil,List.append_nil,List.append_assoc]
 congr 5
 rw [List.flatMap_assoc]
 congr 1
 funext r
 simp [refT]
theorem A8l {c:TCheck} (h:checkOk c=true):∀ z∈nums c,0≤z∧z≤1000000000:=by
 obtain ⟨⟨h1,h2,h3,h4⟩,h5,h6⟩:=Y3 h
 intro z hz
 unfold nums at hz
 simp only [List.mem_append,List.mem_cons,List.not_mem_nil,or_false,List.mem_flatMap] at hz
 rcases hz with (rfl | rfl | rfl | rfl | rfl) | ⟨r,hr,rfl | rfl⟩
 any_goals omega
 ·have:=h6 r hr; omega
 ·have:=h6 r hr; omega
theorem A6a (l:List TRef):(l.flatMap fun r=>[r.No,r.Gen]).length=2*l.length:=by
 induction l with
 | nil=>rfl
 | cons x l ih=>simp only [List.flatMap_cons,List.length_append,ih,List.length_cons,List.length_nil]; omega
theorem A7f (c:TCheck):(nums c).length=5+2*c.Refs.length:=by
 unfold nums
 rw [List.length_append,A6a]; rfl
theorem A1h:∀ (l:List TRef) (j:Nat) (h:j<l.length),(l.flatMap fun r=>[r.No,r.Gen])[2*j]?=some l[j].No∧(l.flatMap fun r=>[r.No,r.Gen])[2*j+1]?=some l[j].Gen
 | [],j,h=>by simp at h
 | x::l,0,_=>by simp
 | x::l,j+1,h=>by
  have:=A1h l j (by simpa using h)
  rw [show 2*(j+1)=2*j+1+1 by omega,show 2*j+1+1+1=(2*j+1)+1+1 by omega]
  simpa using this
theorem A52 {t:List UInt8} (ht:t.length≤8388608) {c:TCheck} (h:goodC t c):M5 t=some (c,true):=by
 have hk:=Xb h
 obtain ⟨h1,h2⟩:=A17 h
 have hb:=Hd hk
 have hrg:=A8l hk
 obtain ⟨_,h5,_⟩:=Y3 hk
 obtain ⟨b1,b2⟩:=A2b h1
 have hnl:=A7f c
 have l1:iter (L0 (ctBody c,true)) (0,[])=some (.inr (nums c)):=by
  have:=H8 (step:=L0 (ctBody c,true)) (fun j=>((((nums c).take j).flatMap vt).length,(nums c).take j)) (nums c).length (r:=.inr (nums c)) ?_ ?_
  ·simpa using this
  ·intro j hj
   have hz:=hrg _ (List.getElem_mem hj)
   have hsp:ctBody c=((nums c).take j).flatMap vt++(vt (nums c)[j]++((nums c).drop (j+1)).flatMap vt):=by
    rw [A1g]
    conv=>lhs; rw [← List.take_append_drop j (nums c),List.drop_eq_getElem_cons hj,List.flatMap_append,List.flatMap_cons]
   have hlt:(((nums c).take j).flatMap vt).length<(ctBody c).length:=by
    have hv:0<(vt (nums c)[j]).length:=by
     obtain ⟨n,hn⟩:∃ n:Nat,(nums c)[j]=n:=⟨_,(Int.toNat_of_nonneg hz.1).symm⟩
     rw [hn,A1m,List.length_map]
     unfold vtl
     split <;> simp
    rw [hsp]
    simp only [List.length_append]
    omega
   have hrv:rvR (rv (ctBody c) (((nums c).take j).flatMap vt).length)=((nums c)[j],((((nums c).take j).flatMap vt++vt (nums c)[j]).length:Int),true):=by
    conv=>lhs; rw [hsp]
    exact A9l hz
   have hnx:((nums c).take (j+1)).flatMap vt=((nums c).take j).flatMap vt++vt (nums c)[j]:=by
    rw [List.take_succ_eq_append_getElem hj,List.flatMap_append,List.flatMap_cons,List.flatMap_nil,List.append_nil]
   have htl:((nums c).take j).length≤30:=by rw [List.length_take]; omega
   rw [hnx,List.take_succ_eq_append_getElem hj]
   generalize hq:((nums c).take j).flatMap vt=q at hlt hrv
   generalize hm:(nums c).take j=m at htl
   generalize (nums c)[j]=z at hrv
   unfold L0
   dsimp only
   rw [if_pos (by simpa using hlt),Ea (t:=ctBody c) (by omega),ob,hrv,if_neg (by simp),app?_ok (by rw [List.length_singleton]; omega) (by rw [List.length_singleton]; omega)]
   rfl
  ·unfold L0
   simp [A1g]
 have l2:iter (L3 (nums c)) (5,[])=some c.Refs:=by
  have:=H8 (step:=L3 (nums c)) (fun j=>(((5+2*j:Nat):Int),c.Refs.take j)) c.Refs.length (r:=c.Refs) ?_ ?_
  ·simpa using this
  ·intro j hj
   unfold L3
   have ew:w64 (((5+2*j:Nat):Int)+1)=((5+2*j+1:Nat):Int):=B9 (by omega)
   have ew2:w64 (((5+2*j:Nat):Int)+2)=((5+2*(j+1):Nat):Int):=by rw [B4 (by omega) (by omega)]; omega
   obtain ⟨g1,g2⟩:=A1h c.Refs j hj
   have q1:at? (nums c) ((5+2*j:Nat):Int)=some c.Refs[j].No:=at?_eq (by
    unfold nums; rw [List.getElem?_append_right (by simp)]; simpa using g1)
   have q2:at? (nums c) ((5+2*j+1:Nat):Int)=some c.Refs[j].Gen:=at?_eq (by
    unfold nums; rw [List.getElem?_append_right (by simp <;> omega)]
    rw [show 5+2*j+1 - [c.Stamp,c.NextGen,c.NextSeq,c.NextValid,(c.Refs.length:Int)].length=2*j+1 by simp <;> omega]
    exact g2)
   have htl:(c.Refs.take j).length≤30:=by rw [List.length_take]; omega
   rw [List.take_succ_eq_append_getElem hj]
   generalize hm:c.Refs.take j=m at htl
   dsimp only
   rw [ew,if_pos (by simp only [decide_eq_true_eq]; omega),q1,ob,q2,ob,app?_ok (by rw [List.length_singleton]; omega) (by rw [List.length_singleton]; omega),ob,ew2]
  ·unfold L3
   have ew:w64 (((5+2*c.Refs.length:Nat):Int)+1)=((5+2*c.Refs.length+1:Nat):Int):=B9 (by omega)
   rw [ew,if_neg (by simp only [decide_eq_true_eq]; omega)]
   simp
 obtain ⟨r,hr⟩:=h.2
 have htk:t.take (ctOut c).length=ctOut c:=by rw [hr,List.take_left]
 unfold M5
 rw [A5a ht,ob,h1]
 rw [show rsR (some (ctBody c++sealL (ctBody c),(ctOut c).length))=(ctBody c++sealL (ctBody c),((ctOut c).length:Int),true) from rfl]
 dsimp only
 rw [A28 (by dsimp only at b2; omega),ob,if_neg (by simp),h2,show usR (some (ctBody c))=(ctBody c,true) from rfl,if_neg (by simp),l1,ob,Sum.elim_inr]
 rw [if_neg (by simp only [decide_eq_true_eq]; omega),show at? (nums c) 0=some c.Stamp from at?_eq (i:=0) (by simp [nums]),ob,show at? (nums c) 1=some c.NextGen from at?_eq (i:=1) (by simp [nums]),ob,show at? (nums c) 2=some c.NextSeq from at?_eq (i:=2) (by simp [nums]),ob,show at? (nums c) 3=some c.NextValid from at?_eq (i:=3) (by simp [nums]),ob,l2,ob]
 rw [show ({ Stamp:=c.Stamp,NextGen:=c.NextGen,NextSeq:=c.NextSeq,NextValid:=c.NextValid,Refs:=c.Refs }:TCheck)=c from rfl,Ha (by dsimp only; omega),ob,h.1]
 simp only [Bool.not_true,Bool.false_eq_true,if_false]
 rw [sub?_take b1,ob,htk,if_neg (by simp),ob]
 rfl
theorem A32 {s:List UInt8} (hs:s.length≤8388608) (a:Nat) (bad:Bool):D6 { mText:=s,mAt:=(a:Int),mBad:=bad }=some (if bad then (0,{ mText:=s,mAt:=(a:Int),mBad:=true }) else match rv s a with | some x=>((x.1:Int),{ mText:=s,mAt:=(x.2:Int),mBad:=false }) | none=>(0,{ mText:=s,mAt:=(a:Int),mBad:=true })):=by
 unfold D6
 dsimp only
 rw [Ma (t:=s) (by omega) a,ob]
 cases bad with
 | true=>rfl
 | false =>
  cases rv s a with
  | none=>rfl
  | some x=>rfl
theorem Ao {s:List UInt8} (hs:s.length≤8388608) (a:Nat) (bad:Bool):∃ (n:Int) (b:Nat) (bad':Bool),D6 { mText:=s,mAt:=(a:Int),mBad:=bad }=some (n,{ mText:=s,mAt:=(b:Int),mBad:=bad' }):=by
 rw [A32 hs]
 cases bad with
 | true=>exact ⟨0,a,true,rfl⟩
 | false =>
  cases rv s a with
  | none=>exact ⟨0,a,true,rfl⟩
  | some x=>exact ⟨x.1,x.2,false,rfl⟩
theorem A16 {A B:List UInt8} {z:Int} (hs:(A++(vt z++B)).length≤8388608) (h:0≤z∧z≤1000000000):D6 { mText:=A++(vt z++B),mAt:=(A.length:Int),mBad:=false }=some (z,{ mText:=A++(vt z++B),mAt:=((A++vt z).length:Int),mBad:=false }):=by
 obtain ⟨n,rfl⟩:∃ n:Nat,z=n:=⟨z.toNat,by omega⟩
 rw [A32 hs,A1d (n:=n) (r:=B) (by rw [List.drop_left]) (by omega)]
 simp
theorem A4n {s:List UInt8} (hs:s.length≤8388608) (v:Int×TL06Cur) (a:Nat) (bad:Bool):∃ (b:Nat) (bad':Bool) (l:List TRef),iter (L1 v) (0,s,(a:Int),bad,[])=some (s,(b:Int),bad',l)∧l.length≤20:=by
 have:=Fu (step:=L1 v) (fun st=>∃ (j b:Nat) (bad':Bool) (l:List TRef),st=((j:Int),s,(b:Int),bad',l)∧l.length=j∧j≤20) (fun st=>20 - st.1.toNat) (fun r=>∃ (b:Nat) (bad':Bool) (l:List TRef),r=(s,(b:Int),bad',l)∧l.length≤20) ?_ (0,s,(a:Int),bad,[]) ⟨0,a,bad,[],rfl,rfl,by omega⟩
 ·obtain ⟨r,h1,b,bad',l,h2,h3⟩:=this
  exact ⟨b,bad',l,by rw [h1,h2],h3⟩
 ·rintro _ ⟨j,b,bad',l,rfl,hl,hj⟩
  unfold L1
  dsimp only
  by_cases c:(decide ((j:Int)<v.1)&&(decide ((j:Int)<20)&&!bad'))=true
  ·simp only [Bool.and_eq_true,decide_eq_true_eq,Bool.not_eq_true'] at c
   obtain ⟨c1,c2,c3⟩:=c
   subst c3
   obtain ⟨n1,b1,d1,e1⟩:=Ao hs b false
   obtain ⟨n2,b2,d2,e2⟩:=Ao hs b1 d1
   refine .inl ⟨(((j+1:Nat):Int),s,(b2:Int),d2,l++[{ No:=n1,Gen:=n2 }]),?_,⟨j+1,b2,d2,_,rfl,by simp [hl],by omega⟩,by simp only [Int.toNat_natCast]; omega⟩
   rw [if_pos (by simpa using c1),if_pos (by simpa using c2),ob,if_pos (by simp),e1,ob]
   dsimp only
   rw [e2,ob]
   dsimp only
   rw [app?_ok (by rw [List.length_singleton]; omega) (by rw [List.length_singleton]; omega),ob,B9 (by omega)]
  ·refine .inr ⟨(s,(b:Int),bad',l),?_,b,bad',l,rfl,by omega⟩
   have:(if decide ((j:Int)<v.1)=true then (if decide ((j:Int)<20)=true then some (!bad') else some false) else some false)=some false:=by
    by_cases c1:(j:Int)<v.1 <;> by_cases c2:(j:Int)<20 <;> cases bad' <;> simp_all
   rw [this,ob,if_neg (by simp)]
theorem Zh {t:List UInt8} (ht:t.length≤8388608):∃ r,U5 t=some r∧(r.2=true→goodC t r.1)∧(r.2=false→r.1=check0):=by
 have fail:∃ r,some (check0,false)=some r∧(r.2=true→goodC t r.1)∧(r.2=false→r.1=check0):=⟨_,rfl,by simp,by simp⟩
 unfold U5
 rw [A5d ht,ob]
 cases h1:rs t with
 | none =>
  rw [show rsR none=([],0,false) from rfl,A1v (by simp),ob,if_pos (by simp)]
  exact fail
 | some x =>
  obtain ⟨b1,b2⟩:=A2b h1
  rw [show rsR (some x)=(x.1,(x.2:Int),true) from rfl]
  dsimp only
  rw [A1v (by omega),ob,if_neg (by simp)]
  cases h2:us x.1 with
  | none=>rw [show usR none=([],false) from rfl,if_pos (by simp)]; exact fail
  | some s =>
   have b3:=A88 h2
   rw [show usR (some s)=(s,true) from rfl,if_neg (by simp)]
   dsimp only
   have hs:s.length≤8388608:=by omega
   obtain ⟨n1,a1,d1,e1⟩:=Ao hs 0 false
   obtain ⟨n2,a2,d2,e2⟩:=Ao hs a1 d1
   obtain ⟨n3,a3,d3,e3⟩:=Ao hs a2 d2
   obtain ⟨n4,a4,d4,e4⟩:=Ao hs a3 d3
   obtain ⟨n5,a5,d5,e5⟩:=Ao hs a4 d4
   obtain ⟨a6,d6,l,e6,hl⟩:=A4n hs (n5,{ mText:=s,mAt:=(a5:Int),mBad:=d5 }) a5 d5
   rw [show ((0:Nat):Int)=0 from rfl] at e1
   rw [e1,ob]
   dsimp only
   rw [e2,ob]
   dsimp only
   rw [e3,ob]
   dsimp only
   rw [e4,ob]
   dsimp only
   rw [e5,ob]
   dsimp only
   rw [e6,ob]
   dsimp only
   rw [Hq (by dsimp only; omega),ob]
   generalize hc:({ Stamp:=n1,NextGen:=n2,NextSeq:=n3,NextValid:=n4,Refs:=l }:TCheck)=c
   cases d6 with
   | true=>exact fail
   | false =>
    rw [if_neg (by simp)]
    cases h8:(checkText c).2 with
    | false=>exact fail
    | true =>
     rw [if_neg (by simp),sub?_take b1,ob]
     by_cases h9:(checkText c).1=t.take x.2
     ·rw [if_neg (by simpa using h9),ob,if_neg (by simp)]
      exact ⟨_,rfl,fun _=>by first | exact Uq h8 h9 | (dsimp only; rw [hc]; exact Uq h8 h9),fun h=>absurd h (by simp)⟩
     ·rw [if_pos (by simpa using h9),ob,if_pos rfl]
      exact fail
theorem Xx {t:List UInt8} (ht:t.length≤8388608) {c:TCheck} (h:goodC t c):U5 t=some (c,true):=by
 have hk:=Xb h
 obtain ⟨h1,h2⟩:=A17 h
 have hb:=Hd hk
 obtain ⟨⟨r1,r2,r3,r4⟩,h5,h6⟩:=Y3 hk
 obtain ⟨b1,b2⟩:=A2b h1
 have hs:(ctBody c).length≤8388608:=by omega
 have rd:∀ {A B:List UInt8} {z:Int},ctBody c=A++(vt z++B)→0≤z∧z≤1000000000→D6 { mText:=ctBody c,mAt:=(A.length:Int),mBad:=false }=some (z,{ mText:=ctBody c,mAt:=((A++vt z).length:Int),mBad:=false }):=by
  intro A B z he hz
  rw [he] at hs ⊢
  exact A16 hs hz
 have e1:=rd (A:=[]) (z:=c.Stamp) (B:=vt c.NextGen++(vt c.NextSeq++(vt c.NextValid++(vt c.Refs.length++c.Refs.flatMap refT)))) (by simp [ctBody,ctHead]) (by omega)
 have e2:=rd (A:=[]++vt c.Stamp) (z:=c.NextGen) (B:=vt c.NextSeq++(vt c.NextValid++(vt c.Refs.length++c.Refs.flatMap refT))) (by simp [ctBody,ctHead]) (by omega)
 have e3:=rd (A:=[]++vt c.Stamp++vt c.NextGen) (z:=c.NextSeq) (B:=vt c.NextValid++(vt c.Refs.length++c.Refs.flatMap refT)) (by simp [ctBody,ctHead]) (by omega)
 have e4:=rd (A:=[]++vt c.Stamp++vt c.NextGen++vt c.NextSeq) (z:=c.NextValid) (B:=vt c.Refs.length++c.Refs.flatMap refT) (by simp [ctBody,ctHead]) (by omega)
 have e5:=rd (A:=[]++vt c.Stamp++vt c.NextGen++vt c.NextSeq++vt c.NextValid) (z:=c.Refs.length) (B:=c.Refs.flatMap refT) (by simp [ctBody,ctHead]) (by omega)
 have hh:[]++vt c.Stamp++vt c.NextGen++vt c.NextSeq++vt c.NextValid++vt c.Refs.length=ctHead c:=by simp [ctHead]
 have e6:∀ v:TL06Cur,iter (L1 ((c.Refs.length:Int),v)) (0,ctBody c,((ctHead c).length:Int),false,[])=some (ctBody c,((ctBody c).length:Int),false,c.Refs):=by
  intro v
  have:=H8 (step:=L1 ((c.Refs.length:Int),v)) (fun j=>((j:Int),ctBody c,((ctHead c++(c.Refs.take j).flatMap refT).length:Int),false,c.Refs.take j)) c.Refs.length (r:=(ctBody c,((ctBody c).length:Int),false,c.Refs)) ?_ ?_
  ·simpa using this
  ·intro j hj
   have hr:=h6 _ (List.getElem_mem hj)
   have hsp:ctBody c=(ctHead c++(c.Refs.take j).flatMap refT)++(vt c.Refs[j].No++(vt c.Refs[j].Gen++(c.Refs.drop (j+1)).flatMap refT)):=by
    unfold ctBody
    conv=>lhs; rw [← List.take_append_drop j c.Refs,List.drop_eq_getElem_cons hj,List.flatMap_append,List.flatMap_cons]
    simp [refT]
   have g1:=rd hsp (by omega)
   have g2:=rd (A:=(ctHead c++(c.Refs.take j).flatMap refT)++vt c.Refs[j].No) (z:=c.Refs[j].Gen) (B:=(c.Refs.drop (j+1)).flatMap refT) (by rw [hsp]; simp) (by omega)
   have hnx:(c.Refs.take (j+1)).flatMap refT=(c.Refs.take j).flatMap refT++(vt c.Refs[j].No++vt c.Refs[j].Gen):=by
    rw [List.take_succ_eq_append_getElem hj,List.flatMap_append,List.flatMap_cons,List.flatMap_nil,List.append_nil]; rfl
   have htl:(c.Refs.take j).length≤30:=by rw [List.length_take]; omega
   unfold L1
   dsimp only
   rw [if_pos (by simpa using hj),if_pos (by simp <;> omega),ob,if_pos (by simp),g1,ob]
   dsimp only
   rw [g2,ob]
   dsimp only
   rw [app?_ok (by rw [List.length_singleton]; omega) (by rw [List.length_singleton]; omega),ob,B9 (by omega),hnx,List.take_succ_eq_append_getElem hj]
   simp only [List.append_assoc]
  ·unfold L1
   dsimp only
   rw [if_neg (by simp),ob,if_neg (by simp),List.take_length]
   rfl
 obtain ⟨r,hr⟩:=h.2
 have htk:t.take (ctOut c).length=ctOut c:=by rw [hr,List.take_left]
 unfold U5
 rw [A5d ht,ob,h1,show rsR (some (ctBody c++sealL (ctBody c),(ctOut c).length))=(ctBody c++sealL (ctBody c),((ctOut c).length:Int),true) from rfl]
 dsimp only
 rw [A1v (by dsimp only at b2; omega),ob,if_neg (by simp),h2,show usR (some (ctBody c))=(ctBody c,true) from rfl,if_neg (by simp)]
 dsimp only
 rw [show ((([]:List UInt8).length:Nat):Int)=0 from rfl] at e1
 rw [e1,ob]
 dsimp only
 rw [e2,ob]
 dsimp only
 rw [e3,ob]
 dsimp only
 rw [e4,ob]
 dsimp only
 rw [e5,ob]
 dsimp only
 rw [hh,e6,ob]
 dsimp only
 rw [show ({ Stamp:=c.Stamp,NextGen:=c.NextGen,NextSeq:=c.NextSeq,NextValid:=c.NextValid,Refs:=c.Refs }:TCheck)=c from rfl,Hq (by dsimp only; omega),ob,if_neg (by simp),h.1]
 dsimp only
 rw [if_neg (by simp),sub?_take b1,ob]
 dsimp only
 rw [htk,if_neg (by simp),ob]
 rfl
noncomputable def readC (t:List UInt8):TCheck×Bool:=(U5 t).getD (check0,false)
theorem Py {t:List UInt8} (ht:t.length≤8388608):U5 t=some (readC t)∧M5 t=some (readC t)∧(readC t).1.Refs.length≤11:=by
 obtain ⟨r,h1,h2,h3⟩:=Zh ht
 have e:readC t=r:=by unfold readC; rw [h1]; rfl
 refine ⟨by rw [e,h1],?_,?_⟩
 ·rw [e,← h1]
  exact A61 (A4m ht) (fun c h=>A52 ht h) ⟨r,h1,h2,h3⟩ (fun c h=>Xx ht h)
 ·rw [e]
  cases hr:r.2 with
  | true=>have:=(Y3 (Xb (h2 hr))).2.1; omega
  | false=>rw [h3 hr]; simp [check0]
theorem A44 {t:List UInt8} (ht:t.length≤8388608):((readC t).2=true→goodC t (readC t).1)∧((readC t).2=false→(readC t).1=check0):=by
 obtain ⟨r,h1,h2,h3⟩:=Zh ht
 have e:readC t=r:=by unfold readC; rw [h1]; rfl
 rw [e]; exact ⟨h2,h3⟩
theorem Aa7 (n:Int):vt n≠[]:=by
 unfold vt
 split
 ·unfold vtl
  split <;> simp
 ·simp
def better (b:TCheck×Bool) (r:TCheck×Bool):TCheck×Bool:=if r.2&&(!b.2||decide (r.1.Stamp>b.1.Stamp)) then (r.1,true) else b
noncomputable def newest (d:TDisk):TCheck×Bool:=better (better (check0,false) (readC (sectorT d 0 4).1)) (readC (sectorT d 4 4).1)
theorem Wd {d:TDisk} (h:DkS d) (f:Nat):(sectorT d f 4).1.length≤8388608:=by
 unfold sectorT
 split
 ·have:=Lg h f 4; dsimp only; omega
 ·simp
theorem A3j {d:TDisk} (h:DkS d):V7 d=some (newest d):=by
 have t0:=Gg h (f:=0) (n:=4) (by omega) (by omega) (by omega)
 have t1:=Gg h (f:=4) (n:=4) (by omega) (by omega) (by omega)
 have r0:=(Py (Wd h 0)).2.1
 have r1:=(Py (Wd h 4)).2.1
 unfold V7 newest
 generalize sectorT d 0 4=s0 at t0 r0 ⊢
 generalize sectorT d 4 4=s1 at t1 r1 ⊢
 generalize readC s0.1=c0 at r0 ⊢
 generalize readC s1.1=c1 at r1 ⊢
 have a0:at? ([0,4]:List Int) 0=some 0:=rfl
 have a1:at? ([0,4]:List Int) 1=some 4:=rfl
 have w1:w64 (0+1)=1:=by rw [B4 (by omega) (by omega)]; rfl
 have w2:w64 (1+1)=2:=by rw [B4 (by omega) (by omega)]; rfl
 have e1:L4 d (false,0,0,0,0,0,[])=some (.inl ((better (check0,false) c0).2,1,(better (check0,false) c0).1.Stamp,(better (check0,false) c0).1.NextGen,(better (check0,false) c0).1.NextSeq,(better (check0,false) c0).1.NextValid,(better (check0,false) c0).1.Refs)):=by
  unfold L4 better
  rw [if_pos (by decide),a0,ob]
  rw [show ((0:Nat):Int)=0 from rfl,show ((4:Nat):Int)=4 from rfl] at t0
  rw [t0,ob,r0,ob,w1]
  cases c0.2 <;> simp [check0]
 rw [Q6 e1]
 generalize better (check0,false) c0=b
 have e2:L4 d (b.2,1,b.1.Stamp,b.1.NextGen,b.1.NextSeq,b.1.NextValid,b.1.Refs)=some (.inl ((better b c1).2,2,(better b c1).1.Stamp,(better b c1).1.NextGen,(better b c1).1.NextSeq,(better b c1).1.NextValid,(better b c1).1.Refs)):=by
  unfold L4 better
  rw [if_pos (by simp),a1,ob]
  rw [show ((4:Nat):Int)=4 from rfl] at t1
  rw [t1,ob,r1,ob,w2]
  cases c1.2
  ·simp
  ·cases hb:b.2
   ·simp
   ·by_cases hc:c1.1.Stamp>b.1.Stamp <;> simp [hc,hb]
 rw [Q6 e2,D0 (r:=((better b c1).2,(better b c1).1.Stamp,(better b c1).1.NextGen,(better b c1).1.NextSeq,(better b c1).1.NextValid,(better b c1).1.Refs))]
 ·rfl
 ·unfold L4
  rw [if_neg (by simp)]
theorem Mp {ρ:Type} {n:Nat} {step:Int→Option (Int ⊕ (ρ ⊕ Unit))} (_:n≤1048576) (h1:∀ i:Nat,i<n→step (i:Int)=some (.inl ((i+1:Nat):Int))) (h2:step (n:Int)=some (.inr (.inr ()))):iter step 0=some (.inr ()):=by
 exact H8 (step:=step) (fun i=>(i:Int)) n (fun i hi=>h1 i hi) h2
theorem Xn {l:List TItem} (h:l.length≤1048576):Af l l=some true:=by
 unfold Af
 rw [if_neg (by simp),Mp (n:=l.length) h]
 ·rfl
 ·intro i hi
  unfold Av
  simp only [dlt hi,if_true,at?_nat hi,ob,B9 (show i<9223372036854775807 by omega),beq_self_eq_true,Bool.and_self,Bool.not_true,Bool.false_eq_true,if_false]
 ·unfold Av; simp
theorem A9v {b:List Int} (h:¬ (b.length:Int)>1048576):Ee b=some false:=by unfold Ee; simp; omega
theorem A8p {b:List Int} (h:(b.length:Int)>1048576):Ee b=some true:=by unfold Ee; simp; omega
theorem Gw {d:TDisk} (h:D7 d=true) (f:Nat):∀ m,f+m≤d.Sectors.length→(secT d f m).length=32*m
 | 0,_=>rfl
 | m+1,hm=>by
  have h1:=Gw h f m (by omega)
  have h2:=Ko h (a:=f+m) (by omega)
  rw [secT,List.length_append]; omega
theorem Lk {d:TDisk} (h:D7 d=true) (f:Nat):∀ m,f+m≤d.Sectors.length→∀ j,j<32*m→(secT d f m)[j]?=(rsec d (f+j / 32))[j%32]?
 | 0,_,j,hj=>by omega
 | m+1,hm,j,hj=>by
  have h1:=Gw h f m (by omega)
  rw [secT]
  by_cases c:j<32*m
  ·rw [List.getElem?_append_left (by omega)]
   exact Lk h f m (by omega) j c
  ·rw [List.getElem?_append_right (by omega),h1,show j / 32=m by omega,show j%32=j - 32*m by omega]
theorem Xk {d d':TDisk} (f:Nat):∀ m,(∀ a,f≤a→a<f+m→rsec d a=rsec d' a)→secT d f m=secT d' f m
 | 0,_=>rfl
 | m+1,h=>by
  rw [secT,secT,Xk f m (fun a h1 h2=>h a h1 (by omega)),h (f+m) (by omega) (by omega)]
theorem Mm {d:TDisk} (h:D7 d=true) {b:Nat} {T:List UInt8} {a q:Nat} (ha:a<d.Sectors.length) (hq:q<32):(rsec (poke d b T) a)[q]?=if b≤32*a+q∧32*a+q<b+T.length then T[32*a+q - b]? else (rsec d a)[q]?:=by
 have h32:=Ko h ha
 rw [A30 ha,List.getElem?_map,List.getElem?_range hq,Option.map_some]
 split
 ·rw [List.getD_eq_getElem?_getD,qG (by omega)]; rfl
 ·rw [List.getD_eq_getElem?_getD,qG (by omega)]; rfl
theorem Wk {d:TDisk} (h:D7 d=true) (f m:Nat) {T:List UInt8} (hf:f+m≤d.Sectors.length) (hT:T.length≤32*m):∃ r,secT (poke d (32*f) T) f m=T++r:=by
 have ho:=Ki h (32*f) T
 have h1:=Gw ho f m (by rw [X6]; exact hf)
 refine ⟨(secT (poke d (32*f) T) f m).drop T.length,?_⟩
 conv=>lhs; rw [← List.take_append_drop T.length (secT (poke d (32*f) T) f m)]
 congr 1
 refine List.ext_getElem? fun i=>?_
 by_cases c:i<T.length
 ·rw [List.getElem?_take_of_lt c,Lk ho f m (by rw [X6]; exact hf) i (by omega),Mm h (by omega) (by omega),if_pos (by omega)]
  congr 1; omega
 ·rw [List.getElem?_eq_none (by simp; omega),List.getElem?_eq_none (by omega)]
theorem Hi {d:TDisk} {f n:Nat} (h:f+n≤d.Sectors.length):sectorT d f n=(secT d f n,true):=by unfold sectorT; rw [if_pos h]
theorem Zp:∀ n:Nat,n<128→1≤n→ofI (n:Int)≠0:=by decide
theorem A6e {t:List UInt8} (hl:t.length≤8388608) (hz:∀ b,t[0]?=some b→b=0):(readC t).2=false:=by
 cases h:(readC t).2 with
 | false=>rfl
 | true =>
  obtain ⟨hk,r,hr⟩:=(A44 hl).1 h
  have hlen:(ctOut (readC t).1).length≤128:=by
   unfold checkText at hk
   split at hk
   ·split at hk
    ·exact absurd (congrArg Prod.snd hk) (by simp)
    ·omega
   ·exact absurd (congrArg Prod.snd hk) (by simp)
  unfold ctOut short at hlen hr
  generalize hB:ctBody (readC t).1++sealL (ctBody (readC t).1)=B at hlen hr
  have h4:4≤B.length:=by rw [← hB,List.length_append,X1]; omega
  have h5:B.length≤128:=by rw [List.length_append] at hlen; omega
  have h6:B.length<128:=by
   by_cases e:B.length=128
   ·exfalso
    have h0:=Aa7 (B.length:Int)
    have:1≤(vt (B.length:Int)).length:=by
     cases hv:vt (B.length:Int) with
     | nil=>exact absurd hv h0
     | cons a l=>simp
    rw [List.length_append] at hlen; omega
   ·omega
  have hv:vt (B.length:Int)=[ofI (B.length:Int)]:=by
   unfold vt
   rw [if_pos (by omega),X4 (by omega)]; simp
  have h0:t[0]?=some (ofI (B.length:Int)):=by
   rw [hr,hv]; rfl
  exact absurd (hz _ h0) (Zp _ h6 (by omega))
theorem Tt {n:Nat} {g:TLog} (h:W n (first8 n) g) (a:Nat) (ha:a<8):rsec g.Disk a=rsec (poke (poke (newDisk (8+n*8)) 256 headT) 128 (ctOut (checkOf (log1 n)))) a:=by
 rw [h.home a ha]
 unfold first8
 rw [Vt h.rng,(Kk h.rng).2]
theorem A2i {n:Nat} (h:5≤n∧n≤11):D7 (poke (newDisk (8+n*8)) 256 headT)=true:=Ki (A1a h) _ _
theorem region1 {n:Nat} {d:TDisk} (hn:5≤n∧n≤11) (hd:8≤d.Sectors.length) (h:∀ a,4≤a→a<8→rsec d a=rsec (poke (poke (newDisk (8+n*8)) 256 headT) 128 (ctOut (checkOf (log1 n)))) a):sectorT d 4 4=(secT d 4 4,true)∧goodC (secT d 4 4) (checkOf (log1 n)):=by
 refine ⟨Hi (by omega),Ji (He n).1 (by have:=(He n).2; omega),?_⟩
 rw [Xk 4 4 (fun a h1 h2=>h a h1 (by omega))]
 exact Wk (A2i hn) 4 4 (by rw [X6]; simp [newDisk]) (by have:=(He n).2; omega)
theorem A2g {n:Nat} {g:TLog} (h:W n (first8 n) g):(readC (sectorT g.Disk 0 4).1).2=false:=by
 have hs:=h.sec
 have hn:=h.rng
 rw [Hi (by omega)]
 refine A6e (by rw [Gw h.ok 0 4 (by omega)]; omega) ?_
 intro b hb
 rw [Lk h.ok 0 4 (by omega) 0 (by omega),Tt h _ (by omega)] at hb
 have hl:(newDisk (8+n*8)).Sectors.length=8+n*8:=by simp [newDisk]
 rw [Mm (A2i hn) (by rw [X6,hl]; omega) (by omega),if_neg (by omega),Mm (A1a hn) (by rw [hl]; omega) (by omega),if_neg (by omega),Va rfl] at hb
 have hz:((newDisk (8+n*8)).Sectors[0+0 / 32]?).getD []=zero32:=by
  simp only [newDisk,Nat.zero_div,Nat.add_zero]
  rw [List.getElem?_replicate,if_pos (by omega)]; rfl
 rw [hz] at hb
 have:zero32[0%32]?=some 0:=by decide
 rw [this] at hb
 exact (Option.some.inj hb).symm
theorem Zn {t:List UInt8} (ht:t.length≤8388608) {c:TCheck} (h:goodC t c):readC t=(c,true):=by
 have:=Xx ht h
 rw [(Py ht).1] at this
 exact Option.some.inj this
theorem Qb (n:Nat):(checkOf (log1 n)).Stamp=1:=rfl
theorem A2f {n:Nat} {g:TLog} (h:W n (first8 n) g):newest g.Disk=(checkOf (log1 n),true):=by
 have hs:=h.sec
 have hn:=h.rng
 have r1:=region1 (d:=g.Disk) hn (by omega) (fun a _ h2=>Tt h a h2)
 unfold newest
 have h0:=A2g h
 rw [r1.1,Zn (by rw [Gw h.ok 4 4 (by omega)]; omega) r1.2]
 unfold better
 rw [h0]; rfl
def rsA (t:List UInt8) (a:Nat):Option (List UInt8×Nat):=match rv t a with
 | some x=>if x.1≤20000∧x.2+x.1≤t.length then some ((t.drop x.2).take x.1,x.2+x.1) else none
 | none=>none
theorem A5g {t:List UInt8} (ht:t.length≤8388608) (a:Nat):((if !(rvR (rv t a)).2.2 then some true else (if decide ((rvR (rv t a)).1>20000) then some true else (if decide ((rvR (rv t a)).1>(w64 ((t.length:Int) - (rvR (rv t a)).2.1))) then some true else some false))):Option Bool).bind (fun y2=>(if y2 then some (([]:List UInt8),(0:Int),false) else (sub? t (rvR (rv t a)).2.1 (w64 ((rvR (rv t a)).2.1+(rvR (rv t a)).1))).bind fun v3=>some (v3,w64 ((rvR (rv t a)).2.1+(rvR (rv t a)).1),true)))=some (rsR (rsA t a)):=by
 unfold rsA
 cases h:rv t a with
 | none=>rfl
 | some x =>
  obtain ⟨h1,h2,h3⟩:=Kj h
  exact A5b ht h2 h3
theorem Qq {t:List UInt8} (ht:t.length≤8388608) (a:Nat):Q7 t (a:Int)=some (rsR (rsA t a)):=by
 unfold Q7
 rw [Ma (by omega) a,ob]
 exact A5g ht a
theorem Hb {t:List UInt8} (ht:t.length≤8388608) (a:Nat):H4 t (a:Int)=some (rsR (rsA t a)):=by
 unfold H4
 rw [Ea (by omega) a,ob]
 exact A5g ht a
theorem Mj {t:List UInt8} {a:Nat} {x:List UInt8×Nat} (h:rsA t a=some x):a<x.2∧x.2≤t.length∧x.1.length≤20000:=by
 unfold rsA at h
 split at h
 ·rename_i y hy
  obtain ⟨h1,h2,h3⟩:=Kj hy
  split at h
  ·rename_i hc
   cases h
   refine ⟨by simp only; omega,hc.2,?_⟩
   simp only [List.length_take]
   omega
  ·cases h
 ·cases h
theorem Rg {t:List UInt8} {a:Nat} {x:Nat×Nat} (h:rv t a=some x):t.drop a=vt (x.1:Int)++t.drop x.2:=by
 unfold rv at h
 split at h
 ·rename_i y hy
  split at h
  ·rename_i hc
   cases h
   dsimp only
   rw [hc.2,← List.drop_drop,List.take_append_drop]
  ·cases h
 ·cases h
theorem Yv {t:List UInt8} {a:Nat} {x:List UInt8×Nat} (h:rsA t a=some x):t.drop a=short x.1++t.drop x.2:=by
 unfold rsA at h
 split at h
 ·rename_i y hy
  obtain ⟨h1,h2,h3⟩:=Kj hy
  split at h
  ·rename_i hc
   cases h
   have hl:((t.drop y.2).take y.1).length=y.1:=by simp only [List.length_take,List.length_drop]; omega
   rw [Rg hy]
   unfold short
   dsimp only
   rw [hl,List.append_assoc,← List.drop_drop,List.take_append_drop]
  ·cases h
 ·cases h
theorem A4t {A B s:List UInt8} (h:s.length≤20000):rsA (A++(short s++B)) A.length=some (s,(A++short s).length):=by
 have hs:short s=vt (s.length:Int)++s:=rfl
 unfold rsA
 rw [A1d (n:=s.length) (r:=s++B) (by rw [List.drop_left,hs,List.append_assoc]) (by omega)]
 dsimp only
 have e1:(A++(short s++B)).drop (A.length+(vt (s.length:Int)).length)=s++B:=by
  rw [← List.drop_drop,List.drop_left,hs,List.append_assoc,List.drop_left]
 rw [if_pos ⟨h,by simp [hs]; omega⟩,e1,List.take_left]
 simp [hs,Nat.add_assoc]
def E4 (f:TFrame):List UInt8:=frameT f++sealL (frameT f)
def rfC (t:List UInt8) (a:Nat) (f:TFrame) (n:Nat):Option (TFrame×Nat):=if E9 f=true∧n+4≤t.length∧(t.take (n+4)).drop a=E4 f then some (f,n+4) else none
theorem A2q {t:List UInt8} {a:Nat} {f:TFrame} {n:Nat} (h1:E9 f=true) (h2:n+4≤t.length) (h3:(t.take (n+4)).drop a=E4 f):rfC t a f n=some (f,n+4):=if_pos ⟨h1,h2,h3⟩
theorem Mi {t:List UInt8} {a:Nat} {f:TFrame} {n:Nat} (h:¬ (E9 f=true∧n+4≤t.length∧(t.take (n+4)).drop a=E4 f)):rfC t a f n=none:=if_neg h
theorem sub?_td {t:List UInt8} {a n:Nat} (h1:a≤n) (h2:n≤t.length):sub? t (a:Int) (n:Int)=some ((t.take n).drop a):=by
 unfold sub?
 rw [if_pos (by omega),Int.toNat_natCast,Int.toNat_natCast]
def rf (t:List UInt8) (a:Nat):Option (TFrame×Nat):=match rv t a with
 | none=>none
 | some g=>match rv t g.2 with
  | none=>none
  | some s=>match rsA t s.2 with
   | none=>none
   | some b=>rfC t a { Gen:=(g.1:Int),Seq:=(s.1:Int),Body:=b.1 } b.2
def rfR (o:Option (TFrame×Nat)):TFrame×Int×Bool:=match o with
 | some x=>(x.1,(x.2:Int),true)
 | none=>(frame0,0,false)
theorem Fv:rvR none=(0,0,false):=rfl
theorem Fr (x:Nat×Nat):rvR (some x)=((x.1:Int),(x.2:Int),true):=rfl
theorem Yg:rsR none=([],0,false):=rfl
theorem Lm (x:List UInt8×Nat):rsR (some x)=(x.1,(x.2:Int),true):=rfl
theorem A8o {t:List UInt8} (ht:t.length≤8388608) (a:Nat):Fe t (a:Int)=some (rfR (rf t a)):=by
 unfold Fe rf
 rw [Ma (by omega) a,ob]
 cases h1:rv t a with
 | none =>
  rw [Fv]
  dsimp only
  rw [show (0:Int)=((0:Nat):Int) from rfl,Ma (by omega) 0,ob]
  have:∃ n:Nat,(rvR (rv t 0)).2.1=n:=by cases rv t 0 <;> exact ⟨_,rfl⟩
  obtain ⟨n,hn⟩:=this
  rw [hn,Qq ht,ob]
  rfl
 | some g =>
  obtain ⟨b1,b2,b3⟩:=Kj h1
  rw [Fr]
  dsimp only
  rw [Ma (by omega) g.2,ob]
  cases h2:rv t g.2 with
  | none =>
   rw [Fv]
   dsimp only
   rw [show (0:Int)=((0:Nat):Int) from rfl,Qq ht,ob]
   rfl
  | some s =>
   obtain ⟨c1,c2,c3⟩:=Kj h2
   rw [Fr]
   dsimp only
   rw [Qq ht,ob]
   cases h3:rsA t s.2 with
   | none=>rfl
   | some b =>
    obtain ⟨d1,d2,d3⟩:=Mj h3
    rw [Lm]
    dsimp only
    have e1:w64 ((t.length:Int) - 4)=(t.length:Int) - 4:=B4 (by omega) (by omega)
    have e2:w64 ((b.2:Int)+4)=((b.2+4:Nat):Int):=by rw [B4 (by omega) (by omega)]; omega
    rw [e1,e2,if_neg (by simp),if_neg (by simp),if_neg (by simp)]
    by_cases k1:b.2+4≤t.length
    ·rw [if_neg (by simp; omega),if_neg (by simp),ob,if_neg (by simp),Ca,ob]
     unfold E6
     by_cases k2:E9 { Gen:=(g.1:Int),Seq:=(s.1:Int),Body:=b.1 }=true
     ·rw [if_pos k2,if_neg (by simp)]
      rw [sub?_td (by omega) k1,ob]
      by_cases k3:(t.take (b.2+4)).drop a=E4 { Gen:=(g.1:Int),Seq:=(s.1:Int),Body:=b.1 }
      ·rw [A2q k2 k1 k3,if_neg (by rw [k3]; simp [E4]),ob,if_neg (by simp)]
       rfl
      ·rw [Mi (fun h=>k3 h.2.2),if_pos (by simp only [Bool.not_eq_true',beq_eq_false_iff_ne,ne_eq]; exact fun h=>k3 h.symm),ob,if_pos rfl]
       rfl
     ·rw [if_neg k2,Mi (fun h=>k2 h.1),if_pos (by simp),ob,if_pos rfl]
      rfl
    ·rw [if_pos (by simp; omega),ob,if_pos rfl,Mi (fun h=>k1 h.2.1)]
     rfl
theorem A53 {t:List UInt8} (ht:t.length≤8388608) (a:Nat):V3 t (a:Int)=some (rfR (rf t a)):=by
 unfold V3 rf
 rw [Ea (by omega) a,ob]
 cases h1:rv t a with
 | none =>
  rw [Fv]
  dsimp only
  rw [show (0:Int)=((0:Nat):Int) from rfl,Ea (by omega) 0,ob]
  have:∃ n:Nat,(rvR (rv t 0)).2.1=n:=by cases rv t 0 <;> exact ⟨_,rfl⟩
  obtain ⟨n,hn⟩:=this
  rw [hn,Hb ht,ob]
  rfl
 | some g =>
  obtain ⟨b1,b2,b3⟩:=Kj h1
  rw [Fr]
  dsimp only
  rw [Ea (by omega) g.2,ob]
  cases h2:rv t g.2 with
  | none =>
   rw [Fv]
   dsimp only
   rw [show (0:Int)=((0:Nat):Int) from rfl,Hb ht,ob]
   rfl
  | some s =>
   obtain ⟨c1,c2,c3⟩:=Kj h2
   rw [Fr]
   dsimp only
   rw [Hb ht,ob]
   cases h3:rsA t s.2 with
   | none=>rfl
   | some b =>
    obtain ⟨d1,d2,d3⟩:=Mj h3
    rw [Lm]
    dsimp only
    have e1:w64 ((t.length:Int) - (b.2:Int))=(t.length:Int) - b.2:=B4 (by omega) (by omega)
    have e2:w64 ((b.2:Int)+4)=((b.2+4:Nat):Int):=by rw [B4 (by omega) (by omega)]; omega
    rw [e1,e2,if_neg (by simp),if_neg (by simp),if_neg (by simp),Kb,ob]
    by_cases k2:E9 { Gen:=(g.1:Int),Seq:=(s.1:Int),Body:=b.1 }=true
    ·rw [if_pos k2]
     by_cases k1:b.2+4≤t.length
     ·rw [if_neg (by simp; omega),ob,if_neg (by simp),Zq,ob]
      unfold E6
      rw [if_pos k2,sub?_td (by omega) k1,ob]
      by_cases k3:(t.take (b.2+4)).drop a=E4 { Gen:=(g.1:Int),Seq:=(s.1:Int),Body:=b.1 }
      ·rw [A2q k2 k1 k3,if_neg (by rw [k3]; simp [E4])]
       rfl
      ·rw [Mi (fun h=>k3 h.2.2),if_pos (by simp only [Bool.not_eq_true',beq_eq_false_iff_ne,ne_eq]; exact k3)]
       rfl
     ·rw [if_pos (by simp; omega),ob,if_pos rfl,Mi (fun h=>k1 h.2.1)]
      rfl
    ·rw [if_neg k2,ob,if_pos rfl,Mi (fun h=>k2 h.1)]
     rfl
theorem A4j (n:Int):1≤(vt n).length:=by
 unfold vt
 split
 ·unfold vtl
  split <;> simp
 ·simp
theorem Uc {t:List UInt8} {a:Nat} {x:TFrame×Nat} (h:rf t a=some x):a+8≤x.2∧x.2≤t.length∧E9 x.1=true:=by
 unfold rf at h
 split at h
 ·cases h
 rename_i g hg
 split at h
 ·cases h
 rename_i s hs
 split at h
 ·cases h
 rename_i b hb
 unfold rfC at h
 split at h
 ·rename_i hc
  obtain ⟨h1,h2,h3⟩:=hc
  cases h
  refine ⟨?_,h2,h1⟩
  have hl:=congrArg List.length h3
  rw [List.length_drop,List.length_take] at hl
  have hb2:=X7 h1
  have p1:=A4j (g.1:Int)
  have p2:=A4j (s.1:Int)
  have p3:=A4j ((b.1.length:Nat):Int)
  unfold E4 frameT at hl
  simp only [List.length_append,X1] at hl
  dsimp only at hb2 ⊢
  omega
 ·cases h
def scanN (t:List UInt8) (gen:Int):Nat→Nat→List TFrame→List TFrame×Nat
 | 0,a,l=>(l,a)
 | n+1,a,l=>match rf t a with
  | some x=>if x.1.Gen=gen then scanN t gen n x.2 (l++[x.1]) else (l,a)
  | none=>(l,a)
theorem A8u {t:List UInt8} {a:Nat} (h:t.length<a):rf t a=none:=by
 unfold rf
 rw [A1x h]
theorem Vi {t:List UInt8} (ht:t.length≤8388608) {gen:Int} {step:Int×List TFrame→Option ((Int×List TFrame) ⊕ ((List TFrame×Int) ⊕ Empty))}
  (h1:∀ (a:Nat) (l:List TFrame),step ((a:Int),l)=match rf t a with
   | some x=>if x.1.Gen=gen then (app? 32 l [x.1]).bind fun v=>some (.inl ((x.2:Int),v)) else some (.inr (.inl (l,(a:Int))))
   | none=>some (.inr (.inl (l,(a:Int))))) :
  ∀ (n a:Nat) (l:List TFrame),t.length<a+n→8*l.length≤a→iter step ((a:Int),l)=some (.inl ((scanN t gen n a l).1,((scanN t gen n a l).2:Int)))
 | 0,a,l,hn,_=>by
  refine D0 ?_
  rw [h1,A8u (by omega)]; rfl
 | n+1,a,l,hn,hl=>by
  rw [scanN]
  cases hr:rf t a with
  | none =>
   refine D0 ?_
   rw [h1,hr]
  | some x =>
   obtain ⟨b1,b2,b3⟩:=Uc hr
   dsimp only
   by_cases hg:x.1.Gen=gen
   ·rw [if_pos hg,Q6 (s':=((x.2:Int),l++[x.1]))]
    ·exact Vi ht h1 n x.2 _ (by omega) (by simp; omega)
    ·rw [h1,hr]
     dsimp only
     rw [if_pos hg,app?_ok (by simp; omega) (by simp; omega)]; rfl
   ·rw [if_neg hg]
    refine D0 ?_
    rw [h1,hr]
    dsimp only
    rw [if_neg hg]
theorem Vk {t:List UInt8} {gen:Int}:∀ (n a:Nat) (l:List TFrame),8*l.length≤a→a≤t.length→8*(scanN t gen n a l).1.length≤t.length∧(scanN t gen n a l).2≤t.length∧l.length≤(scanN t gen n a l).1.length
 | 0,a,l,h,h2=>by simp only [scanN]; omega
 | n+1,a,l,h,h2=>by
  rw [scanN]
  cases hr:rf t a with
  | none=>dsimp only; omega
  | some x =>
   obtain ⟨b1,b2,b3⟩:=Uc hr
   dsimp only
   by_cases hg:x.1.Gen=gen
   ·rw [if_pos hg]
    have:=Vk (t:=t) (gen:=gen) n x.2 (l++[x.1]) (by simp; omega) b2
    simp at this
    omega
   ·rw [if_neg hg]; dsimp only; omega
theorem A3h {t:List UInt8} {gen:Int}:∀ (n a:Nat) (l:List TFrame),(∀ f∈l,E9 f=true)→∀ f∈(scanN t gen n a l).1,E9 f=true
 | 0,a,l,h=>h
 | n+1,a,l,h=>by
  rw [scanN]
  cases hr:rf t a with
  | none=>exact h
  | some x =>
   dsimp only
   by_cases hg:x.1.Gen=gen
   ·rw [if_pos hg]
    refine A3h n _ _ ?_
    intro f hf
    rcases List.mem_append.1 hf with hf | hf
    ·exact h f hf
    ·rw [List.mem_singleton] at hf; subst hf; exact (Uc hr).2.2
   ·rw [if_neg hg]; exact h
def scan (t:List UInt8) (gen:Int):List TFrame×Nat:=scanN t gen (t.length+1) 0 []
theorem Aa0 {t:List UInt8} (ht:t.length≤8388608) (gen:Int):Jc t gen=some ((scan t gen).1,((scan t gen).2:Int)):=by
 unfold Jc
 have:=Vi (t:=t) ht (gen:=gen) (step:=Dg t gen) ?_ (t.length+1) 0 [] (by omega) (by simp)
 ·rw [show ((0:Nat):Int)=0 from rfl] at this
  rw [this]; rfl
 ·intro a l
  unfold Dg
  rw [A8o ht,ob]
  cases rf t a with
  | none=>rfl
  | some x =>
   simp only [rfR]
   by_cases hg:x.1.Gen=gen
   ·rw [if_pos hg]
    simp [hg]
   ·rw [if_neg hg]
    simp [hg]
theorem A6q {t:List UInt8} (ht:t.length≤8388608) (gen:Int):X9 t gen=some ((scan t gen).1,((scan t gen).2:Int)):=by
 unfold X9
 have:=Vi (t:=t) ht (gen:=gen) (step:=Y9 t gen) ?_ (t.length+1) 0 [] (by omega) (by simp)
 ·rw [show ((0:Nat):Int)=0 from rfl] at this
  rw [this]; rfl
 ·intro a l
  unfold Y9
  rw [A53 ht,ob]
  cases rf t a with
  | none=>rfl
  | some x =>
   simp only [rfR]
   by_cases hg:x.1.Gen=gen
   ·rw [if_pos hg]
    simp [hg]
   ·rw [if_neg hg]
    simp [hg]
def segT (d:TDisk) (no:Int):List UInt8:=if inR no 0 10 then (sectorT d (8+8*no.toNat) 8).1 else []
theorem Zx {d:TDisk} (h:DkS d) (no:Int):(segT d no).length≤8388608:=by
 unfold segT
 split
 ·unfold sectorT
  split
  ·have:=Lg h (8+8*no.toNat) 8; dsimp only; omega
  ·simp
 ·simp
theorem A5k {no:Int} {k:Nat} (h:inR no 0 k=true):∃ n:Nat,no=n∧n≤k:=by
 unfold inR at h
 simp only [Bool.and_eq_true,decide_eq_true_eq] at h
 exact ⟨no.toNat,by omega,by omega⟩
theorem A9x {d:TDisk} (h:DkS d) (no:Int):Li d no=some (segT d no):=by
 unfold Li T3 segT
 rw [M4,ob]
 cases hr:inR no 0 10 with
 | false=>rfl
 | true =>
  obtain ⟨n,rfl,hn⟩:=A5k (k:=10) hr
  have e1:w64 ((n:Int)*8)=(n:Int)*8:=B4 (by omega) (by omega)
  have e2:w64 (8+(n:Int)*8)=((8+8*n:Nat):Int):=by rw [B4 (by omega) (by omega)]; omega
  rw [if_pos rfl,ob,if_pos rfl,e1,e2,ob]
  have:=Wq h (f:=8+8*n) (n:=8) (by omega) (by omega) (by omega)
  rw [show ((8:Nat):Int)=8 from rfl] at this
  rw [this,ob,if_pos rfl,Int.toNat_natCast]
theorem A18 {d:TDisk} (h:DkS d) (no:Int):Z2 d no=some (segT d no):=by
 unfold Z2 Dx segT
 rw [R2,ob]
 cases hr:inR no 0 10 with
 | false=>rfl
 | true =>
  obtain ⟨n,rfl,hn⟩:=A5k (k:=10) hr
  have e1:w64 ((n:Int)*8)=(n:Int)*8:=B4 (by omega) (by omega)
  have e2:w64 (8+(n:Int)*8)=((8+8*n:Nat):Int):=by rw [B4 (by omega) (by omega)]; omega
  rw [if_pos rfl,ob,if_pos rfl,e1,e2,ob]
  have:=Gg h (f:=8+8*n) (n:=8) (by omega) (by omega) (by omega)
  rw [show ((8:Nat):Int)=8 from rfl] at this
  rw [this,ob,if_pos rfl,Int.toNat_natCast]
def segGen (t:List UInt8):Int:=match rf t 0 with
 | some x=>if x.1.Body=[115,101,103] then x.1.Gen else 0
 | none=>0
theorem Fy {d:TDisk} (h:DkS d) (no:Int):P1 d no=some (segGen (segT d no)):=by
 unfold P1 segGen
 rw [A18 h,ob]
 have:=A53 (Zx h no) 0
 rw [show ((0:Nat):Int)=0 from rfl] at this
 rw [this,ob]
 cases rf (segT d no) 0 with
 | none=>simp [rfR,frame0]
 | some x =>
  simp only [rfR]
  by_cases hb:x.1.Body=[115,101,103]
  ·rw [if_pos hb]; simp [hb]
  ·rw [if_neg hb]; simp [hb]
def segFr (t:List UInt8):List TFrame×Nat:=if segGen t=0 then ([],0) else ((scan t (segGen t)).1.drop 1,(scan t (segGen t)).2)
theorem A4q {t:List UInt8} (h:segGen t≠0):1≤(scan t (segGen t)).1.length:=by
 have key:∃ x,rf t 0=some x∧x.1.Gen=segGen t:=by
  unfold segGen at h ⊢
  cases hr:rf t 0 with
  | none=>rw [hr] at h; exact absurd rfl h
  | some x =>
   rw [hr] at h
   dsimp only at h ⊢
   by_cases hb:x.1.Body=[115,101,103]
   ·exact ⟨x,rfl,by rw [if_pos hb]⟩
   ·rw [if_neg hb] at h; exact absurd rfl h
 obtain ⟨x,hr,hg⟩:=key
 unfold scan
 rw [scanN,hr]
 dsimp only
 rw [if_pos hg]
 obtain ⟨b1,b2,_⟩:=Uc hr
 have:=(Vk (t:=t) (gen:=segGen t) t.length x.2 ([]++[x.1]) (by simp; omega) b2).2.2
 simpa using this
theorem A70 {t:List UInt8}:8*(segFr t).1.length≤t.length:=by
 unfold segFr
 split
 ·simp
 ·have:=(Vk (t:=t) (gen:=segGen t) (t.length+1) 0 [] (by simp) (by omega)).1
  unfold scan
  simp only [List.length_drop]
  omega
theorem A7r {t:List UInt8}:∀ f∈(segFr t).1,E9 f=true:=by
 intro f hf
 unfold segFr at hf
 split at hf
 ·cases hf
 ·exact A3h _ _ _ (by simp) f (List.mem_of_mem_drop hf)
theorem Yt {d:TDisk} (h:DkS d) (no:Int):U4 d no=some ((segFr (segT d no)).1,((segFr (segT d no)).2:Int)):=by
 have hl:=Zx h no
 unfold U4 segFr
 rw [Fy h,ob]
 by_cases hg:segGen (segT d no)=0
 ·rw [if_pos (by simpa using hg),if_pos hg]; rfl
 ·have h1:=A4q hg
  rw [if_neg (by simpa using hg),if_neg hg,A18 h,ob,A6q hl,ob]
  have e:=sub?_tail (l:=(scan (segT d no) (segGen (segT d no))).1) (i:=1) h1
  rw [show ((1:Nat):Int)=1 from rfl] at e
  dsimp only
  rw [e,ob]
def rec0:TRec:={ Kind:=0,Valid:=0,Uid:=0,Next:=0,Flags:=0,User:=[],Name:=[],Text:=[] }
def goodR (t:List UInt8) (r:TRec):Prop:=recOk r=true∧t=recT r
theorem bt?_cons (c:UInt8) (s:List UInt8):bt? (c::s) 0=some c:=by simp [bt?]
theorem A6r (c:UInt8):ofI (IntKind.u8.wrap (w64 (c.toNat:Int)))=c:=by
 have:=c.toNat_lt
 rw [B4 (by omega) (by omega),Gs]
 have e:(c.toNat:Int)%256=c.toNat:=by omega
 rw [e,Vc]
theorem A0y {s:List UInt8} (hs:s.length≤8388608) (a:Nat) (bad:Bool):J1 { mText:=s,mAt:=(a:Int),mBad:=bad }=some (if bad then ([],{ mText:=s,mAt:=(a:Int),mBad:=true }) else match rsA s a with | some x=>(x.1,{ mText:=s,mAt:=(x.2:Int),mBad:=false }) | none=>([],{ mText:=s,mAt:=(a:Int),mBad:=true })):=by
 unfold J1
 dsimp only
 rw [Qq hs a,ob]
 cases bad with
 | true=>rfl
 | false =>
  cases rsA s a with
  | none=>rfl
  | some x=>rfl
theorem Qg {s:List UInt8} (hs:s.length≤8388608) (a:Nat) (bad:Bool):∃ (u:List UInt8) (b:Nat) (bad':Bool),J1 { mText:=s,mAt:=(a:Int),mBad:=bad }=some (u,{ mText:=s,mAt:=(b:Int),mBad:=bad' })∧u.length≤20000:=by
 rw [A0y hs]
 cases bad with
 | true=>exact ⟨[],a,true,rfl,by simp⟩
 | false =>
  cases h:rsA s a with
  | none=>exact ⟨[],a,true,rfl,by simp⟩
  | some x=>exact ⟨x.1,x.2,false,rfl,(Mj h).2.2⟩
theorem A4a {A B u:List UInt8} (hs:(A++(short u++B)).length≤8388608) (h:u.length≤20000):J1 { mText:=A++(short u++B),mAt:=(A.length:Int),mBad:=false }=some (u,{ mText:=A++(short u++B),mAt:=((A++short u).length:Int),mBad:=false }):=by
 rw [A0y hs,A4t h]
 rfl
theorem A6s {t:List UInt8} (ht:t.length≤8388608):∃ q,Ai t=some q∧(q.2=true→goodR t q.1)∧(q.2=false→q.1=rec0):=by
 have fail:∃ q,some (rec0,false)=some q∧(q.2=true→goodR t q.1)∧(q.2=false→q.1=rec0):=⟨_,rfl,by simp,by simp⟩
 unfold Ai
 cases t with
 | nil=>exact fail
 | cons c s =>
  rw [if_neg (by simp),bt?_cons,ob]
  obtain ⟨n1,a1,d1,e1⟩:=Ao ht 1 false
  rw [show ((1:Nat):Int)=1 from rfl] at e1
  obtain ⟨n2,a2,d2,e2⟩:=Ao ht a1 d1
  obtain ⟨n3,a3,d3,e3⟩:=Ao ht a2 d2
  obtain ⟨n4,a4,d4,e4⟩:=Ao ht a3 d3
  obtain ⟨u5,a5,d5,e5,l5⟩:=Qg ht a4 d4
  obtain ⟨u6,a6,d6,e6,l6⟩:=Qg ht a5 d5
  obtain ⟨u7,a7,d7,e7,l7⟩:=Qg ht a6 d6
  rw [e1,ob]
  dsimp only
  rw [e2,ob]
  dsimp only
  rw [e3,ob]
  dsimp only
  rw [e4,ob]
  dsimp only
  rw [e5,ob]
  dsimp only
  rw [e6,ob]
  dsimp only
  rw [e7,ob]
  dsimp only
  rw [Ka ⟨by dsimp only; omega,by dsimp only; omega,by dsimp only; omega⟩,ob]
  generalize hr:({ Kind:=w64 (c.toNat:Int),Valid:=n1,Uid:=n2,Next:=n3,Flags:=n4,User:=u5,Name:=u6,Text:=u7 }:TRec)=r
  cases d7 with
  | true=>exact fail
  | false =>
   rw [if_neg (by simp)]
   unfold recText
   by_cases hk:recOk r=true
   ·rw [if_pos hk,if_neg (by simp)]
    by_cases he:recT r=c::s
    ·rw [if_neg (by simp [he]),ob,if_neg (by simp)]
     exact ⟨_,rfl,fun _=>⟨hk,he.symm⟩,fun h=>absurd h (by simp)⟩
    ·rw [if_pos (by simp [he]),ob,if_pos rfl]
     exact fail
   ·rw [if_neg hk,if_pos (by simp),ob,if_pos rfl]
    exact fail
theorem A15 {t:List UInt8} (ht:t.length≤8388608) {r:TRec} (h:goodR t r):Ai t=some (r,true):=by
 obtain ⟨hk,hT⟩:=h
 obtain ⟨⟨v1,v2⟩,⟨u1,u2⟩,⟨n1,n2⟩,⟨f1,f2⟩,k1,k2⟩:=Ue hk
 obtain ⟨l1,l2,l3⟩:=Za hk
 have rd:∀ {A B:List UInt8} {z:Int},t=A++(vt z++B)→0≤z∧z≤1000000000→D6 { mText:=t,mAt:=(A.length:Int),mBad:=false }=some (z,{ mText:=t,mAt:=((A++vt z).length:Int),mBad:=false }):=by
  intro A B z he hz
  rw [he] at ht ⊢
  exact A16 ht hz
 have rdS:∀ {A B u:List UInt8},t=A++(short u++B)→u.length≤20000→J1 { mText:=t,mAt:=(A.length:Int),mBad:=false }=some (u,{ mText:=t,mAt:=((A++short u).length:Int),mBad:=false }):=by
  intro A B u he hu
  rw [he] at ht ⊢
  exact A4a ht hu
 generalize hkb:[ofI (IntKind.u8.wrap r.Kind)]=kb
 have hT':t=kb++vt r.Valid++vt r.Uid++vt r.Next++vt r.Flags++short r.User++short r.Name++short r.Text:=by rw [hT,← hkb]; rfl
 have e1:=rd (A:=kb) (z:=r.Valid) (B:=vt r.Uid++(vt r.Next++(vt r.Flags++(short r.User++(short r.Name++short r.Text))))) (by rw [hT']; simp) (by omega)
 have e2:=rd (A:=kb++vt r.Valid) (z:=r.Uid) (B:=vt r.Next++(vt r.Flags++(short r.User++(short r.Name++short r.Text)))) (by rw [hT']; simp) (by omega)
 have e3:=rd (A:=kb++vt r.Valid++vt r.Uid) (z:=r.Next) (B:=vt r.Flags++(short r.User++(short r.Name++short r.Text))) (by rw [hT']; simp) (by omega)
 have e4:=rd (A:=kb++vt r.Valid++vt r.Uid++vt r.Next) (z:=r.Flags) (B:=short r.User++(short r.Name++short r.Text)) (by rw [hT']; simp) (by omega)
 have e5:=rdS (A:=kb++vt r.Valid++vt r.Uid++vt r.Next++vt r.Flags) (u:=r.User) (B:=short r.Name++short r.Text) (by rw [hT']; simp) (by omega)
 have e6:=rdS (A:=kb++vt r.Valid++vt r.Uid++vt r.Next++vt r.Flags++short r.User) (u:=r.Name) (B:=short r.Text) (by rw [hT']; simp) (by omega)
 have e7:=rdS (A:=kb++vt r.Valid++vt r.Uid++vt r.Next++vt r.Flags++short r.User++short r.Name) (u:=r.Text) (B:=[]) (by rw [hT']; simp) (by omega)
 have hkl:kb.length=1:=by rw [← hkb]; rfl
 rw [hkl] at e1
 have ht0:t=ofI (IntKind.u8.wrap r.Kind)::t.drop 1:=by rw [hT]; rfl
 have hb:bt? t 0=some (ofI (IntKind.u8.wrap r.Kind)):=by rw [ht0]; exact bt?_cons _ _
 have hkk:w64 ((ofI (IntKind.u8.wrap r.Kind)).toNat:Int)=r.Kind:=by
  have e:IntKind.u8.wrap r.Kind=((r.Kind.toNat:Nat):Int):=by rw [Gs]; omega
  rw [e,Me (by omega),B4 (by omega) (by omega)]
  omega
 unfold Ai
 rw [if_neg (by rw [ht0]; simp),hb,ob,show (1:Int)=((1:Nat):Int) from rfl,e1,ob]
 dsimp only
 rw [e2,ob]
 dsimp only
 rw [e3,ob]
 dsimp only
 rw [e4,ob]
 dsimp only
 rw [e5,ob]
 dsimp only
 rw [e6,ob]
 dsimp only
 rw [e7,ob]
 dsimp only
 rw [hkk]
 have hR:({ Kind:=r.Kind,Valid:=r.Valid,Uid:=r.Uid,Next:=r.Next,Flags:=r.Flags,User:=r.User,Name:=r.Name,Text:=r.Text }:TRec)=r:=rfl
 rw [hR,Ka ⟨by first | omega | (dsimp only; omega),by first | omega | (dsimp only; omega),by first | omega | (dsimp only; omega)⟩,ob]
 unfold recText
 rw [if_pos hk,if_neg (by simp),if_neg (by simp),if_neg (by simp [hT]),ob,if_neg (by simp)]
theorem A6l {t:List UInt8} (ht:t.length≤8388608):∃ q,R3 t=some q∧(q.2=true→goodR t q.1)∧(q.2=false→q.1=rec0):=by
 have fail:∃ q,some (rec0,false)=some q∧(q.2=true→goodR t q.1)∧(q.2=false→q.1=rec0):=⟨_,rfl,by simp,by simp⟩
 unfold R3
 cases ht0:t with
 | nil=>rw [← ht0]; rw [ht0]; exact ⟨_,rfl,by simp,by simp [rec0]⟩
 | cons c s =>
  rw [← ht0]
  rw [if_neg (by rw [ht0]; simp)]
  have hb:bt? t 0=some c:=by rw [ht0]; exact bt?_cons _ _
  have hd:t.drop 1=s:=by rw [ht0]; rfl
  rw [hb,ob,show (1:Int)=((1:Nat):Int) from rfl,Ea (by omega) 1,ob]
  cases h1:rv t 1 with
  | none=>rw [Fv,if_pos (by simp)]; exact fail
  | some x1 =>
   rw [Fr,if_neg (by simp)]
   dsimp only
   rw [Ea (by omega) x1.2,ob]
   cases h2:rv t x1.2 with
   | none=>rw [Fv,if_pos (by simp)]; exact fail
   | some x2 =>
    rw [Fr,if_neg (by simp)]
    dsimp only
    rw [Ea (by omega) x2.2,ob]
    cases h3:rv t x2.2 with
    | none=>rw [Fv,if_pos (by simp)]; exact fail
    | some x3 =>
     rw [Fr,if_neg (by simp)]
     dsimp only
     rw [Ea (by omega) x3.2,ob]
     cases h4:rv t x3.2 with
     | none=>rw [Fv,if_pos (by simp)]; exact fail
     | some x4 =>
      rw [Fr,if_neg (by simp)]
      dsimp only
      rw [Hb ht x4.2,ob]
      cases h5:rsA t x4.2 with
      | none=>rw [Yg,if_pos (by simp)]; exact fail
      | some x5 =>
       rw [Lm,if_neg (by simp)]
       dsimp only
       rw [Hb ht x5.2,ob]
       cases h6:rsA t x5.2 with
       | none=>rw [Yg,if_pos (by simp)]; exact fail
       | some x6 =>
        rw [Lm,if_neg (by simp)]
        dsimp only
        rw [Hb ht x6.2,ob]
        cases h7:rsA t x6.2 with
        | none=>rw [Yg,if_pos (by simp)]; exact fail
        | some x7 =>
         rw [Lm,if_neg (by simp)]
         dsimp only
         have l5:=(Mj h5).2.2
         have l6:=(Mj h6).2.2
         have l7:=(Mj h7).2.2
         generalize hr:({ Kind:=w64 (c.toNat:Int),Valid:=(x1.1:Int),Uid:=(x2.1:Int),Next:=(x3.1:Int),Flags:=(x4.1:Int),User:=x5.1,Name:=x6.1,Text:=x7.1 }:TRec)=r
         by_cases hend:x7.2=t.length
         ·rw [if_neg (by simp [hend]),Qk (by rw [← hr]; exact ⟨by dsimp only; omega,by dsimp only; omega,by dsimp only; omega⟩),ob]
          by_cases hk:recOk r=true
          ·rw [if_pos hk,ob,if_neg (by simp)]
           refine ⟨_,rfl,fun _=>⟨hk,?_⟩,fun h=>absurd h (by simp)⟩
           have d1:=Rg h1
           rw [hd,Rg h2,Rg h3,Rg h4,Yv h5,Yv h6,Yv h7,hend,List.drop_length] at d1
           dsimp only
           rw [ht0,d1,← hr]
           unfold recT
           dsimp only
           rw [A6r]
           simp
          ·rw [if_neg hk,ob,if_pos rfl]; exact fail
         ·rw [if_pos (by simp; omega),ob,if_pos rfl]; exact fail
theorem A6p {t:List UInt8} (ht:t.length≤8388608) {r:TRec} (h:goodR t r):R3 t=some (r,true):=by
 obtain ⟨hk,hT⟩:=h
 obtain ⟨⟨v1,v2⟩,⟨u1,u2⟩,⟨n1,n2⟩,⟨f1,f2⟩,k1,k2⟩:=Ue hk
 obtain ⟨l1,l2,l3⟩:=Za hk
 have rd:∀ {A B:List UInt8} {z:Int},t=A++(vt z++B)→0≤z∧z≤1000000000→J6 t (A.length:Int)=some (z,((A++vt z).length:Int),true):=by
  intro A B z he hz
  rw [Ea (by omega),he,A9l hz]
 have rdS:∀ {A B u:List UInt8},t=A++(short u++B)→u.length≤20000→H4 t (A.length:Int)=some (u,((A++short u).length:Int),true):=by
  intro A B u he hu
  rw [Hb ht,he,A4t hu]; rfl
 generalize hkb:[ofI (IntKind.u8.wrap r.Kind)]=kb
 have hT':t=kb++vt r.Valid++vt r.Uid++vt r.Next++vt r.Flags++short r.User++short r.Name++short r.Text:=by rw [hT,← hkb]; rfl
 have e1:=rd (A:=kb) (z:=r.Valid) (B:=vt r.Uid++(vt r.Next++(vt r.Flags++(short r.User++(short r.Name++short r.Text))))) (by rw [hT']; simp) (by omega)
 have e2:=rd (A:=kb++vt r.Valid) (z:=r.Uid) (B:=vt r.Next++(vt r.Flags++(short r.User++(short r.Name++short r.Text)))) (by rw [hT']; simp) (by omega)
 have e3:=rd (A:=kb++vt r.Valid++vt r.Uid) (z:=r.Next) (B:=vt r.Flags++(short r.User++(short r.Name++short r.Text))) (by rw [hT']; simp) (by omega)
 have e4:=rd (A:=kb++vt r.Valid++vt r.Uid++vt r.Next) (z:=r.Flags) (B:=short r.User++(short r.Name++short r.Text)) (by rw [hT']; simp) (by omega)
 have e5:=rdS (A:=kb++vt r.Valid++vt r.Uid++vt r.Next++vt r.Flags) (u:=r.User) (B:=short r.Name++short r.Text) (by rw [hT']; simp) (by omega)
 have e6:=rdS (A:=kb++vt r.Valid++vt r.Uid++vt r.Next++vt r.Flags++short r.User) (u:=r.Name) (B:=short r.Text) (by rw [hT']; simp) (by omega)
 have e7:=rdS (A:=kb++vt r.Valid++vt r.Uid++vt r.Next++vt r.Flags++short r.User++short r.Name) (u:=r.Text) (B:=[]) (by rw [hT']; simp) (by omega)
 have hkl:kb.length=1:=by rw [← hkb]; rfl
 rw [hkl] at e1
 have ht0:t=ofI (IntKind.u8.wrap r.Kind)::t.drop 1:=by rw [hT]; rfl
 have hb:bt? t 0=some (ofI (IntKind.u8.wrap r.Kind)):=by rw [ht0]; exact bt?_cons _ _
 have hkk:w64 ((ofI (IntKind.u8.wrap r.Kind)).toNat:Int)=r.Kind:=by
  have e:IntKind.u8.wrap r.Kind=((r.Kind.toNat:Nat):Int):=by rw [Gs]; omega
  rw [e,Me (by omega),B4 (by omega) (by omega)]
  omega
 unfold R3
 rw [if_neg (by rw [ht0]; simp),hb,ob,show (1:Int)=((1:Nat):Int) from rfl,e1,ob,if_neg (by simp)]
 dsimp only
 rw [e2,ob,if_neg (by simp)]
 dsimp only
 rw [e3,ob,if_neg (by simp)]
 dsimp only
 rw [e4,ob,if_neg (by simp)]
 dsimp only
 rw [e5,ob,if_neg (by simp)]
 dsimp only
 rw [e6,ob,if_neg (by simp)]
 dsimp only
 rw [e7,ob,if_neg (by simp)]
 dsimp only
 rw [hkk]
 have hR:({ Kind:=r.Kind,Valid:=r.Valid,Uid:=r.Uid,Next:=r.Next,Flags:=r.Flags,User:=r.User,Name:=r.Name,Text:=r.Text }:TRec)=r:=rfl
 have hend:(kb++vt r.Valid++vt r.Uid++vt r.Next++vt r.Flags++short r.User++short r.Name++short r.Text).length=t.length:=by rw [← hT']
 rw [hR,hend,if_neg (by simp),Qk ⟨by first | omega | (dsimp only; omega),by first | omega | (dsimp only; omega),by first | omega | (dsimp only; omega)⟩,ob,if_pos hk,ob,if_neg (by simp)]
noncomputable def readR (t:List UInt8):TRec×Bool:=(Ai t).getD (rec0,false)
theorem A42 {t:List UInt8} (ht:t.length≤8388608):Ai t=some (readR t)∧R3 t=some (readR t)∧((readR t).2=true→goodR t (readR t).1):=by
 obtain ⟨⟨sc,sb⟩,k1,k2,k3⟩:=A6s ht
 have e:readR t=(sc,sb):=by unfold readR; rw [k1]; rfl
 obtain ⟨⟨rc,rb⟩,h1,h2,h3⟩:=A6l ht
 refine ⟨by rw [e,k1],?_,by rw [e]; exact k2⟩
 rw [e]
 cases rb with
 | true =>
  have:=A15 ht (h2 rfl)
  rw [k1] at this; cases this
  exact h1
 | false =>
  cases sb with
  | true=>exact A6p ht (k2 rfl)
  | false =>
   simp only at h3 k3
   rw [h1,h3 trivial,k3 trivial]
def itemZ:TItem:={ Seq:=0,Rec:=rec0 }
noncomputable def frameItem (f:TFrame):TItem×Bool:=if (readR f.Body).2=true∧E9 f=true then ({ Seq:=f.Seq,Rec:=(readR f.Body).1 },true) else (itemZ,false)
theorem Lx {f:TFrame} (hb:f.Body.length≤8388608):U6 f=some (frameItem f):=by
 unfold U6 frameItem
 rw [(A42 hb).2.1,ob,Kb]
 cases E9 f <;> cases (readR f.Body).2 <;> simp [itemZ,rec0]
noncomputable def itI (f:TFrame):List TItem:=if (frameItem f).2 then [(frameItem f).1] else []
theorem A8s (f:TFrame):(itI f).length≤1:=by unfold itI; split <;> simp
noncomputable def segItems (l:List TFrame):List TItem:=l.flatMap itI
theorem Rj:∀ l:List TFrame,(segItems l).length≤l.length
 | []=>by simp [segItems]
 | f::l=>by
  have h1:=A8s f
  have h2:=Rj l
  unfold segItems at h2 ⊢
  rw [List.flatMap_cons,List.length_append,List.length_cons]; omega
theorem A37 {l:List TFrame} (hl:l.length≤1048576) {step:Int×List TItem→Option ((Int×List TItem) ⊕ List TItem)}
  (h1:∀ (i:Nat) (o:List TItem) (hi:i<l.length),step ((i:Int),o)=if (frameItem l[i]).2 then (app? 96 o [(frameItem l[i]).1]).bind fun v=>some (.inl (((i+1:Nat):Int),v)) else some (.inl (((i+1:Nat):Int),o)))
  (h2:∀ o,step ((l.length:Int),o)=some (.inr o)):iter step (0,[])=some (segItems l):=by
 have:=H8 (step:=step) (fun i=>((i:Int),segItems (l.take i))) l.length (r:=segItems l) ?_ ?_
 ·simpa [segItems] using this
 ·intro i hi
  have hs:=Rj (l.take i)
  rw [List.length_take] at hs
  have e:segItems (l.take (i+1))=segItems (l.take i)++itI l[i]:=by
   unfold segItems
   rw [List.take_succ_eq_append_getElem hi,List.flatMap_append]; simp
  rw [h1 i _ hi,e]
  unfold itI
  by_cases c:(frameItem l[i]).2=true
  ·rw [if_pos c,if_pos c,app?_ok (by simp; omega) (by simp; omega)]; rfl
  ·rw [if_neg c,if_neg c,List.append_nil]
 ·rw [h2,List.take_length]
noncomputable def segOf (d:TDisk) (no:Int):TSeg:={ No:=no,Gen:=segGen (segT d no),End:=((segFr (segT d no)).2:Int),Items:=segItems (segFr (segT d no)).1 }
theorem A0t {d:TDisk} (h:DkS d) (no:Int):(segFr (segT d no)).1.length≤1048576:=by
 have h1:=A70 (t:=segT d no)
 have h2:=Zx h no
 omega
theorem A8e {t:List UInt8} {f:TFrame} (hf:f∈(segFr t).1):f.Body.length≤8388608:=by
 have:=(X7 (A7r f hf)).2.2.2
 omega
theorem Po {d:TDisk} (h:DkS d) (no:Int):Y0 d no=some (segOf d no):=by
 have hc:=A0t h no
 unfold Y0
 rw [Yt h,ob,Fy h,ob,A37 hc]
 ·rfl
 ·intro i o hi
  have hb:=A8e (List.getElem_mem hi)
  unfold Ey
  simp only [dlt hi,if_true,at?_nat hi,ob,Lx hb,B9 (show i<9223372036854775807 by omega)]
 ·intro o; unfold Ey; simp
theorem Jj {f:TFrame} (h:E9 f=true):E6 f=(E4 f,true):=by unfold E6; rw [if_pos h]; rfl
theorem A9j {A B:List UInt8} {f:TFrame} (h:E9 f=true):rf (A++(E4 f++B)) A.length=some (f,(A++E4 f).length):=by
 obtain ⟨⟨g1,g2⟩,⟨s1,s2⟩,b1,b2⟩:=X7 h
 obtain ⟨gn,hg⟩:∃ n:Nat,f.Gen=n:=⟨f.Gen.toNat,by omega⟩
 obtain ⟨sn,hs⟩:∃ n:Nat,f.Seq=n:=⟨f.Seq.toNat,by omega⟩
 have hF:E4 f=vt f.Gen++(vt f.Seq++(short f.Body++sealL (frameT f))):=by
  unfold E4
  generalize sealL (frameT f)=S
  unfold frameT short
  simp only [List.append_assoc]
 unfold rf
 rw [A1d (n:=gn) (r:=vt f.Seq++(short f.Body++sealL (frameT f))++B) (by rw [List.drop_left,hF,← hg]; simp only [List.append_assoc]) (by omega)]
 dsimp only
 have e2:rv (A++(E4 f++B)) (A.length+(vt (gn:Int)).length)=some (sn,A.length+(vt (gn:Int)).length+(vt (sn:Int)).length):=by
  refine A1d (r:=short f.Body++sealL (frameT f)++B) ?_ (by omega)
  rw [← List.drop_drop,List.drop_left,hF,← hg,← hs]
  simp only [List.append_assoc,List.drop_left]
 rw [e2]
 dsimp only
 have e3:rsA (A++(E4 f++B)) (A.length+(vt (gn:Int)).length+(vt (sn:Int)).length)=some (f.Body,A.length+(vt (gn:Int)).length+(vt (sn:Int)).length+(short f.Body).length):=by
  have:=A4t (A:=A++vt f.Gen++vt f.Seq) (B:=sealL (frameT f)++B) (s:=f.Body) (by omega)
  rw [hF]
  simp only [List.append_assoc,List.length_append] at this ⊢
  rw [← hg,← hs,Nat.add_assoc,this]
  congr 2; omega
 rw [e3]
 dsimp only
 have hf:({ Gen:=(gn:Int),Seq:=(sn:Int),Body:=f.Body }:TFrame)=f:=by rw [← hg,← hs]
 have hl:A.length+(vt (gn:Int)).length+(vt (sn:Int)).length+(short f.Body).length+4=(A++E4 f).length:=by
  rw [hF,← hg,← hs]
  simp only [List.length_append,X1]; omega
 rw [hf,A2q h (by rw [hl]; simp) (by rw [hl,← List.append_assoc,List.take_left,List.drop_left]),hl]
theorem A8t {t:List UInt8} {a:Nat} {x:TFrame×Nat} (h:rf t a=some x):t.drop a=E4 x.1++t.drop x.2:=by
 have hb:=Uc h
 unfold rf at h
 split at h
 ·cases h
 ·split at h
  ·cases h
  ·split at h
   ·cases h
   ·rename_i b hb'
    unfold rfC at h
    split at h
    ·rename_i hc
     cases h
     rw [← hc.2.2]
     rw [← List.take_append_drop (b.2+4 - a) (t.drop a)]
     congr 1
     ·rw [List.drop_take]
     ·rw [List.drop_drop]; congr 1; simp only at hb; omega
    ·cases h
theorem A58 {t:List UInt8} {a:Nat} (hz:∀ b,t[a]?=some b→b=0):rf t a=none:=by
 cases h:rf t a with
 | none=>rfl
 | some x =>
  exfalso
  have hb:=Uc h
  obtain ⟨⟨g1,g2⟩,_⟩:=X7 hb.2.2
  have ht:=A8t h
  have h0:t[a]?=(t.drop a)[0]?:=by rw [List.getElem?_drop]; rfl
  rw [ht] at h0
  have e:∃ c r,vt x.1.Gen=c::r∧c≠0:=by
   unfold vt
   rw [if_pos (by omega)]
   by_cases hs:x.1.Gen.toNat≤127
   ·rw [X4 hs]
    exact ⟨_,_,rfl,Zp _ (by omega) (by omega)⟩
   ·rw [Ml (by omega)]
    refine ⟨_,_,rfl,?_⟩
    have:∀ m:Nat,m<128→ofI ((m+128:Nat):Int)≠0:=by decide
    exact this _ (Nat.mod_lt _ (by omega))
  obtain ⟨c,r,e1,e2⟩:=e
  have hF:E4 x.1=vt x.1.Gen++(vt x.1.Seq++vt x.1.Body.length++x.1.Body++sealL (frameT x.1)):=by
   unfold E4
   generalize sealL (frameT x.1)=S
   unfold frameT
   simp only [List.append_assoc]
  rw [hF,e1] at h0
  exact e2 (hz c (by rw [h0]; rfl))
theorem A1e {gen:Int} {Z:List UInt8} (hz:∀ b,Z[0]?=some b→b=0):∀ (F:List TFrame) (A:List UInt8) (n:Nat) (l:List TFrame),F.length<n→(∀ f∈F,E9 f=true∧f.Gen=gen)→scanN (A++(F.flatMap E4++Z)) gen n A.length l=(l++F,(A++F.flatMap E4).length)
 | [],A,0,l,hn,_=>by simp at hn
 | [],A,n+1,l,hn,_=>by
  rw [scanN,A58]
  ·simp
  ·intro b hb
   refine hz b ?_
   rw [← hb,List.getElem?_append_right (Nat.le_refl _),Nat.sub_self]; rfl
 | f::F,A,0,l,hn,_=>by simp at hn
 | f::F,A,n+1,l,hn,h=>by
  have hf:=h f List.mem_cons_self
  have e:A++((f::F).flatMap E4++Z)=A++(E4 f++(F.flatMap E4++Z)):=by simp
  rw [e,scanN,A9j hf.1]
  dsimp only
  rw [if_pos hf.2]
  have ih:=A1e hz F (A++E4 f) n (l++[f]) (by simp at hn; omega) (fun g hg=>h g (List.mem_cons_of_mem _ hg))
  rw [List.append_assoc] at ih
  rw [ih]
  simp
def itF (x:TItem) (gen:Int):TFrame:={ Gen:=gen,Seq:=x.Seq,Body:=recT x.Rec }
def segF (s:TSeg):List TFrame:=hdF s.Gen::s.Items.map fun x=>itF x s.Gen
def segB (s:TSeg):List UInt8:=(segF s).flatMap E4
theorem A7g {x:TItem} {gen:Int} (h:(G4 x gen).2=true):(G4 x gen).1=itF x gen∧E9 (itF x gen)=true∧recOk x.Rec=true:=by
 unfold G4 at h ⊢
 split at h
 ·rename_i hc
  rw [if_pos hc]
  simp only [Bool.and_eq_true] at hc
  have hr:recOk x.Rec=true:=by
   have:=hc.1
   unfold recText at this
   split at this
   ·assumption
   ·cases this
  have e:(recText x.Rec).1=recT x.Rec:=by unfold recText; rw [if_pos hr]
  rw [e] at hc
  refine ⟨by simp only; rw [e]; rfl,hc.2,hr⟩
 ·cases h
theorem Rw {x:TItem} {gen:Int} (h:E9 (itF x gen)=true) (hr:recOk x.Rec=true):frameItem (itF x gen)=(x,true):=by
 have hb:=(X7 h).2.2.2
 have e:readR (itF x gen).Body=(x.Rec,true):=by
  have h1:=A15 (t:=recT x.Rec) (r:=x.Rec) (by unfold itF at hb; simp only at hb; omega) ⟨hr,rfl⟩
  unfold readR itF
  rw [h1]; rfl
 unfold frameItem
 rw [e,if_pos ⟨rfl,h⟩]; rfl
theorem A75 {s:TSeg} {t:List UInt8} {Z:List UInt8} (ht:t=segB s++Z) (hz:∀ b,Z[0]?=some b→b=0) (hg:1≤s.Gen∧s.Gen≤1000000000) (hi:∀ x∈s.Items,E9 (itF x s.Gen)=true∧recOk x.Rec=true):segGen t=s.Gen∧segFr t=(s.Items.map fun x=>itF x s.Gen,(segB s).length):=by
 have hh:E9 (hdF s.Gen)=true:=by unfold E9 hdF inR; simp; omega
 have e0:t=[]++(E4 (hdF s.Gen)++((s.Items.map fun x=>itF x s.Gen).flatMap E4++Z)):=by
  rw [ht]; unfold segB segF; simp
 have e1:rf t 0=some (hdF s.Gen,([]++E4 (hdF s.Gen)).length):=by
  rw [e0]; exact A9j (A:=[]) hh
 have hG:segGen t=s.Gen:=by
  unfold segGen
  rw [e1]
  simp [hdF]
 have hF:∀ f∈segF s,E9 f=true∧f.Gen=s.Gen:=by
  intro f hf
  rcases List.mem_cons.1 hf with e | hf
  ·rw [e]; exact ⟨hh,rfl⟩
  ·obtain ⟨x,hx,rfl⟩:=List.mem_map.1 hf
   exact ⟨(hi x hx).1,rfl⟩
 have hlen:∀ l:List TFrame,(∀ f∈l,E9 f=true∧f.Gen=s.Gen)→l.length≤(l.flatMap E4).length:=by
  intro l
  induction l with
  | nil=>intro _; simp
  | cons f l ih =>
   intro h
   have:=ih fun g hg=>h g (List.mem_cons_of_mem _ hg)
   have h4:4≤(E4 f).length:=by unfold E4; rw [List.length_append,X1]; omega
   rw [List.flatMap_cons,List.length_append,List.length_cons]; omega
 have hl:=hlen _ hF
 have hs:scan t s.Gen=(segF s,(segB s).length):=by
  unfold scan
  have:=A1e hz (segF s) [] (t.length+1) [] (by rw [ht,List.length_append]; unfold segB; omega) hF
  rw [ht]
  rw [ht] at this
  exact this
 refine ⟨hG,?_⟩
 unfold segFr
 rw [hG,if_neg (by omega),hs]
 simp [segF]
def byteAt (d:TDisk) (p:Nat):Option UInt8:=(rsec d (p / 32))[p%32]?
theorem Jx {d:TDisk} (h:D7 d=true) {b:Nat} {T:List UInt8} {p:Nat} (hp:p<32*d.Sectors.length):byteAt (poke d b T) p=if b≤p∧p<b+T.length then T[p - b]? else byteAt d p:=by
 unfold byteAt
 rw [Mm h (by omega) (by omega)]
 by_cases c:b≤p∧p<b+T.length
 ·rw [if_pos c,if_pos (by omega)]; congr 1; omega
 ·rw [if_neg c,if_neg (by omega)]
def segAt (g:TLog) (j:Nat):List UInt8:=match g.Used[j]? with | some s=>segB s | none=>[]
structure Z (n:Nat) (g:TLog):Prop where
 ends:∀ (j:Nat) (s:TSeg),g.Used[j]?=some s→s.End=((segB s).length:Int)
 good:∀ (j:Nat) (s:TSeg),g.Used[j]?=some s→∀ x∈s.Items,E9 (itF x s.Gen)=true∧recOk x.Rec=true
 bytes:∀ j,j<n→∀ i,i<256→byteAt g.Disk (256*(j+1)+i)=some ((segAt g j).getD i 0)
theorem A54 {gen:Int} (h:1≤gen∧gen≤1000000000):hdT gen=E4 (hdF gen):=by
 have hh:E9 (hdF gen)=true:=by unfold E9 hdF inR; simp; omega
 unfold hdT
 rw [Jj hh]
theorem Z.openG {n:Nat} {S0:Nat→List UInt8} {g:TLog} (hw:W n S0 g) (hz:Z n g) (hu:g.Used.length<n):Z n (openG g):=by
 have hn:=hw.rng
 have hs:=hw.sec
 have hgen:1≤g.NextGen∧g.NextGen≤1000000000:=by rw [hw.gen]; omega
 have hT:=A54 hgen
 have hTl:=A1p g.NextGen
 have hlast:∀ (j:Nat) (s:TSeg),(V.openG g).Used[j]?=some s→(j<g.Used.length∧g.Used[j]?=some s)∨(j=g.Used.length∧s={ No:=(g.Used.length:Int),Gen:=g.NextGen,End:=((hdT g.NextGen).length:Int),Items:=[] }):=by
  intro j s h
  simp only [V.openG] at h
  by_cases c:j<g.Used.length
  ·rw [List.getElem?_append_left c] at h; exact .inl ⟨c,h⟩
  ·rw [List.getElem?_append_right (by omega)] at h
   have e:j - g.Used.length=0:=by
    by_cases e:j - g.Used.length=0
    ·exact e
    ·rw [List.getElem?_eq_none (by simp; omega)] at h; cases h
   rw [e] at h
   simp only [List.getElem?_cons_zero,qS] at h
   exact .inr ⟨by omega,h.symm⟩
 have hB:segB { No:=(g.Used.length:Int),Gen:=g.NextGen,End:=((hdT g.NextGen).length:Int),Items:=[] }=hdT g.NextGen:=by
  rw [hT]; unfold segB segF; simp
 refine ⟨?_,?_,?_⟩
 ·intro j s h
  rcases hlast j s h with ⟨_,h⟩ | ⟨_,h⟩
  ·exact hz.ends j s h
  ·rw [h,hB]
 ·intro j s h
  rcases hlast j s h with ⟨_,h⟩ | ⟨_,h⟩
  ·exact hz.good j s h
  ·rw [h]; simp
 ·intro j hj i hi
  show byteAt (poke g.Disk _ _) _=_
  rw [Jx hw.ok (by omega),hz.bytes j hj i hi]
  have hsegAt:segAt (V.openG g) j=if j=g.Used.length then hdT g.NextGen else segAt g j:=by
   unfold segAt
   by_cases c:j=g.Used.length
   ·rw [if_pos c,c]
    simp only [V.openG]
    rw [List.getElem?_append_right (Nat.le_refl _),Nat.sub_self]
    exact hB
   ·rw [if_neg c]
    simp only [V.openG]
    by_cases c2:j<g.Used.length
    ·rw [List.getElem?_append_left c2]
    ·rw [List.getElem?_eq_none (by simp; omega),List.getElem?_eq_none (by omega)]
  rw [hsegAt]
  by_cases c:j=g.Used.length
  ·rw [if_pos c]
   have h0:segAt g j=[]:=by unfold segAt; rw [List.getElem?_eq_none (by omega)]
   rw [h0]
   by_cases c2:i<(hdT g.NextGen).length
   ·rw [if_pos (by subst c; omega),qG (by subst c; omega),List.getD_eq_getElem?_getD,qG c2]
    simp only [Option.getD_some,qS]
    congr 1; subst c; omega
   ·rw [if_neg (by subst c; omega),List.getD_eq_getElem?_getD,List.getD_eq_getElem?_getD,List.getElem?_eq_none (by simp),List.getElem?_eq_none (by omega)]
  ·rw [if_neg c,if_neg (by omega)]
theorem A7a (s:TSeg) (x:TItem) (e:Int):segB { No:=s.No,Gen:=s.Gen,End:=e,Items:=s.Items++[x] }=segB s++E4 (itF x s.Gen):=by
 unfold segB segF; simp
theorem Z.appG {n:Nat} {S0:Nat→List UInt8} {g:TLog} (hw:W n S0 g) (hz:Z n g) {x:TItem} {T:List UInt8} (hT:T=E4 (itF x (V.hd g).Gen)) (hf:E9 (itF x (V.hd g).Gen)=true) (hr:recOk x.Rec=true) (hE:(V.hd g).End+(T.length:Int)≤256):Z n (appG g x T):=by
 have hn:=hw.rng
 have hs:=hw.sec
 have hl:=hw.len
 have hu:=Vl hl.1
 have hat:=A89 hl.1
 have hend:=hz.ends _ _ hat
 have hgood:=hz.good _ _ hat
 have hdl:g.Used.dropLast.length=g.Used.length - 1:=by simp
 have hlast:∀ (j:Nat) (s:TSeg),(V.appG g x T).Used[j]?=some s→(j<g.Used.length - 1∧g.Used[j]?=some s)∨(j=g.Used.length - 1∧s={ No:=(V.hd g).No,Gen:=(V.hd g).Gen,End:=(V.hd g).End+(T.length:Int),Items:=(V.hd g).Items++[x] }):=by
  intro j s h
  simp only [V.appG] at h
  by_cases c:j<g.Used.length - 1
  ·rw [List.getElem?_append_left (by omega)] at h
   refine .inl ⟨c,?_⟩
   rw [hu,List.getElem?_append_left (by omega)]; exact h
  ·rw [List.getElem?_append_right (by omega)] at h
   have e:j - g.Used.dropLast.length=0:=by
    by_cases e:j - g.Used.dropLast.length=0
    ·exact e
    ·rw [List.getElem?_eq_none (by simp at e ⊢; omega)] at h; cases h
   rw [e] at h
   simp only [List.getElem?_cons_zero,qS] at h
   exact .inr ⟨by omega,h.symm⟩
 have hB:∀ e,segB { No:=(V.hd g).No,Gen:=(V.hd g).Gen,End:=e,Items:=(V.hd g).Items++[x] }=segB (V.hd g)++T:=by
  intro e; rw [A7a,hT]
 refine ⟨?_,?_,?_⟩
 ·intro j s h
  rcases hlast j s h with ⟨_,h⟩ | ⟨_,h⟩
  ·exact hz.ends j s h
  ·rw [h,hB,List.length_append]; simp only; omega
 ·intro j s h
  rcases hlast j s h with ⟨_,h⟩ | ⟨_,h⟩
  ·exact hz.good j s h
  ·rw [h]
   intro y hy
   rcases List.mem_append.1 hy with hy | hy
   ·exact hgood y hy
   ·rw [List.mem_singleton] at hy; subst hy; exact ⟨hf,hr⟩
 ·intro j hj i hi
  show byteAt (poke g.Disk _ _) _=_
  rw [Jx hw.ok (by omega),hz.bytes j hj i hi]
  have hsegAt:segAt (V.appG g x T) j=if j=g.Used.length - 1 then segB (V.hd g)++T else segAt g j:=by
   unfold segAt
   by_cases c:j=g.Used.length - 1
   ·rw [if_pos c,c]
    simp only [V.appG]
    rw [List.getElem?_append_right (by omega),hdl,Nat.sub_self]
    exact hB _
   ·rw [if_neg c]
    simp only [V.appG]
    by_cases c2:j<g.Used.length - 1
    ·rw [List.getElem?_append_left (by omega)]
     conv=>rhs; rw [hu]
     rw [List.getElem?_append_left (by omega)]
    ·rw [List.getElem?_eq_none (by simp; omega),List.getElem?_eq_none (by omega)]
  rw [hsegAt]
  by_cases c:j=g.Used.length - 1
  ·rw [if_pos c]
   have h0:segAt g j=segB (V.hd g):=by unfold segAt; rw [c,hat]
   rw [h0]
   by_cases c1:i<(segB (V.hd g)).length
   ·rw [if_neg (by omega),List.getD_eq_getElem?_getD,List.getD_eq_getElem?_getD,List.getElem?_append_left c1]
   ·by_cases c2:i<(segB (V.hd g)).length+T.length
    ·rw [if_pos (by omega),qG (by omega),List.getD_eq_getElem?_getD,List.getElem?_append_right (by omega),qG (by omega)]
     simp only [Option.getD_some,qS]
     congr 1; omega
    ·rw [if_neg (by omega),List.getD_eq_getElem?_getD,List.getD_eq_getElem?_getD,List.getElem?_eq_none (by omega),List.getElem?_eq_none (by simp; omega)]
  ·rw [if_neg c,if_neg (by omega)]
theorem A7m {n:Nat} {S0:Nat→List UInt8} {g:TLog} (hw:W n S0 g) (hz:Z n g) {j:Nat} {s:TSeg} (hj:g.Used[j]?=some s):segT g.Disk (j:Int)=segB s++List.replicate (256 - (segB s).length) 0:=by
 have hn:=hw.rng
 have hs:=hw.sec
 have hl:=hw.len
 have hjl:=(qI hj).1
 have hu:=hw.used j s hj
 have he:=hz.ends j s hj
 unfold segT
 rw [if_pos (by unfold inR; simp; omega),Int.toNat_natCast,Hi (by omega)]
 refine List.ext_getElem? fun i=>?_
 have h32:=Gw hw.ok (8+8*j) 8 (by omega)
 by_cases c:i<256
 ·rw [Lk hw.ok (8+8*j) 8 (by omega) i (by omega)]
  have hb:=hz.bytes j (by omega) i c
  unfold byteAt at hb
  rw [show (256*(j+1)+i) / 32=8+8*j+i / 32 by omega,show (256*(j+1)+i)%32=i%32 by omega] at hb
  rw [hb]
  have h0:segAt g j=segB s:=by unfold segAt; rw [hj]
  rw [h0]
  by_cases c1:i<(segB s).length
  ·rw [List.getElem?_append_left c1,List.getD_eq_getElem?_getD,qG c1]; rfl
  ·rw [List.getElem?_append_right (by omega),List.getElem?_replicate,if_pos (by omega),List.getD_eq_getElem?_getD,List.getElem?_eq_none (by omega)]; rfl
 ·rw [List.getElem?_eq_none (by show (secT g.Disk (8+8*j) 8).length≤i; omega),List.getElem?_eq_none (by simp; omega)]
theorem Rb {n:Nat} {S0:Nat→List UInt8} {g:TLog} (hw:W n S0 g) (hz:Z n g) {j:Nat} {s:TSeg} (hj:g.Used[j]?=some s):segGen (segT g.Disk (j:Int))=s.Gen∧segFr (segT g.Disk (j:Int))=(s.Items.map fun x=>itF x s.Gen,(segB s).length):=by
 have hn:=hw.rng
 have hl:=hw.len
 have hjl:=(qI hj).1
 have hu:=hw.used j s hj
 refine A75 (A7m hw hz hj) ?_ (by omega) (hz.good j s hj)
 intro b hb
 rw [List.getElem?_replicate] at hb
 split at hb
 ·cases hb; rfl
 ·cases hb
theorem W.itemsOk {n:Nat} {S0:Nat→List UInt8} {g:TLog} (h:W n S0 g) (hm:(B6 g).length≤100):itemsOk (B6 g)=true:=by
 refine A2y.2 ⟨by omega,?_,?_⟩
 ·intro x hx
  obtain ⟨i,hi⟩:=List.getElem?_of_mem hx
  have hl:=(qI hi).1
  have:=h.its i x hi
  exact ⟨by omega,this.2.1.ok⟩
 ·intro x hx y hy e
  obtain ⟨i,hi⟩:=List.getElem?_of_mem hx
  obtain ⟨j,hj⟩:=List.getElem?_of_mem hy
  have h1:=(h.its i x hi).1
  have h2:=(h.its j y hj).1
  have:i=j:=by omega
  subst this
  rw [hi] at hj; exact Option.some.inj hj
theorem W.szI {n:Nat} {S0:Nat→List UInt8} {g:TLog} (h:W n S0 g) (hm:(B6 g).length≤100):SzI (B6 g):=⟨by omega,fun y hy=>⟨(A2d h y hy).sz⟩⟩
theorem A97 {g:TLog} {j:Nat} {s:TSeg} (hj:g.Used[j]?=some s) {x:TItem} (hx:x∈s.Items):x∈B6 g:=List.mem_flatMap.2 ⟨s,qM hj,hx⟩
theorem W.below {n:Nat} {S0:Nat→List UInt8} {g:TLog} (h:W n S0 g) {x:TItem} (hx:x∈B6 g):x.Seq<g.NextSeq∧x.Rec.Valid<g.NextValid∧1≤x.Seq:=by
 obtain ⟨i,hi⟩:=List.getElem?_of_mem hx
 have hl:=(qI hi).1
 have:=h.its i x hi
 have hs:=h.seq
 exact ⟨by omega,this.2.2,by omega⟩
theorem A3v {n:Nat} {S0:Nat→List UInt8} {g:TLog} (h:W n S0 g):w64 (Int.tdiv (w64 ((g.Disk.Sectors.length:Int) - 8)) 8)=(n:Int):=by
 have hn:=h.rng
 have hs:=h.sec
 rw [B4 (n:=(g.Disk.Sectors.length:Int) - 8) (by omega) (by omega),Int.tdiv_eq_ediv_of_nonneg (by omega),B4 (by omega) (by omega)]
 omega
theorem A33 {n:Nat} {S0:Nat→List UInt8} {g:TLog} (hw:W n S0 g) (hz:Z n g) {j:Nat} {s:TSeg} (hj:g.Used[j]?=some s):Bo g.Disk s=some true:=by
 have hD:=DkS.ofOk hw.ok
 have hu:=hw.used j s hj
 obtain ⟨r1,r2⟩:=Rb hw hz hj
 have hgood:=hz.good j s hj
 have hlen:=A2w hw.len.1
 unfold Bo
 rw [Yt hD,ob,Fy hD,ob,hu.1,r1,r2]
 dsimp only
 rw [if_neg (by simp),if_neg (by rw [hu.2.1]; simp; omega),if_neg (by rw [hz.ends j s hj]; simp),if_neg (by simp),ob,if_neg (by simp)]
 have hcnt:=A0t hD (j:Int)
 rw [r2] at hcnt
 simp only [List.length_map] at hcnt
 rw [Mp (n:=s.Items.length) hcnt]
 ·rfl
 ·intro i hi
  have hx:=hgood _ (List.getElem_mem hi)
  have hb:=(X7 hx.1).2.2.2
  unfold Dy
  simp only [List.length_map]
  rw [if_pos (dlt hi),at?_nat (by simpa using hi),ob,List.getElem_map,Lx (by omega),ob,Rw hx.1 hx.2]
  simp [at?_nat hi,B9 (show i<9223372036854775807 by omega)]
 ·unfold Dy
  simp
theorem A46 {n:Nat} {S0:Nat→List UInt8} {g:TLog} (hw:W n S0 g) (hz:Z n g) (hm:(B6 g).length≤100):Y6 g=some true:=by
 have hD:=DkS.ofOk hw.ok
 have hn:=hw.rng
 have hl:=hw.len
 have hs:=hw.sec
 have a1:inR (n:Int) 5 11=true:=M8.2 (by omega)
 have a2:inR (g.Used.length:Int) 1 (n:Int)=true:=M8.2 (by omega)
 have a3:inR g.NextGen 1 1000000000=true:=M8.2 (by rw [hw.gen]; omega)
 have a4:inR g.NextSeq 1 1000000000=true:=M8.2 (by rw [hw.seq]; omega)
 have a5:inR g.NextValid 1 1000000000=true:=M8.2 (by have:=hw.valid; omega)
 have a6:inR g.Stamp 1 1000000000=true:=M8.2 (by rw [hw.stamp]; omega)
 unfold Y6 U2
 simp only [R2]
 rw [Ei hD,hw.ok,ob,if_pos rfl,if_neg (by rw [hw.cache]; simp),if_neg (by rw [hw.segs]; simp; omega),A3v hw,ob,a1,if_pos rfl,ob,if_neg (by rw [hw.segs]; simp),hw.segs,a2,ob,if_pos rfl,ob,if_neg (by simp),a3,a4,a5,a6]
 simp only [ob,if_true,Bool.false_eq_true,if_false]
 rw [Mp (n:=g.Used.length) (by omega)]
 ·simp only [ob,Sum.elim_inr]
  rw [A1u (hw.lgn (by omega)),ob,A1n (hw.szI hm),hw.itemsOk hm]; rfl
 ·intro i hi
  have hgi:=qG hi
  have hu:=hw.used i _ hgi
  have hon:=A33 hw hz hgi
  have hk:E5 (g.Used.take i) g.Used[i]=some false:=by
   rw [Eo (q:=fun y=>y.No==g.Used[i].No) (by simp; omega) (fun y _=>rfl)]
   congr 1
   rw [List.any_eq_false]
   intro y hy
   obtain ⟨k,hk⟩:=List.getElem?_of_mem hy
   have hki:k<i:=by
    have:=(qI hk).1
    simp at this; omega
   rw [List.getElem?_take_of_lt hki] at hk
   have:=hw.used k y hk
   simp; omega
  have hit:E3 g.Used[i].Items g=some false:=by
   have hlen:=Mn g.Used (List.getElem_mem hi)
   have ht:(B6 g).length=(g.Used.map fun x=>x.Items.length).sum:=by unfold B6; rw [List.length_flatMap]
   rw [Ef (q:=fun y=>decide (y.Seq≥g.NextSeq)||decide (y.Rec.Valid≥g.NextValid)) (by omega) (fun y _=>by
    unfold U9
    cases decide (y.Seq≥g.NextSeq) <;> rfl)]
   congr 1
   rw [List.any_eq_false]
   intro y hy
   have:=hw.below (A97 hgi hy)
   simp; omega
  have b1:inR g.Used[i].No 0 (w64 (g.Segs - 1))=true:=by rw [hw.segs,B4 (by omega) (by omega)]; exact M8.2 (by omega)
  unfold Z1
  simp only [R2]
  rw [if_pos (dlt hi),at?_nat hi,ob,b1,ob,if_pos rfl,if_neg (by rw [hw.gen]; simp; omega)]
  have hsub:=sub?_take (l:=g.Used) (i:=i) (by omega)
  by_cases c:i=0
  ·subst c
   rw [if_neg (by simp),hon,ob,if_pos rfl,ob,if_neg (by simp),hsub,ob,hk,ob,if_neg (by simp),hit,ob,if_neg (by simp)]
   rfl
  ·have hu':=hw.used (i - 1) _ (qG (by omega))
   rw [if_pos (by simp; omega),B4 (by omega) (by omega),show (i:Int) - 1=((i - 1:Nat):Int) by omega,at?_nat (by omega),ob,if_neg (by simp; omega),hon,ob,if_pos rfl,ob,if_neg (by simp),hsub,ob,hk,ob,if_neg (by simp),hit,ob,if_neg (by simp),B9 (by omega)]
 ·unfold Z1
  simp
theorem A7q:headT=hdT 1:=rfl
theorem Aa6 {k:Nat} {g:TLog} (h:5≤k∧k≤8) (e:fmt (k:Int)=(g,true)):Z k g:=by
 have h':5≤k∧k≤11:=by omega
 have ho:=Kk h'
 have hf:=Vt h'
 have hg:g={ log1 k with Disk:=(fixd k).1,Stamp:=1 }:=by
  unfold fmt fmtK at e
  rw [if_pos (by unfold inR; simp; omega),Int.toNat_natCast,if_pos (by rw [ho.1,hf]; rfl)] at e
  exact (congrArg Prod.fst e).symm
 have hT:headT=E4 (hdF 1):=by rw [A7q]; exact A54 (by omega)
 have hl:=Qy
 have hc:=(He k).2
 have hnd:(newDisk (8+k*8)).Sectors.length=8+k*8:=by simp [newDisk]
 have hused:∀ (j:Nat) (s:TSeg),g.Used[j]?=some s→j=0∧s={ No:=0,Gen:=1,End:=(headT.length:Int),Items:=[] }:=by
  intro j s hs
  rw [hg] at hs
  simp only [log1] at hs
  cases j with
  | zero=>simp only [List.getElem?_cons_zero,qS] at hs; exact ⟨rfl,hs.symm⟩
  | succ j=>simp at hs
 have hB:∀ e,segB { No:=0,Gen:=1,End:=e,Items:=[] }=headT:=by
  intro e; rw [hT]; unfold segB segF; simp
 refine ⟨?_,?_,?_⟩
 ·intro j s hs
  rw [(hused j s hs).2,hB]
 ·intro j s hs
  rw [(hused j s hs).2]; simp
 ·intro j hj i hi
  have hd:g.Disk=poke (poke (newDisk (8+k*8)) 256 headT) 128 (ctOut (checkOf (log1 k))):=by
   rw [hg]; simp only; rw [hf,ho.2]
  rw [hd,Jx (A2i h') (by rw [X6,hnd]; omega),if_neg (by omega),Jx (A1a h') (by rw [hnd]; omega)]
  have hseg:segAt g j=if j=0 then headT else []:=by
   unfold segAt
   rw [hg]
   simp only [log1]
   cases j with
   | zero=>simp only [List.getElem?_cons_zero,if_pos]; exact hB _
   | succ j=>simp
  have hzero:byteAt (newDisk (8+k*8)) (256*(j+1)+i)=some 0:=by
   unfold byteAt
   rw [Va rfl]
   have:((newDisk (8+k*8)).Sectors[(256*(j+1)+i) / 32]?).getD []=zero32:=by
    simp only [newDisk]
    rw [List.getElem?_replicate,if_pos (by omega)]; rfl
   rw [this]
   unfold zero32
   rw [List.getElem?_replicate,if_pos (by omega)]
  rw [hseg]
  by_cases c:j=0
  ·subst c
   rw [if_pos rfl]
   by_cases c2:i<headT.length
   ·rw [if_pos (by omega),List.getD_eq_getElem?_getD,qG c2,qG (by omega)]
    simp only [Option.getD_some,qS]
    congr 1; omega
   ·rw [if_neg (by omega),hzero,List.getD_eq_getElem?_getD,List.getElem?_eq_none (by omega)]; rfl
  ·rw [if_neg c,if_neg (by omega),hzero]; rfl
theorem Z.appS {n:Nat} {S0:Nat→List UInt8} {g:TLog} (hw:W n S0 g) (hz:Z n g) {x:TItem} {keep:Int} (hk:0≤keep):Z n (appS n g x keep).2:=by
 rcases Pj n g x keep with ⟨e,_⟩ | ⟨e,_,c⟩ | ⟨T,e,eT,h1,h2,c⟩ | ⟨T,e,eT,h1,h2,c,c'⟩
 ·rw [e]; exact hz
 ·rw [e]; exact hz.openG hw (by omega)
 ·rw [e]
  obtain ⟨i1,i2,i3⟩:=A7g h1
  rw [i1,Jj i2] at eT
  exact hz.appG hw eT i2 i3 c
 ·rw [e]
  obtain ⟨i1,i2,i3⟩:=A7g h1
  have hu:g.Used.length<n:=by omega
  have e4:frT (V.openG g) (G4 x (V.hd g).Gen).1=E6 (itF x (V.hd (V.openG g)).Gen):=by
   unfold frT; rw [i1]; rfl
  rw [e4] at eT h2
  have i4:E9 (itF x (V.hd (V.openG g)).Gen)=true:=by
   unfold E6 at h2
   split at h2
   ·assumption
   ·cases h2
  rw [Jj i4] at eT
  exact (hz.openG hw hu).appG (hw.openG hu) eT i4 i3 c
theorem A3f {l:List TItem} {gen:Int} (h:∀ x∈l,E9 (itF x gen)=true∧recOk x.Rec=true):segItems (l.map fun x=>itF x gen)=l:=by
 induction l with
 | nil=>rfl
 | cons x l ih =>
  have hx:=h x List.mem_cons_self
  have ih:=ih fun y hy=>h y (List.mem_cons_of_mem _ hy)
  unfold segItems at ih ⊢
  rw [List.map_cons,List.flatMap_cons,ih]
  unfold itI
  rw [Rw hx.1 hx.2]; rfl
theorem Pt {n:Nat} {S0:Nat→List UInt8} {g:TLog} (hw:W n S0 g) (hz:Z n g) {j:Nat} {s:TSeg} (hj:g.Used[j]?=some s):segOf g.Disk s.No=s:=by
 have hu:=hw.used j s hj
 obtain ⟨r1,r2⟩:=Rb hw hz hj
 unfold segOf
 rw [hu.1,r1,r2]
 dsimp only
 rw [A3f (hz.good j s hj),← hz.ends j s hj,← hu.1]
theorem A34 {n:Nat} {S0:Nat→List UInt8} {g:TLog} (h:W n S0 g):(checkOf g).Refs.length≤1048576:=by
 have:=h.len; have:=h.rng
 unfold checkOf; simp; omega
theorem A0i {n:Nat} {S0:Nat→List UInt8} {g:TLog} (h:W n S0 g):(checkOf g).Stamp=2:=by
 unfold checkOf; simp only; rw [h.stamp]; rfl
theorem Mb {α β ρ:Type} {l:List α} {m:List β} (hl:l.length=m.length) {q:α→β→Bool} {step:Int→Option (Int ⊕ ρ)} {bad good:ρ} (h1:∀ (i:Nat) (h:i<l.length) (h':i<m.length),step (i:Int)=if q l[i] m[i] then some (.inl ((i+1:Nat):Int)) else some (.inr bad)) (h2:step (l.length:Int)=some (.inr good)):iter step 0=some (if (l.zip m).all (fun p=>q p.1 p.2) then good else bad):=by
 have hz:(l.zip m).length=l.length:=by simp [hl]
 have h:=Ho (l:=l.zip m) (k:=l.length) (by omega) (q:=fun p=>!q p.1 p.2) (step:=step) (bad:=bad) (good:=good) (by
  intro i h _
  rw [h1 i (by omega) (by omega),List.getElem_zip]
  cases q l[i] m[i] <;> rfl) h2
 rw [h]
 have e:(l.zip m).take l.length=l.zip m:=by rw [← hz,List.take_length]
 rw [e]
 have e2:(l.zip m).any (fun p=>!q p.1 p.2)=!((l.zip m).all fun p=>q p.1 p.2):=by
  rw [List.all_eq_not_any_not,Bool.not_not]
 rw [e2]
 cases (l.zip m).all fun p=>q p.1 p.2 <;> rfl
def itemsEq (l m:List TItem):Bool:=(l.length==m.length)&&(l.zip m).all fun p=>itemEq p.1 p.2
def segEq (a b:TSeg):Bool:=a.No==b.No&&(a.Gen==b.Gen&&(a.End==b.End&&itemsEq a.Items b.Items))
def usedEq (l m:List TSeg):Bool:=(l.length==m.length)&&(l.zip m).all fun p=>segEq p.1 p.2
def sameLog (a b:TLog):Bool:=usedEq a.Used b.Used&&(a.NextGen==b.NextGen&&(a.NextSeq==b.NextSeq&&a.NextValid==b.NextValid))
def SegN (x:TSeg):Prop:=x.Items.length≤1048576
theorem A2e {a b:TSeg} (ha:SegN a):Hm a b=some (segEq a b):=by
 unfold SegN at ha
 unfold Hm segEq itemsEq
 by_cases c1:a.No=b.No
 ·by_cases c2:a.Gen=b.Gen
  ·by_cases c3:a.End=b.End
   ·by_cases c4:a.Items.length=b.Items.length
    ·have h:=Mb c4 (q:=itemEq) (step:=Cv a b) (bad:=.inl false) (good:=.inr ()) (by
      intro i h h'
      unfold Cv
      simp only [dlt h,if_true,at?_nat h,at?_nat h',ob,B9 (show i<9223372036854775807 by omega)]
      show (if (!itemEq a.Items[i] b.Items[i])=true then _ else _)=_
      cases itemEq a.Items[i] b.Items[i] <;> rfl) (by unfold Cv; simp)
     simp only [c1,c2,c3,c4,bne_self_eq_false,Bool.false_eq_true,if_false,ob,h,beq_self_eq_true,Bool.true_and]
     cases (a.Items.zip b.Items).all fun p=>itemEq p.1 p.2 <;> rfl
    ·have c4':¬ ((a.Items.length:Int)=b.Items.length):=by omega
     simp [c1,c2,c3,c4,c4']
   ·simp [c1,c2,c3]
  ·simp [c1,c2]
 ·simp [c1]
theorem A1z {a b:TSeg} (ha:SegN a):Cj a b=some (segEq a b):=by
 unfold SegN at ha
 have he:T8 a.Items b.Items=some (itemsEq a.Items b.Items):=by
  unfold T8 itemsEq
  by_cases c4:a.Items.length=b.Items.length
  ·have h:=Mb c4 (q:=itemEq) (step:=Q4 a.Items b.Items) (bad:=.inl false) (good:=.inr ()) (by
    intro i h h'
    unfold Q4
    simp only [dlt h,if_true,at?_nat h,at?_nat h',ob,B9 (show i<9223372036854775807 by omega)]
    show (if (!itemEq a.Items[i] b.Items[i])=true then _ else _)=_
    cases itemEq a.Items[i] b.Items[i] <;> rfl) (by unfold Q4; simp)
   simp only [c4,bne_self_eq_false,Bool.false_eq_true,if_false,h,beq_self_eq_true,Bool.true_and,ob]
   cases (a.Items.zip b.Items).all fun p=>itemEq p.1 p.2 <;> rfl
  ·rw [if_pos (by simp; omega)]
   simp [c4]
 unfold Cj segEq
 rw [he]
 by_cases c1:a.No=b.No <;> by_cases c2:a.Gen=b.Gen <;> by_cases c3:a.End=b.End <;> simp [c1,c2,c3]
theorem A8r {a b:TLog} (hl:a.Used.length≤1048576) (h:∀ x∈a.Used,SegN x):Lh a b=some (sameLog a b):=by
 unfold Lh sameLog usedEq
 by_cases c1:a.Used.length=b.Used.length
 ·have h:=Mb c1 (q:=segEq) (step:=Cy a b) (bad:=.inl false) (good:=.inr ()) (by
   intro i h1 h1'
   unfold Cy
   simp only [dlt h1,if_true,at?_nat h1,at?_nat h1',ob,A2e (h _ (List.getElem_mem h1)),B9 (show i<9223372036854775807 by omega)]) (by unfold Cy; simp)
  by_cases c2:a.NextGen=b.NextGen <;> by_cases c3:a.NextSeq=b.NextSeq <;> by_cases c4:a.NextValid=b.NextValid <;> simp [c1,c2,c3,c4,h]
  cases (a.Used.zip b.Used).all fun p=>segEq p.1 p.2 <;> rfl
 ·have c1':¬ ((a.Used.length:Int)=b.Used.length):=by omega
  simp [c1,c1']
theorem A26 {a b:TLog} (hl:a.Used.length≤1048576) (h:∀ x∈a.Used,SegN x):V8 a b=some (sameLog a b):=by
 have he:J8 a.Used b.Used=some (usedEq a.Used b.Used):=by
  unfold J8 usedEq
  by_cases c1:a.Used.length=b.Used.length
  ·have h:=Mb c1 (q:=segEq) (step:=H6 a.Used b.Used) (bad:=.inl false) (good:=.inr ()) (by
    intro i h1 h1'
    unfold H6
    simp only [dlt h1,if_true,at?_nat h1,at?_nat h1',ob,A1z (h _ (List.getElem_mem h1)),B9 (show i<9223372036854775807 by omega)]) (by unfold H6; simp)
   simp only [c1,bne_self_eq_false,Bool.false_eq_true,if_false,h,beq_self_eq_true,Bool.true_and,ob]
   cases (a.Used.zip b.Used).all fun p=>segEq p.1 p.2 <;> rfl
  ·rw [if_pos (by simp; omega)]
   simp [c1]
 unfold V8 sameLog
 rw [he]
 cases usedEq a.Used b.Used <;> by_cases c2:a.NextGen=b.NextGen <;> by_cases c3:a.NextSeq=b.NextSeq <;> by_cases c4:a.NextValid=b.NextValid <;> simp [c2,c3,c4]
theorem A4o {l:List TItem}:itemsEq l l=true:=by
 unfold itemsEq
 rw [Bool.and_eq_true]
 refine ⟨by simp,?_⟩
 rw [List.all_eq_true]
 intro p hp
 obtain ⟨i,hi,rfl⟩:=List.mem_iff_getElem.1 hp
 simp [itemEq]
theorem A6o {l:List TSeg}:usedEq l l=true:=by
 unfold usedEq
 rw [Bool.and_eq_true]
 refine ⟨by simp,?_⟩
 rw [List.all_eq_true]
 intro p hp
 obtain ⟨i,hi,rfl⟩:=List.mem_iff_getElem.1 hp
 simp [segEq,A4o]
theorem at?_sub {α:Type} {l:List α} {i:Int} {n:Nat} (h:i=(n:Int)) (hn:n<l.length):at? l i=some l[n]:=by subst h; exact at?_nat hn
theorem A8v {l:List TSeg} (hl:l.length≤19) (h:∀ (i:Nat) (h:i+1<l.length),(l[i]'(by omega)).Gen≤(l[i+1]).Gen) (hg:∀ x∈l,0≤x.Gen∧x.Gen≤1000000000):D1 l=some ():=by
 unfold D1 G8
 have e1:iter (F7 l (l.length:Int)) (0,20)=some 0:=by
  refine D0 ?_
  unfold F7
  rw [if_neg (by simp; omega)]
 have e3:iter (F6 (l.length:Int)) 20=some ():=by
  refine D0 ?_
  unfold F6
  rw [if_neg (by simp; omega)]
 have e2:C6 l 0 (l.length:Int)=some ():=by
  unfold C6
  have key:∃ r,iter (D9 l 0 (l.length:Int)) (w64 (0+1))=some r∧True:=by
   refine Fu (fun s:Int=>1≤s∧s≤20) (fun s=>(20 - s).toNat) (fun _=>True) ?_ _ ⟨by decide,by decide⟩
   rintro s ⟨h0,h1⟩
   unfold D9
   by_cases c:s<(l.length:Int)
   ·left
    rw [if_pos (by simpa using c)]
    obtain ⟨n,rfl⟩:∃ n:Nat,s=((n+1:Nat):Int):=⟨(s - 1).toNat,by omega⟩
    have hi:iter (E0 l 0) ((n+1:Nat):Int)=some ():=by
     refine D0 ?_
     unfold E0 Y8
     have a:=h n (by omega)
     have g1:=hg _ (List.getElem_mem (show n<l.length by omega))
     have g2:=hg _ (List.getElem_mem (show n+1<l.length by omega))
     rw [if_pos (by simp <;> omega),at?_nat (show n+1<l.length by omega),ob,at?_sub (n:=n) (by rw [B4 (by omega) (by omega)]; omega) (by omega),ob,ob,if_neg (by rw [B4 (by omega) (by omega)]; simp; omega),ob,if_neg (by simp)]
    rw [hi,ob]
    have hw:w64 (((n+1:Nat):Int)+1)=((n+1:Nat):Int)+1:=B4 (by omega) (by omega)
    exact ⟨_,rfl,⟨by omega,by omega⟩,by omega⟩
   ·right
    rw [if_neg (by simpa using c)]
    exact ⟨_,rfl,trivial⟩
  obtain ⟨r,e,_⟩:=key
  rw [e]; rfl
 rw [e1,ob,e2,ob,e3]
 rfl
theorem A7n {n:Nat} {S0:Nat→List UInt8} {g:TLog} (hw:W n S0 g) (hz:Z n g) {j:Nat} (hj:g.Used.length≤j) (hn:j<n):segGen (segT g.Disk (j:Int))=0:=by
 have hr:=hw.rng
 have hs:=hw.sec
 unfold segGen
 rw [A58 (a:=0)]
 intro b hb
 have h32:=Gw hw.ok (8+8*j) 8 (by omega)
 unfold segT at hb
 rw [if_pos (by unfold inR; simp; omega),Int.toNat_natCast,Hi (by omega)] at hb
 have hb':(secT g.Disk (8+8*j) 8)[0]?=some b:=hb
 rw [Lk hw.ok (8+8*j) 8 (by omega) 0 (by omega)] at hb'
 have hq:=hz.bytes j hn 0 (by omega)
 unfold byteAt at hq
 rw [show (256*(j+1)+0) / 32=8+8*j+0 / 32 by omega,show (256*(j+1)+0)%32=0%32 by omega,hb'] at hq
 have h0:segAt g j=[]:=by unfold segAt; rw [List.getElem?_eq_none hj]
 rw [h0] at hq
 simpa using hq
theorem Fs {n:Nat} {S0:Nat→List UInt8} {g:TLog} (hw:W n S0 g) {j:Nat} (hj:j<g.Used.length):(g.Used[j]).No=(j:Int)∧(g.Used[j]).Gen=(j:Int)+1:=by
 have:=hw.used j _ (qG hj)
 exact ⟨this.1,this.2.1⟩
theorem A5v {n:Nat} {S0:Nat→List UInt8} {g:TLog} (hw:W n S0 g):D1 g.Used=some ():=by
 have hl:=hw.len
 have hr:=hw.rng
 refine A8v (by omega) (fun i hi=>?_) (fun x hx=>?_)
 ·rw [(Fs hw (show i<g.Used.length by omega)).2,(Fs hw hi).2]; omega
 ·obtain ⟨j,hj,rfl⟩:=List.mem_iff_getElem.1 hx
  rw [(Fs hw hj).2]; omega
theorem A31 {g:TLog} {s:Int} (hs:1≤s∧s≤1000000000) (hg:1≤g.Stamp∧g.Stamp≤1000000000) (h:Y6 g=some true):Y6 { g with Stamp:=s }=some true:=by
 rw [← h]
 have e1:Z1 { g with Stamp:=s }=Z1 g:=rfl
 have e2:W2 { g with Stamp:=s }=W2 g:=rfl
 have e3:D3 s 1 1000000000=D3 g.Stamp 1 1000000000:=by
  rw [R2,R2,show inR s 1 1000000000=true by unfold inR; simp; omega,show inR g.Stamp 1 1000000000=true by unfold inR; simp; omega]
 unfold Y6
 rw [e1,e2]
 dsimp only
 rw [e3]
theorem A93 {v:TSeg} {ns nv NS NV:Int} (hl:v.Items.length≤1048576) (h1:ns≤NS) (h2:nv≤NV) (hb:∀ x∈v.Items,(1≤x.Seq∧x.Seq+1≤NS)∧0≤x.Rec.Valid∧x.Rec.Valid+1≤NV) (hN:NS≤1000000000∧NV≤1000000000) :
  ∃ r,iter (T5 v) (0,ns,nv)=some r∧(ns≤r.1∧r.1≤NS)∧(nv≤r.2∧r.2≤NV)∧∀ x∈v.Items,x.Seq+1≤r.1∧x.Rec.Valid+1≤r.2:=by
 have key:∃ r,iter (T5 v) (0,ns,nv)=some r∧((ns≤r.1∧r.1≤NS)∧(nv≤r.2∧r.2≤NV)∧∀ x∈v.Items,x.Seq+1≤r.1∧x.Rec.Valid+1≤r.2):=by
  refine Fu (fun s:Int×Int×Int=>(0≤s.1∧s.1≤(v.Items.length:Int))∧(ns≤s.2.1∧s.2.1≤NS)∧(nv≤s.2.2∧s.2.2≤NV)∧∀ (k:Nat) (h:k<v.Items.length),(k:Int)<s.1→(v.Items[k]).Seq+1≤s.2.1∧(v.Items[k]).Rec.Valid+1≤s.2.2) (fun s=>((v.Items.length:Int) - s.1).toNat) _ ?_ _ ⟨⟨by simp,by simp⟩,⟨by simp,h1⟩,⟨by simp,h2⟩,fun k _ hk=>absurd hk (by simp)⟩
  rintro ⟨i,a,b⟩ ⟨⟨i0,i1⟩,⟨a0,a1⟩,⟨b0,b1⟩,hk⟩
  simp only at i0 i1 a0 a1 b0 b1 hk
  unfold T5
  dsimp only
  by_cases c:i<(v.Items.length:Int)
  ·left
   obtain ⟨j,rfl⟩:∃ j:Nat,i=j:=⟨i.toNat,by omega⟩
   have hj:j<v.Items.length:=by omega
   have hx:=hb _ (List.getElem_mem hj)
   rw [if_pos (by simpa using c),at?_nat hj,ob,B9 (by omega),B4 (n:=(v.Items[j]).Seq+1) (by omega) (by omega),B4 (n:=(v.Items[j]).Rec.Valid+1) (by omega) (by omega)]
   refine ⟨_,rfl,⟨⟨by simp only; omega,by simp only; omega⟩,?_,?_,?_⟩,by simp only; omega⟩
   ·simp only; split <;> omega
   ·simp only; split <;> omega
   ·intro k hkl hki
    simp only at hki ⊢
    by_cases e:k=j
    ·subst e
     constructor
     ·split <;> omega
     ·split <;> omega
    ·have:=hk k hkl (by omega)
     constructor
     ·split <;> omega
     ·split <;> omega
  ·right
   rw [if_neg (by simpa using c)]
   refine ⟨_,rfl,⟨a0,a1⟩,⟨b0,b1⟩,fun x hx=>?_⟩
   obtain ⟨k,hkl,rfl⟩:=List.mem_iff_getElem.1 hx
   exact hk k hkl (by omega)
 exact key
theorem A8k {n:Nat} {S0:Nat→List UInt8} {g:TLog} (hw:W n S0 g) (hm:(B6 g).length≤100) (hv:g.NextValid=1∨∃ x∈B6 g,x.Rec.Valid+1=g.NextValid) {ng ns nv:Int} (h1:ng≤g.NextGen) (h2:1≤ns∧ns≤g.NextSeq) (h3:1≤nv∧nv≤g.NextValid) :
  iter (U1 g.Used) (0,ng,ns,nv)=some (g.NextGen,g.NextSeq,g.NextValid):=by
 have hl:=hw.len
 have hr:=hw.rng
 have hgen:=hw.gen
 have hseq:=hw.seq
 have hval:=hw.valid
 have hall:∀ s∈g.Used,∀ x∈s.Items,(1≤x.Seq∧x.Seq+1≤g.NextSeq)∧0≤x.Rec.Valid∧x.Rec.Valid+1≤g.NextValid:=by
  intro s hs x hx
  have hxi:x∈B6 g:=List.mem_flatMap.2 ⟨s,hs,hx⟩
  have hb:=hw.below hxi
  have hv:=(Wa (A2d hw x hxi).ok).1
  omega
 have hlen:∀ s∈g.Used,s.Items.length≤1048576:=by
  intro s hs
  have:s.Items.length≤(B6 g).length:=by
   unfold B6
   rw [List.length_flatMap]
   exact Mn _ hs
  omega
 have key:∃ r,iter (U1 g.Used) (0,ng,ns,nv)=some r∧((ng≤r.1∧r.1≤g.NextGen)∧(ns≤r.2.1∧r.2.1≤g.NextSeq)∧(nv≤r.2.2∧r.2.2≤g.NextValid)∧∀ (k:Nat) (h:k<g.Used.length),(g.Used[k]).Gen+1≤r.1∧∀ x∈(g.Used[k]).Items,x.Seq+1≤r.2.1∧x.Rec.Valid+1≤r.2.2):=by
  refine Fu (fun s:Int×Int×Int×Int=>(0≤s.1∧s.1≤(g.Used.length:Int))∧(ng≤s.2.1∧s.2.1≤g.NextGen)∧(ns≤s.2.2.1∧s.2.2.1≤g.NextSeq)∧(nv≤s.2.2.2∧s.2.2.2≤g.NextValid)∧∀ (k:Nat) (h:k<g.Used.length),(k:Int)<s.1→(g.Used[k]).Gen+1≤s.2.1∧∀ x∈(g.Used[k]).Items,x.Seq+1≤s.2.2.1∧x.Rec.Valid+1≤s.2.2.2) (fun s=>((g.Used.length:Int) - s.1).toNat) _ ?_ _ ⟨⟨by simp,by simp⟩,⟨by simp,h1⟩,⟨by simp,h2.2⟩,⟨by simp,h3.2⟩,fun k _ hk=>absurd hk (by simp)⟩
  rintro ⟨i,a,b,d⟩ ⟨⟨i0,i1⟩,⟨a0,a1⟩,⟨b0,b1⟩,⟨d0,d1⟩,hk⟩
  simp only at i0 i1 a0 a1 b0 b1 d0 d1 hk
  unfold U1
  dsimp only
  by_cases c:i<(g.Used.length:Int)
  ·left
   obtain ⟨j,rfl⟩:∃ j:Nat,i=j:=⟨i.toNat,by omega⟩
   have hj:j<g.Used.length:=by omega
   have hmem:=List.getElem_mem hj
   have hgj:=(Fs hw hj).2
   obtain ⟨r,e,r1,r2,r3⟩:=A93 (hlen _ hmem) b1 d1 (hall _ hmem) (by omega)
   rw [if_pos (by simpa using c),at?_nat hj,ob,e,ob,B9 (by omega),B4 (n:=(g.Used[j]).Gen+1) (by omega) (by omega)]
   refine ⟨_,rfl,⟨⟨by simp only; omega,by simp only; omega⟩,?_,⟨by simp only; omega,r1.2⟩,⟨by simp only; omega,r2.2⟩,?_⟩,by simp only; omega⟩
   ·simp only; split <;> omega
   ·intro k hkl hki
    simp only at hki ⊢
    by_cases e:k=j
    ·subst e
     exact ⟨by split <;> omega,r3⟩
    ·have q:=hk k hkl (by omega)
     refine ⟨by split <;> omega,fun x hx=>?_⟩
     have:=q.2 x hx
     omega
  ·right
   rw [if_neg (by simpa using c)]
   exact ⟨_,rfl,⟨a0,a1⟩,⟨b0,b1⟩,⟨d0,d1⟩,fun k hkl=>hk k hkl (by omega)⟩
 obtain ⟨⟨a,b,d⟩,e,⟨a0,a1⟩,⟨b0,b1⟩,⟨d0,d1⟩,hk⟩:=key
 simp only at a0 a1 b0 b1 d0 d1 hk
 have hA:a=g.NextGen:=by
  have q:=(hk (g.Used.length - 1) (by omega)).1
  rw [(Fs hw (show g.Used.length - 1<g.Used.length by omega)).2] at q
  omega
 have hin:∀ x∈B6 g,x.Seq+1≤b∧x.Rec.Valid+1≤d:=by
  intro x hx
  obtain ⟨s,hs,hxs⟩:=List.mem_flatMap.1 hx
  obtain ⟨k,hkl,rfl⟩:=List.mem_iff_getElem.1 hs
  exact (hk k hkl).2 x hxs
 have hB:b=g.NextSeq:=by
  by_cases h0:(B6 g).length=0
  ·omega
  ·have hlt:(B6 g).length - 1<(B6 g).length:=by omega
   have q:=(hin _ (List.getElem_mem hlt)).1
   have:=(hw.its _ _ (qG hlt)).1
   omega
 have hC:d=g.NextValid:=by
  rcases hv with hv | ⟨x,hx,hv⟩
  ·omega
  ·have:=(hin x hx).2
   omega
 rw [e,hA,hB,hC]
theorem Ql {n:Nat} {S0:Nat→List UInt8} {g:TLog} (hw:W n S0 g) (hz:Z n g) (hm:(B6 g).length≤100) (hv:g.NextValid=1∨∃ x∈B6 g,x.Rec.Valid+1=g.NextValid) {c:TCheck} (hnew:newest g.Disk=(c,true)) {m:Nat} (hm1:1≤m∧m≤g.Used.length) (hr:c.Refs=(g.Used.take m).map refOf) (hg:c.NextGen=(m:Int)+1) (hs:1≤c.NextSeq∧c.NextSeq≤g.NextSeq) (hv2:1≤c.NextValid∧c.NextValid≤g.NextValid) (hst:1≤c.Stamp∧c.Stamp≤1000000000) :
  R7 g.Disk=some ({ g with Stamp:=c.Stamp },true):=by
 have hD:=DkS.ofOk hw.ok
 have hl:=hw.len
 have hrg:=hw.rng
 have hsegs:=A3v hw
 have hin:inR (n:Int) 5 11=true:=by unfold inR; simp; omega
 have hsg:U2 g.Disk=some (n:Int):=by
  unfold U2
  rw [hsegs,R2,ob,hin,if_pos rfl]
 have l1:iter (P5 g.Disk (c,true)) (0,[])=some (g.Used.take m):=by
  have:=H8 (step:=P5 g.Disk (c,true)) (fun i=>((i:Int),g.Used.take i)) m (r:=g.Used.take m) ?_ ?_
  ·simpa using this
  ·intro i hi
   have hiu:i<g.Used.length:=by omega
   have hrl:c.Refs.length=m:=by rw [hr]; simp; omega
   have hat:at? c.Refs (i:Int)=some (refOf g.Used[i]):=by
    rw [at?_nat (by omega)]
    congr 1
    simp only [hr,List.getElem_map,List.getElem_take]
   have hgi:=Fs hw hiu
   have hsr:=Rb hw hz (qG hiu)
   have hso:=Pt hw hz (qG hiu)
   unfold P5
   dsimp only
   rw [if_pos (by simp; omega),hat,ob]
   show (P1 g.Disk (g.Used[i]).No).bind _=_
   rw [Fy hD,ob,hgi.1,hsr.1]
   rw [if_pos (by simp [refOf])]
   show (Y0 g.Disk (g.Used[i]).No).bind _=_
   rw [Po hD,ob,hso,app?_ok (by simp; omega) (by simp; omega),ob,B9 (by omega)]
   congr 2
   rw [List.take_add_one,qG hiu]
   rfl
  ·have hrl:c.Refs.length=m:=by rw [hr]; simp; omega
   unfold P5
   dsimp only
   rw [if_neg (by rw [hrl]; simp)]
 have l2:iter (P7 g.Disk (c,true) (n:Int)) (0,g.Used.take m)=some g.Used:=by
  have:=H8 (step:=P7 g.Disk (c,true) (n:Int)) (fun i=>((i:Int),g.Used.take (max m i))) n (r:=g.Used) ?_ ?_
  ·simpa using this
  ·intro i hi
   unfold P7
   dsimp only
   rw [if_pos (by simp; omega),Fy hD,ob,hg]
   by_cases hiu:i<g.Used.length
   ·have hgi:=Fs hw hiu
    have hsr:=Rb hw hz (qG hiu)
    have hso:=Pt hw hz (qG hiu)
    rw [hgi.1] at hso
    rw [hsr.1,hgi.2]
    by_cases him:m≤i
    ·rw [if_pos (by simp; omega),Po hD,ob,hso,app?_ok (by simp; omega) (by simp; omega),ob,B9 (by omega),Nat.max_eq_right him,Nat.max_eq_right (by omega:m≤i+1)]
     congr 2
     rw [List.take_add_one,qG hiu]
     rfl
    ·rw [if_neg (by simp; omega),B9 (by omega),Nat.max_eq_left (by omega),Nat.max_eq_left (by omega)]
   ·rw [A7n hw hz (by omega) hi,if_neg (by simp <;> omega),B9 (by omega),List.take_of_length_le (by omega),List.take_of_length_le (by omega)]
  ·unfold P7
   dsimp only
   rw [if_neg (by simp),List.take_of_length_le (by omega)]
 have l3:=A8k hw hm hv (ng:=c.NextGen) (ns:=c.NextSeq) (nv:=c.NextValid) (by have:=hw.gen; omega) hs hv2
 have lk:=A31 (s:=c.Stamp) hst (by rw [hw.stamp]; omega) (A46 hw hz hm)
 unfold R7
 rw [A3j hD,hnew,ob,Ei hD,hw.ok,ob,if_pos rfl,if_neg (by rw [hw.cache]; simp),hsg,ob,if_neg (by simp; omega),ob,if_neg (by simp),Ek hD,ob,ob,l1,ob,l2,ob,A5v hw,ob,l3,ob]
 dsimp only
 have hgg:({ Disk:=g.Disk,Segs:=(n:Int),Used:=g.Used,NextGen:=g.NextGen,NextSeq:=g.NextSeq,Stamp:=c.Stamp,NextValid:=g.NextValid }:TLog)={ g with Stamp:=c.Stamp }:=by rw [← hw.segs]
 rw [hgg,lk,ob,if_pos rfl]
theorem W.check2 {n:Nat} {S0:Nat→List UInt8} {g:TLog} (hw:W n S0 g) {T:List UInt8} (_:T.length≤128):W n (rsec (poke g.Disk 0 T)) { g with Disk:=poke g.Disk 0 T }:=by
 exact ⟨hw.rng,Ki hw.ok _ _,rfl,by show (poke g.Disk 0 T).Sectors.length=_; rw [X6]; exact hw.sec,hw.segs,hw.used,hw.len,hw.gen,hw.seq,hw.stamp,hw.valid,hw.its,fun _ _=>rfl⟩
theorem Z.check2 {n:Nat} {S0:Nat→List UInt8} {g:TLog} (hw:W n S0 g) (hz:Z n g) {T:List UInt8} (hT:T.length≤128):Z n { g with Disk:=poke g.Disk 0 T }:=by
 refine ⟨hz.ends,hz.good,fun j hj i hi=>?_⟩
 have hs:=hw.sec
 show byteAt (poke g.Disk 0 T) _=_
 rw [Jx hw.ok (by omega),if_neg (by omega)]
 exact hz.bytes j hj i hi
theorem A5j {g:TLog} {x:TItem} {T:List UInt8} (h:g.NextValid=1∨∃ y∈B6 g,y.Rec.Valid+1=g.NextValid) (hi:B6 (appG g x T)=B6 g++[x]):(appG g x T).NextValid=1∨∃ y∈B6 (appG g x T),y.Rec.Valid+1=(appG g x T).NextValid:=by
 rw [hi]
 show (if x.Rec.Valid≥g.NextValid then x.Rec.Valid+1 else g.NextValid)=1∨∃ y∈B6 g++[x],y.Rec.Valid+1=if x.Rec.Valid≥g.NextValid then x.Rec.Valid+1 else g.NextValid
 by_cases c:x.Rec.Valid≥g.NextValid
 ·rw [if_pos c]; exact .inr ⟨x,by simp,rfl⟩
 ·rw [if_neg c]
  rcases h with h | ⟨y,hy,h⟩
  ·exact .inl h
  ·exact .inr ⟨y,List.mem_append_left _ hy,h⟩
def vq (g:TLog):Prop:=g.NextValid=1∨∃ y∈B6 g,y.Rec.Valid+1=g.NextValid
theorem A5e {g:TLog} (h:vq g):vq (openG g):=by
 have hi:B6 (openG g)=B6 g:=by unfold B6 openG; simp
 unfold vq
 rw [hi]
 exact h
theorem A9p {n:Nat} {S0:Nat→List UInt8} {g:TLog} (hw:W n S0 g) (h:vq g) {x:TItem} (hx:x.Seq=g.NextSeq) (hr:RecD x.Rec):vq (appS n g x 1).2:=by
 rcases Pj n g x 1 with ⟨e,_⟩ | ⟨e,_,_⟩ | ⟨T,e,_,_,_,c⟩ | ⟨T,e,_,_,_,c,c'⟩
 ·rw [e]; exact h
 ·rw [e]; exact A5e h
 ·rw [e]; exact A5j h (hw.appG hx hr c).2
 ·rw [e]; exact A5j (A5e h) ((hw.openG (by omega)).appG (x:=x) (T:=T) hx hr c).2
theorem A9q {k:Nat} {g:TLog} (h:5≤k∧k≤8) (e:fmt (k:Int)=(g,true)):vq g:=by
 unfold fmt at e
 rw [if_pos (by unfold inR; simp; omega)] at e
 unfold fmtK at e
 split at e
 ·cases e; exact .inl rfl
 ·cases e
theorem A6f {b:List Int} (hb:b.length≤1048576):∃ g,Cl b=some g∧∃ n,(5≤n∧n≤8)∧W n (first8 n) g∧(B6 g).length≤33∧Z n g∧vq g:=by
 obtain ⟨h,e⟩:=A9o hb
 unfold Cl
 rw [e,ob]
 exact Dr.get (A9c (Q:=fun n g=>Z n g∧vq g) (fun k g hk he _=>⟨Aa6 hk he,A9q hk he⟩) (fun k g x hw _ hq hx hr=>⟨hq.1.appS hw (by omega),A9p hw hq.2 hx hr⟩) (iok0 hb)) fun g i h hg _=>⟨g,rfl,hg⟩
theorem Wt {x:List Int} (_w:x.length≤maxLen∧∀ a∈x,(Lit.int .u8 a).wf=true):Bs x=some true:=by
 unfold Bs
 by_cases hb:(x.length:Int)>1048576
 ·rw [A8p hb]; rfl
 rw [A9v hb,ob,if_neg (by simp)]
 have hx:x.length≤1048576:=by omega
 obtain ⟨g,e1,n,hn,hw,hm,hz,hv⟩:=A6f hx
 have hs:=hw.sec
 have hl:=hw.len
 have hgen:=hw.gen
 have hseq:=hw.seq
 have hval:=hw.valid
 have hck:=hw.check (by omega)
 have hrl:=A34 hw
 have hst:=A0i hw
 have hct:=Ji hck.1 (by omega)
 have hD:=DkS.ofOk hw.ok
 have hwc:=Wm hw.ok hw.cache (by omega) hck.1 (by omega)
 rw [hst] at hwc
 have hwc':writeC g.Disk (checkOf g)=(poke g.Disk 0 (ctOut (checkOf g)),true):=hwc
 have hpo:=Ki hw.ok 0 (ctOut (checkOf g))
 have hpl:=X6 g.Disk 0 (ctOut (checkOf g))
 have hnew:newest (poke g.Disk 0 (ctOut (checkOf g)))=(checkOf g,true):=by
  obtain ⟨r,hr⟩:=Wk hw.ok 0 4 (T:=ctOut (checkOf g)) (by omega) (by omega)
  have hr':secT (poke g.Disk 0 (ctOut (checkOf g))) 0 4=ctOut (checkOf g)++r:=hr
  have r0:goodC (secT (poke g.Disk 0 (ctOut (checkOf g))) 0 4) (checkOf g):=⟨hct,r,hr'⟩
  have r1:=region1 (d:=poke g.Disk 0 (ctOut (checkOf g))) hw.rng (by omega) (fun a h1 h2=>by rw [Ua hw.ok (by omega) (by omega)]; exact Tt hw a h2)
  have l0:=Gw hpo 0 4 (by omega)
  have l1:=Gw hpo 4 4 (by omega)
  unfold newest
  rw [r1.1,Zn (by omega) r1.2,Hi (by omega),Zn (by omega) r0]
  unfold better
  simp only [Bool.not_false,Bool.true_or,Bool.and_self,if_true,Bool.not_true,Bool.false_or,Bool.true_and]
  rw [if_neg (by rw [hst,Qb]; simp)]
 have hold:=A2f hw
 have h0:=Fs hw (show 0<g.Used.length by omega)
 have refs1:(checkOf (log1 n)).Refs=(g.Used.take 1).map refOf:=by
  have:g.Used.take 1=[g.Used[0]]:=by
   rw [List.take_add_one,qG (show 0<g.Used.length by omega)]; rfl
  rw [this]
  show [refOf { No:=0,Gen:=1,End:=(headT.length:Int),Items:=[] }]=[refOf g.Used[0]]
  unfold refOf
  rw [h0.1,h0.2]
  rfl
 have ra:=Ql hw hz (by omega) hv hold (m:=1) (by omega) refs1 rfl ⟨by show (1:Int)≤1; omega,by show (1:Int)≤_; omega⟩ ⟨by show (1:Int)≤1; omega,by show (1:Int)≤_; omega⟩ (by rw [Qb]; omega)
 have hg:({ g with Stamp:=(checkOf (log1 n)).Stamp }:TLog)=g:=by rw [Qb,← hw.stamp]
 rw [hg] at ra
 have hw2:=hw.check2 (T:=ctOut (checkOf g)) (by omega)
 have hz2:=hz.check2 hw (T:=ctOut (checkOf g)) (by omega)
 have rb:=Ql hw2 hz2 (by show (B6 g).length≤100; omega) hv hnew (m:=g.Used.length) (by show _∧_≤g.Used.length; omega) (by show g.Used.map refOf=(g.Used.take g.Used.length).map refOf; rw [List.take_length]) (by show g.NextGen=_; omega) (by show _∧g.NextSeq≤g.NextSeq; exact ⟨by show 1≤g.NextSeq; omega,by omega⟩) (by show _∧g.NextValid≤g.NextValid; exact ⟨by show 1≤g.NextValid; omega,by omega⟩) (by rw [hst]; omega)
 have hloop:iter (T6 g) 0=some (.inr ()):=by
  refine Mp (n:=g.Used.length) (by omega) ?_ ?_
  ·intro i hi
   have hso:=Pt hw hz (qG hi)
   have hil:(g.Used[i]).Items.length≤1048576:=by
    have:(g.Used[i]).Items.length≤(B6 g).length:=by
     unfold B6
     rw [List.length_flatMap]
     exact Mn _ (List.getElem_mem hi)
    omega
   unfold T6
   rw [if_pos (dlt hi),at?_nat hi,ob,Po hD,ob,hso,ob,if_neg (by simp),ob,if_neg (by simp),ob,Xn hil,ob,if_pos rfl,ob,if_neg (by simp),B9 (by omega)]
  ·unfold T6; simp
 have hsN:∀ s∈g.Used,SegN s:=by
  intro s hs
  have:s.Items.length≤(B6 g).length:=by
   unfold B6
   rw [List.length_flatMap]
   exact Mn _ hs
  unfold SegN; omega
 have sl:∀ b:TLog,b.Used=g.Used→b.NextGen=g.NextGen→b.NextSeq=g.NextSeq→b.NextValid=g.NextValid→V8 b g=some true:=by
  intro b b1 b2 b3 b4
  rw [A26 (by rw [b1]; omega) (by rw [b1]; exact hsN)]
  unfold sameLog
  rw [b1,b2,b3,b4,A6o]
  simp
 rw [e1,ob,ra,ob,Qx (by omega),ob,A2s hD hrl,hwc',ob]
 dsimp only
 rw [rb,ob,hloop,ob,Sum.elim_inr]
 dsimp only
 rw [sl g rfl rfl rfl rfl,sl { g with Disk:=poke g.Disk 0 (ctOut (checkOf g)),Stamp:=(checkOf g).Stamp } rfl rfl rfl rfl,hst,hw.stamp]
 rfl
end Go.Proofs.YtldndhdohlfpgaaGreat.V
