/- The pure part. -/
import Derived.Test.YtldndhdohlfpgaaGreatXT
namespace Go.Proofs.YtldndhdohlfpgaaGreat.V
open Go Go.Proofs Go.RowKit
set_option maxRecDepth 100000
theorem ob {α β:Type} (a:α) (f:α→Option β):(some a).bind f=f a:=rfl
theorem K7 {σ ρ:Type} {step:σ→Option (σ ⊕ ρ)} (st:Nat→σ) (n:Nat) {r:ρ} (hs:∀ i,i<n→step (st i)=some (.inl (st (i+1)))) (he:step (st n)=some (.inr r)):iter step (st 0)=some r:=by
 have key:∀ d i,i+d=n→iter step (st i)=some r:=by
  intro d
  induction d with
  | zero => intro i hi; have : i = n := by omega
            subst this; exact D6 he
  | succ d ih=>intro i hi; rw [V0 (hs i (by omega))]; exact ih (i+1) (by omega)
 exact key n 0 (by omega)
theorem B7 {n:Int} (h:-9223372036854775808≤n) (h':n<9223372036854775808):w64 n=n:=by
 unfold w64 IntKind.wrap
 simp [IntKind.bits,IntKind.signed]
 omega
theorem Gi {n:Nat} (h:n<9223372036854775808):w64 (n:Int)=n:=B7 (by omega) (by omega)
theorem C5 {n:Nat} (h:n<9223372036854775807):w64 ((n:Int)+1)=((n+1:Nat):Int):=by rw [B7 (by omega) (by omega)]; omega
theorem Hg (n:Int):IntKind.u8.wrap n=n%256:=by
 unfold IntKind.wrap
 simp [IntKind.bits,IntKind.signed]
theorem Rh (n:Int):IntKind.u32.wrap n=n%4294967296:=by
 unfold IntKind.wrap
 simp [IntKind.bits,IntKind.signed]
theorem at?_nat {α:Type} {l:List α} {i:Nat} (h:i<l.length):at? l (i:Int)=some l[i]:=by
 unfold at?
 rw [if_pos ⟨by omega,by omega⟩]
 simp [h]
theorem bt?_nat {s:List UInt8} {i:Nat} (h:i<s.length):bt? s (i:Int)=some s[i]:=by
 unfold bt?
 rw [if_pos (by omega)]
 simp [h]
theorem cat?_ok {s t:List UInt8} (h:s.length+t.length≤4611686018427387904):cat? s t=some (s++t):=by unfold cat?; rw [if_pos h]
theorem app?_ok {α:Type} {byt:Nat} {l m:List α} (h:l.length+m.length≤1099511627776) (h2:(l.length+m.length)*byt≤140737488355328):app? byt l m=some (l++m):=by unfold app?; rw [if_pos ⟨h,h2⟩]
theorem andv127 {n:Nat} (h':n<9223372036854775808):andv .i64 n 127=((n%128:Nat):Int):=by
 show IntKind.i64.wrap ((BitVec.ofInt 64 (n:Int) &&& BitVec.ofInt 64 127).toNat:Int)=_
 have e1:BitVec.ofInt 64 (n:Int)=BitVec.ofNat 64 n:=by simp
 have e2:BitVec.ofInt 64 (127:Int)=BitVec.ofNat 64 127:=by simp
 rw [e1,e2]
 have e3:(BitVec.ofNat 64 n &&& BitVec.ofNat 64 127).toNat=n%128:=by
  rw [BitVec.toNat_and]
  simp only [BitVec.toNat_ofNat]
  rw [Nat.mod_eq_of_lt (a:=n) (by omega)]
  exact Nat.and_two_pow_sub_one_eq_mod n 7
 rw [e3]
 exact Gi (by omega)
theorem orv128 {n:Nat} (h:n<128):orv .i64 n 128=((n+128:Nat):Int):=by
 show IntKind.i64.wrap ((BitVec.ofInt 64 (n:Int) ||| BitVec.ofInt 64 128).toNat:Int)=_
 have e1:BitVec.ofInt 64 (n:Int)=BitVec.ofNat 64 n:=by simp
 have e2:BitVec.ofInt 64 (128:Int)=BitVec.ofNat 64 128:=by simp
 rw [e1,e2]
 have e3:(BitVec.ofNat 64 n ||| BitVec.ofNat 64 128).toNat=n+128:=by
  rw [BitVec.toNat_or]
  simp only [BitVec.toNat_ofNat]
  rw [Nat.mod_eq_of_lt (a:=n) (by omega)]
  have:=Nat.two_pow_add_eq_or_of_lt (i:=7) (b:=n) (by omega) 1
  rw [Nat.or_comm] at this
  simp at this ⊢
  omega
 rw [e3]
 exact Gi (by omega)
theorem andv1 {n:Nat} (h':n<4294967296):andv .u32 n 1=((n%2:Nat):Int):=by
 show IntKind.u32.wrap ((BitVec.ofInt 32 (n:Int) &&& BitVec.ofInt 32 1).toNat:Int)=_
 have e1:BitVec.ofInt 32 (n:Int)=BitVec.ofNat 32 n:=by simp
 have e2:BitVec.ofInt 32 (1:Int)=BitVec.ofNat 32 1:=by simp
 rw [e1,e2]
 have e3:(BitVec.ofNat 32 n &&& BitVec.ofNat 32 1).toNat=n%2:=by
  rw [BitVec.toNat_and]
  simp only [BitVec.toNat_ofNat]
  rw [Nat.mod_eq_of_lt (a:=n) (by omega)]
  exact Nat.and_two_pow_sub_one_eq_mod n 1
 rw [e3,Rh]
 omega
theorem shrv7 (n:Int):shrv .i64 n 7=n / 128:=by
 unfold shrv
 rw [Int.fdiv_eq_ediv_of_nonneg _ (by decide)]
 rfl
theorem shrv1 (n:Int):shrv .u32 n 1=n / 2:=by
 unfold shrv
 rw [Int.fdiv_eq_ediv_of_nonneg _ (by decide)]
 rfl
def vtl (n:Nat):List Int:=if h:127<n then ((n%128+128:Nat):Int)::vtl (n / 128) else [(n:Int)]
 termination_by n
 decreasing_by omega
theorem Mx {n:Nat} (h:127<n):vtl n=((n%128+128:Nat):Int)::vtl (n / 128):=by rw [vtl,dif_pos h]
theorem Z2 {n:Nat} (h:n≤127):vtl n=[(n:Int)]:=by rw [vtl,dif_neg (by omega)]
theorem A6i:∀ (k n:Nat),n<128 ^ k→(vtl n).length≤k+1
 | 0,n,h=>by rw [Z2 (by simp at h; omega)]; simp
 | k+1,n,h=>by
  by_cases hb:127<n
  ·rw [Mx hb]
   have:=A6i k (n / 128) (by rw [Nat.pow_succ] at h; exact Nat.div_lt_of_lt_mul (by rw [Nat.mul_comm]; exact h))
   simp; omega
  ·rw [Z2 (by omega)]; simp
theorem A77 {n:Nat} (h:n<9223372036854775808):(vtl n).length≤11:=A6i 10 n (Nat.lt_trans h (by decide))
theorem A41 {step:Int×List Int→Option ((Int×List Int) ⊕ (Int×List Int))}
  (hbig:∀ (n:Nat) out,127<n→n<9223372036854775808→out.length≤1000→step ((n:Int),out)=some (.inl (((n / 128:Nat):Int),out++[((n%128+128:Nat):Int)])))
  (hsmall:∀ (n:Int) out,n≤127→step (n,out)=some (.inr (n,out))) :
  ∀ (n:Nat) (out:List Int),n<9223372036854775808→out.length+11≤1000→∃ (m:Nat) (o:List Int),iter step ((n:Int),out)=some ((m:Int),o)∧m≤127∧o++[(m:Int)]=out++vtl n∧o.length≤1000:=by
 have key:∀ (k n:Nat) (out:List Int),n<128 ^ k→n<9223372036854775808→out.length+k≤1000→∃ (m:Nat) (o:List Int),iter step ((n:Int),out)=some ((m:Int),o)∧m≤127∧o++[(m:Int)]=out++vtl n∧o.length≤1000:=by
  intro k
  induction k with
  | zero =>
   intro n out hk hn ho
   have h1:n≤127:=by simp at hk; omega
   exact ⟨n,out,D6 (hsmall n out (by omega)),h1,by rw [Z2 h1],by omega⟩
  | succ k ih =>
   intro n out hk hn ho
   by_cases hb:127<n
   ·obtain ⟨m,o,h1,h2,h3,h4⟩:=ih (n / 128) (out++[((n%128+128:Nat):Int)]) (by rw [Nat.pow_succ] at hk; exact Nat.div_lt_of_lt_mul (by rw [Nat.mul_comm]; exact hk)) (by omega) (by simp; omega)
    refine ⟨m,o,?_,h2,?_,h4⟩
    ·rw [V0 (hbig n out hb hn (by omega))]; exact h1
    ·rw [h3,Mx hb]; simp
   ·exact ⟨n,out,D6 (hsmall n out (by omega)),by omega,by rw [Z2 (by omega)],by omega⟩
 intro n out hn ho
 exact key 11 n out (Nat.lt_trans hn (by decide)) hn ho
def vt (n:Int):List UInt8:=if 0≤n then (vtl n.toNat).map ofI else [ofI (n%256)]
theorem U2 {n:Int} (h:-9223372036854775808≤n) (h':n<9223372036854775808):D9 n=some (vt n):=by
 have hsmall:∀ (n:Int) out,n≤127→X4 (n,out)=some (.inr (n,out)):=by
  intro n out hn
  unfold X4
  simp [show ¬ n>127 by omega]
 unfold D9 vt
 by_cases h0:0≤n
 ·obtain ⟨m,rfl⟩:∃ m:Nat,n=m:=⟨n.toNat,by omega⟩
  obtain ⟨m',o,h1,h2,h3,h4⟩:=A41 (step:=X4) (by
   intro n out hb hn ho
   unfold X4
   have e1:w64 (Int.tmod (n:Int) 128+128)=((n%128+128:Nat):Int):=by
    rw [Int.tmod_eq_emod_of_nonneg (by omega),B7 (by omega) (by omega)]; omega
   have e2:w64 (Int.tdiv (n:Int) 128)=((n / 128:Nat):Int):=by
    rw [Int.tdiv_eq_ediv_of_nonneg (by omega),B7 (by omega) (by omega)]; omega
   have e3:IntKind.u8.wrap ((n%128+128:Nat):Int)=((n%128+128:Nat):Int):=by rw [Hg]; omega
   simp only [show decide ((n:Int)>127)=true from by simp; omega,if_true,e1,e2,e3]
   rw [app?_ok (by simp; omega) (by simp; omega)]
   rfl) hsmall m [] (by omega) (by simp)
  rw [if_pos h0,h1]
  simp only [ob]
  rw [app?_ok (by simp; omega) (by simp; omega)]
  simp only [ob,Hg]
  rw [show ((m':Int)%256)=m' by omega,h3]
  simp
 ·rw [if_neg h0,D6 (hsmall n [] (by omega))]
  simp only [ob]
  rw [app?_ok (by simp) (by simp)]
  simp [Hg]
theorem Ct {n:Int} (h:-9223372036854775808≤n) (h':n<9223372036854775808):F7 n=some (vt n):=by
 have hsmall:∀ (n:Int) out,n≤127→U8 (n,out)=some (.inr (n,out)):=by
  intro n out hn
  unfold U8
  simp [show ¬ n>127 by omega]
 unfold F7 vt
 by_cases h0:0≤n
 ·obtain ⟨m,rfl⟩:∃ m:Nat,n=m:=⟨n.toNat,by omega⟩
  obtain ⟨m',o,h1,h2,h3,h4⟩:=A41 (step:=U8) (by
   intro n out hb hn ho
   unfold U8
   have e1:orv .i64 (andv .i64 (n:Int) 127) 128=((n%128+128:Nat):Int):=by
    rw [andv127 hn,orv128 (by omega)]
   have e2:shrv .i64 (n:Int) 7=((n / 128:Nat):Int):=by rw [shrv7]; omega
   have e3:IntKind.u8.wrap ((n%128+128:Nat):Int)=((n%128+128:Nat):Int):=by rw [Hg]; omega
   simp only [show decide ((n:Int)>127)=true from by simp; omega,if_true,e1,e2,e3]
   rw [app?_ok (by simp; omega) (by simp; omega)]
   rfl) hsmall m [] (by omega) (by simp)
  rw [if_pos h0,h1]
  simp only [ob]
  rw [app?_ok (by simp; omega) (by simp; omega)]
  simp only [ob,Hg]
  rw [show ((m':Int)%256)=m' by omega,h3]
  simp
 ·rw [if_neg h0,D6 (hsmall n [] (by omega))]
  simp only [ob]
  rw [app?_ok (by simp) (by simp)]
  simp [Hg]
theorem K8 {n:Int} (h':n<9223372036854775808):(vt n).length≤11:=by
 unfold vt
 split
 ·simp; exact A77 (by omega)
 ·simp
def sumBit (n:Nat):Nat:=if n%2=1 then (xorv .u32 ((n / 2:Nat):Int) 3558460437).toNat else n / 2
theorem Hq (x y:Int):0≤xorv .u32 x y∧xorv .u32 x y<4294967296:=by
 unfold xorv
 rw [Rh]
 omega
theorem A6v {n:Nat} (h:n<4294967296):sumBit n<4294967296:=by
 unfold sumBit
 have:=Hq ((n / 2:Nat):Int) 3558460437
 split <;> omega
def iterK {α:Type} (f:α→α):Nat→α→α
 | 0,a=>a
 | k+1,a=>f (iterK f k a)
theorem A3t (k:Nat) {n:Nat} (h:n<4294967296):iterK sumBit k n<4294967296:=by
 induction k with
 | zero=>exact h
 | succ k ih=>exact A6v ih
theorem A6x {n:Nat} (h:n<4294967296):iter Y9 ((n:Int),0)=some ((iterK sumBit 8 n:Nat):Int):=by
 refine K7 (fun k=>(((iterK sumBit k n:Nat):Int),(k:Int))) 8 ?_ ?_
 ·intro k hk
  have hl:=A3t k h
  unfold Y9
  have e0:w64 ((k:Int)+1)=((k+1:Nat):Int):=C5 (by omega)
  generalize hm:iterK sumBit k n=m at hl
  have e1:IntKind.u32.wrap (Int.tdiv (m:Int) 2)=((m / 2:Nat):Int):=by
   rw [Rh,Int.tdiv_eq_ediv_of_nonneg (by omega)]; omega
  have e2:Int.tmod (m:Int) 2=((m%2:Nat):Int):=by rw [Int.tmod_eq_emod_of_nonneg (by omega)]; omega
  simp only [show decide ((k:Int)<8)=true from by simp; omega,if_true,e0,e1,e2]
  have e3:iterK sumBit (k+1) n=sumBit m:=by simp [iterK,hm]
  rw [e3]
  unfold sumBit
  by_cases hb:m%2=1
  ·have:=Hq ((m / 2:Nat):Int) 3558460437
   simp only [hb,if_true]
   rw [if_pos (by simp)]
   congr 3
  ·rw [if_neg (by simp; omega),if_neg hb]
 ·unfold Y9
  simp
theorem A71 {n:Nat} (h:n<4294967296):iter Au ((n:Int),0)=some ((iterK sumBit 8 n:Nat):Int):=by
 refine K7 (fun k=>(((iterK sumBit k n:Nat):Int),(k:Int))) 8 ?_ ?_
 ·intro k hk
  have hl:=A3t k h
  unfold Au
  have e0:w64 ((k:Int)+1)=((k+1:Nat):Int):=C5 (by omega)
  generalize hm:iterK sumBit k n=m at hl
  have e1:shrv .u32 (m:Int) 1=((m / 2:Nat):Int):=by rw [shrv1]; omega
  have e2:andv .u32 (m:Int) 1=((m%2:Nat):Int):=andv1 hl
  simp only [show decide ((k:Int)<8)=true from by simp; omega,if_true,e0,e1,e2]
  have e3:iterK sumBit (k+1) n=sumBit m:=by simp [iterK,hm]
  rw [e3]
  unfold sumBit
  by_cases hb:m%2=1
  ·have:=Hq ((m / 2:Nat):Int) 3558460437
   simp only [hb,if_true]
   rw [if_pos (by simp)]
   congr 3
  ·rw [if_neg (by simp; omega),if_neg hb]
 ·unfold Au
  simp
def sumB (n:Nat) (c:UInt8):Nat:=iterK sumBit 8 (xorv .u32 (n:Int) (c.toNat:Int)).toNat
def sumL (n:Nat) (s:List UInt8):Nat:=s.foldl sumB n
theorem A3u {step:List UInt8→Int×Int→Option ((Int×Int) ⊕ Int)} {s:List UInt8} (hs:s.length<9223372036854775807) {n:Nat}
  (h1:∀ (m i:Nat) (h:i<s.length),step s ((m:Int),(i:Int))=some (.inl ((sumB m s[i]:Nat),((i+1:Nat):Int))))
  (h2:∀ m:Nat,step s ((m:Int),(s.length:Int))=some (.inr (m:Int))):iter (step s) ((n:Int),0)=some ((sumL n s:Nat):Int):=by
 refine K7 (fun i=>(((sumL n (s.take i):Nat):Int),(i:Int))) s.length ?_ ?_
 ·intro i hi
  have e:sumL n (s.take (i+1))=sumB (sumL n (s.take i)) s[i]:=by
   unfold sumL
   rw [List.take_succ_eq_append_getElem hi,List.foldl_append]
   rfl
  rw [h1 _ i hi,e]
 ·rw [List.take_length]; exact h2 _
theorem A9e (c:UInt8):IntKind.u32.wrap (c.toNat:Int)=c.toNat:=by
 rw [Rh]
 have:=c.toNat_lt
 omega
theorem A97 {s:List UInt8} (hs:s.length<9223372036854775807) (n:Nat):Cq (n:Int) s=some ((sumL n s:Nat):Int):=by
 unfold Cq
 rw [A3u (step:=Ah) hs]
 ·rfl
 ·intro m i hi
  unfold Ah
  simp only [show decide ((i:Int)<(s.length:Int))=true from by simp; omega,if_true,bt?_nat hi,ob,A9e,C5 (show i<9223372036854775807 by omega)]
  have hx:=Hq (m:Int) ((s[i]).toNat:Int)
  have:xorv .u32 (m:Int) ((s[i]).toNat:Int)=((xorv .u32 (m:Int) ((s[i]).toNat:Int)).toNat:Int):=by omega
  rw [this,A6x (by omega)]
  rfl
 ·intro m
  unfold Ah
  simp
theorem A8h {s:List UInt8} (hs:s.length<9223372036854775807) (n:Nat):Cr (n:Int) s=some ((sumL n s:Nat):Int):=by
 unfold Cr
 rw [A3u (step:=Aq) hs]
 ·rfl
 ·intro m i hi
  unfold Aq
  simp only [show decide ((i:Int)<(s.length:Int))=true from by simp; omega,if_true,bt?_nat hi,ob,A9e,C5 (show i<9223372036854775807 by omega)]
  have hx:=Hq (m:Int) ((s[i]).toNat:Int)
  have:xorv .u32 (m:Int) ((s[i]).toNat:Int)=((xorv .u32 (m:Int) ((s[i]).toNat:Int)).toNat:Int):=by omega
  rw [this,A71 (by omega)]
  rfl
 ·intro m
  unfold Aq
  simp
def four (n:Int):List UInt8:=[IntKind.u8.wrap (shrv .u32 n 24),IntKind.u8.wrap (shrv .u32 n 16),IntKind.u8.wrap (shrv .u32 n 8),IntKind.u8.wrap n].map ofI
def sealL (s:List UInt8):List UInt8:=four (sumL 4294967295 s:Nat)
theorem Ag (s:List UInt8):(sealL s).length=4:=rfl
theorem Yo {s:List UInt8} (hs:s.length<9223372036854775807):Dq s=some ((sumL 4294967295 s:Nat):Int):=by
 unfold Dq
 have:=A97 hs 4294967295
 rw [show (4294967295:Int)=((4294967295:Nat):Int) from rfl,this]; rfl
theorem A5a {s:List UInt8} (hs:s.length<9223372036854775807):Fo s=some ((sumL 4294967295 s:Nat):Int):=by
 unfold Fo
 have:=A8h hs 4294967295
 rw [show (4294967295:Int)=((4294967295:Nat):Int) from rfl,this]; rfl
theorem A25 (n:Int):Co n=some (four n):=rfl
theorem Uv {s:List UInt8} (hs:s.length<9223372036854775807):Cm s=some (sealL s):=by
 unfold Cm
 rw [A5a hs]; rfl
def sealed (s:List UInt8):List UInt8×Bool:=if 20000<s.length then ([],false) else (s++sealL s,true)
theorem Wz {s:List UInt8} (hs:s.length<9223372036854775807):Bx s=some (sealed s):=by
 unfold Bx sealed
 by_cases h:20000<s.length
 ·rw [if_pos (by simp; omega),if_pos h]
 ·rw [if_neg (by simp; omega),if_neg h,Yo hs]
  simp only [ob,A25]
  rw [cat?_ok (by show s.length+4≤_; omega)]
  rfl
theorem A47 {s:List UInt8} (hs:s.length<9223372036854775807):Ej s=some (sealed s):=by
 unfold Ej sealed
 by_cases h:20000<s.length
 ·rw [if_pos (by simp; omega),if_pos h]
 ·rw [if_neg (by simp; omega),if_neg h,Uv hs]
  simp only [ob]
  rw [cat?_ok (by show s.length+4≤_; omega)]
  rfl
def inR (n lo hi:Int):Bool:=decide (lo≤n)&&decide (n≤hi)
theorem K4 (n lo hi:Int):B9 n lo hi=some (inR n lo hi):=by
 unfold B9 inR
 by_cases h:lo≤n <;> simp [h]
theorem P3 (n lo hi:Int):D4 n lo hi=some (inR n lo hi):=by
 unfold D4 inR
 by_cases h:lo≤n <;> simp [h]
def lowB (c:UInt8):Bool:=decide (97≤c.toNat)&&decide (c.toNat≤122)
def wordOk (s:List UInt8):Bool:=s.all lowB&&inR s.length 1 8
theorem Jz {σ ρ:Type} {step:σ→Option (σ ⊕ ρ)} (st:Nat→σ) (n:Nat) (p:Nat→Bool) {bad good:ρ} (h1:∀ i,i<n→p i=true→step (st i)=some (.inl (st (i+1)))) (h2:∀ i,i<n→p i=false→step (st i)=some (.inr bad)) (he:step (st n)=some (.inr good)) :
  iter step (st 0)=some (if (List.range n).all p then good else bad):=by
 have key:∀ d i,i+d=n→iter step (st i)=some (if ((List.range n).drop i).all p then good else bad):=by
  intro d
  induction d with
  | zero =>
   intro i hi
   have:i=n:=by omega
   subst this
   rw [D6 he,List.drop_eq_nil_of_le (by simp)]; simp
  | succ d ih =>
   intro i hi
   have hd:(List.range n).drop i=i::(List.range n).drop (i+1):=by
    rw [List.drop_eq_getElem_cons (by simp; omega)]; simp
   rw [hd]
   cases hp:p i with
   | true=>rw [V0 (h1 i (by omega) hp),ih (i+1) (by omega)]; simp [hp]
   | false=>rw [D6 (h2 i (by omega) hp)]; simp [hp]
 simpa using key n 0 (by omega)
theorem A2m {α:Type} (l:List α) (p:α→Bool):(List.range l.length).all (fun i=>match l[i]? with | some x=>p x | none=>true)=l.all p:=by
 rw [Bool.eq_iff_iff,List.all_eq_true,List.all_eq_true]
 constructor
 ·intro h x hx
  obtain ⟨i,hi⟩:=List.getElem?_of_mem hx
  have:=h i (List.mem_range.2 (qI hi).1)
  simpa [hi] using this
 ·intro h i hi
  have hi':=List.mem_range.1 hi
  rw [qG hi']
  exact h _ (List.getElem_mem hi')
theorem A1t {s:List UInt8} (hs:s.length<9223372036854775807):Bz s=some (wordOk s):=by
 have hl:iter (X0 s) 0=some (if s.all lowB then .inr () else .inl false):=by
  rw [← A2m]
  refine Jz (fun i=>(i:Int)) s.length _ ?_ ?_ ?_
  ·intro i hi hp
   rw [qG hi] at hp
   simp only [lowB,Bool.and_eq_true,decide_eq_true_eq] at hp
   unfold X0
   simp only [show decide ((i:Int)<(s.length:Int))=true from by simp; omega,if_true,bt?_nat hi,ob]
   rw [if_neg (by simp; omega),if_neg (by simp; omega)]
   simp [C5 (show i<9223372036854775807 by omega)]
  ·intro i hi hp
   rw [qG hi] at hp
   simp only [lowB,Bool.and_eq_false_iff,decide_eq_false_iff_not] at hp
   unfold X0
   simp only [show decide ((i:Int)<(s.length:Int))=true from by simp; omega,if_true,bt?_nat hi,ob]
   by_cases h:(s[i]).toNat<97
   ·rw [if_pos (by simp; omega)]; rfl
   ·rw [if_neg (by simp; omega),if_pos (by simp; omega)]; rfl
  ·unfold X0
   simp
 unfold Bz
 rw [hl]
 unfold wordOk
 cases s.all lowB <;> simp [K4]
theorem A23 {s:List UInt8} (hs:s.length<9223372036854775807):Bw s=some (wordOk s):=by
 have hl:iter (X1 s) 0=some (if s.all lowB then .inr () else .inl false):=by
  rw [← A2m]
  refine Jz (fun i=>(i:Int)) s.length _ ?_ ?_ ?_
  ·intro i hi hp
   rw [qG hi] at hp
   simp only [lowB,Bool.and_eq_true,decide_eq_true_eq] at hp
   unfold X1
   simp only [show decide ((i:Int)<(s.length:Int))=true from by simp; omega,if_true,bt?_nat hi,ob]
   rw [if_neg (by simp; omega),if_neg (by simp; omega)]
   simp [C5 (show i<9223372036854775807 by omega)]
  ·intro i hi hp
   rw [qG hi] at hp
   simp only [lowB,Bool.and_eq_false_iff,decide_eq_false_iff_not] at hp
   unfold X1
   simp only [show decide ((i:Int)<(s.length:Int))=true from by simp; omega,if_true,bt?_nat hi,ob]
   by_cases h:(s[i]).toNat<97
   ·rw [if_pos (by simp; omega)]; rfl
   ·rw [if_neg (by simp; omega),if_pos (by simp; omega)]; rfl
  ·unfold X1
   simp
 unfold Bw
 rw [P3,ob,hl]
 unfold wordOk
 cases s.all lowB <;> cases inR (s.length:Int) 1 8 <;> simp
theorem Mh {α:Type} {l:List α} {i:Nat} {x:α}:set' l (i:Int) x=l.set i x:=by simp [set']
theorem at?_eq {α:Type} {l:List α} {i:Nat} {x:α} (h:l[i]?=some x):at? l (i:Int)=some x:=by
 obtain ⟨h1,rfl⟩:=qI h
 exact at?_nat h1
theorem dlt {i:Nat} {n:Nat} (h:i<n):decide ((i:Int)<(n:Int))=true:=by simpa using h
theorem A6n {α:Type} {l:List α} {z:α} {step:Int×List α→Option ((Int×List α) ⊕ List α)} (hl:l.length<9223372036854775807)
  (h1:∀ (i:Nat) (h:i<l.length) (m:List α),m.length=l.length→step ((i:Int),m)=some (.inl (((i+1:Nat):Int),m.set i l[i])))
  (h2:∀ m:List α,step ((l.length:Int),m)=some (.inr m)):iter step (0,List.replicate l.length z)=some l:=by
 have:=K7 (step:=step) (fun i=>((i:Int),l.take i++List.replicate (l.length - i) z)) l.length (r:=l) ?_ ?_
 ·simpa using this
 ·intro i hi
  rw [h1 i hi _ (by simp; omega)]
  have e:(l.take i++List.replicate (l.length - i) z).set i l[i]=l.take (i+1)++List.replicate (l.length - (i+1)) z:=by
   have e1:l.length - i=(l.length - (i+1))+1:=by omega
   have e2:(l.take i).length=i:=by simp; omega
   rw [e1,List.replicate_succ,List.set_append_right _ _ (by omega),e2,Nat.sub_self,List.set_cons_zero,List.take_succ_eq_append_getElem hi,List.append_assoc]
   rfl
  rw [e]
 ·simp [h2]
theorem mk?_ok {α:Type} {byt:Nat} {z:α} {n:Nat} (h:n≤1099511627776) (h2:n*byt≤140737488355328):mk? byt z (n:Int)=some (List.replicate n z):=by
 unfold mk?
 have h3:((n*byt:Nat):Int)≤140737488355328:=by omega
 rw [if_pos ⟨by omega,by rw [Int.mul_comm]; rw [Int.natCast_mul] at h3; exact h3,by omega⟩]; simp
theorem Ju {α ρ:Type} {l:List α} {k:Nat} (hk:k≤l.length) {q:α→Bool} {step:Int→Option (Int ⊕ ρ)} {bad good:ρ} (h1:∀ (i:Nat) (h:i<l.length),i<k→step (i:Int)=if q l[i] then some (.inr bad) else some (.inl ((i+1:Nat):Int))) (h2:step (k:Int)=some (.inr good)):iter step 0=some (if (l.take k).any q then bad else good):=by
 have key:∀ d i,i+d=k→iter step (i:Int)=some (if ((l.take k).drop i).any q then bad else good):=by
  intro d
  induction d with
  | zero => intro i hi; have : i = k := by omega
            subst this; rw [D6 h2,List.drop_eq_nil_of_le (by simp; omega)]; simp
  | succ d ih =>
   intro i hi
   have hd:(l.take k).drop i=l[i]::(l.take k).drop (i+1):=by
    rw [List.drop_eq_getElem_cons (by simp; omega)]; simp
   rw [hd,List.any_cons]
   have hs:=h1 i (by omega) (by omega)
   cases hq:q l[i] with
   | true=>rw [hq] at hs; rw [D6 hs]; simp
   | false=>rw [hq] at hs; rw [V0 hs,ih (i+1) (by omega)]; simp
 simpa using key k 0 (by omega)
theorem Hw {α:Type} {l:List α} {q:α→Bool} {step:Int→Option (Int ⊕ (Int ⊕ Unit))} (h1:∀ (i:Nat) (h:i<l.length),step (i:Int)=if q l[i] then some (.inr (.inl (i:Int))) else some (.inl ((i+1:Nat):Int))) (h2:step (l.length:Int)=some (.inr (.inr ()))):iter step 0=some (match l.findIdx? q with | some i=>.inl (i:Int) | none=>.inr ()):=by
 have key:∀ d i,i+d=l.length→iter step (i:Int)=some (match (l.drop i).findIdx? q with | some j=>.inl ((i+j:Nat):Int) | none=>.inr ()):=by
  intro d
  induction d with
  | zero => intro i hi; have : i = l.length := by omega
            subst this; rw [D6 h2,List.drop_eq_nil_of_le (by simp)]; simp
  | succ d ih =>
   intro i hi
   have hs:=h1 i (by omega)
   rw [List.drop_eq_getElem_cons (by omega),List.findIdx?_cons]
   cases hq:q l[i] with
   | true=>rw [hq] at hs; rw [D6 hs]; simp
   | false =>
    rw [hq] at hs; rw [V0 hs,ih (i+1) (by omega)]
    cases (l.drop (i+1)).findIdx? q with
    | none=>simp
    | some j=>simp; omega
 have:=key l.length 0 (by omega)
 simp only [List.drop_zero,Nat.zero_add] at this
 exact this
def idxI:Option Nat→Int
 | some i=>i
 | none=>-1
theorem Ks {α:Type} {l:List α} {q:α→Bool}:decide (idxI (l.findIdx? q)≥0)=l.any q:=by
 rw [← List.findIdx?_isSome]
 cases l.findIdx? q <;> simp [idxI]
theorem sub?_take {α:Type} {l:List α} {i:Nat} (h:i≤l.length):sub? l 0 (i:Int)=some (l.take i):=by
 unfold sub?
 simp
 omega
structure A34 (x:TRec):Prop where
 sUser:x.User.length≤1048576
 sName:x.Name.length≤1048576
 sText:x.Text.length≤1048576
structure A4n (x:TItem):Prop where
 sRec:A34 x.Rec
theorem Fe {x0:List TSeg} {x1:Int} {q:TSeg→Bool} (hl:x0.length≤9223372036854775806) (hq:∀ y∈x0,U5 y x1=some (q y)):G3 x0 x1=some (idxI (x0.findIdx? q)):=by
 unfold G3
 rw [Hw (l:=x0) (q:=q) ?_ ?_]
 ·cases x0.findIdx? q <;> rfl
 ·intro i hi
  unfold J8
  simp only [dlt hi,if_true,at?_nat hi,ob,hq _ (List.getElem_mem hi),C5 (show i<9223372036854775807 by omega)]
 ·unfold J8
  simp
theorem Ed {x0:List TSeg} {x1:Int} {q:TSeg→Bool} (hl:x0.length≤9223372036854775806) (hq:∀ y∈x0,U5 y x1=some (q y)):F1 x0 x1=some (x0.any q):=by
 unfold F1
 rw [Fe hl hq,ob,Ks]
theorem Es {x0:List (List UInt8)} {q:(List UInt8)→Bool} (hl:x0.length≤9223372036854775806) (hq:∀ y∈x0,X3 y=some (q y)):F8 x0=some (idxI (x0.findIdx? q)):=by
 unfold F8
 rw [Hw (l:=x0) (q:=q) ?_ ?_]
 ·cases x0.findIdx? q <;> rfl
 ·intro i hi
  unfold H9
  simp only [dlt hi,if_true,at?_nat hi,ob,hq _ (List.getElem_mem hi),C5 (show i<9223372036854775807 by omega)]
 ·unfold H9
  simp
theorem De {x0:List (List UInt8)} {q:(List UInt8)→Bool} (hl:x0.length≤9223372036854775806) (hq:∀ y∈x0,X3 y=some (q y)):E9 x0=some (x0.any q):=by
 unfold E9
 rw [Es hl hq,ob,Ks]
theorem Fh {x0:List TWrite} {x1:TDisk} {q:TWrite→Bool} (hl:x0.length≤9223372036854775806) (hq:∀ y∈x0,T6 y x1=some (q y)):G0 x0 x1=some (idxI (x0.findIdx? q)):=by
 unfold G0
 rw [Hw (l:=x0) (q:=q) ?_ ?_]
 ·cases x0.findIdx? q <;> rfl
 ·intro i hi
  unfold J7
  simp only [dlt hi,if_true,at?_nat hi,ob,hq _ (List.getElem_mem hi),C5 (show i<9223372036854775807 by omega)]
 ·unfold J7
  simp
theorem Dv {x0:List TWrite} {x1:TDisk} {q:TWrite→Bool} (hl:x0.length≤9223372036854775806) (hq:∀ y∈x0,T6 y x1=some (q y)):F3 x0 x1=some (x0.any q):=by
 unfold F3
 rw [Fh hl hq,ob,Ks]
theorem Fx {x0:List TSeg} {x1:TSeg} {q:TSeg→Bool} (hl:x0.length≤9223372036854775806) (hq:∀ y∈x0,Z1 y x1=some (q y)):J1 x0 x1=some (idxI (x0.findIdx? q)):=by
 unfold J1
 rw [Hw (l:=x0) (q:=q) ?_ ?_]
 ·cases x0.findIdx? q <;> rfl
 ·intro i hi
  unfold L0
  simp only [dlt hi,if_true,at?_nat hi,ob,hq _ (List.getElem_mem hi),C5 (show i<9223372036854775807 by omega)]
 ·unfold L0
  simp
theorem Fd {x0:List TSeg} {x1:TSeg} {q:TSeg→Bool} (hl:x0.length≤9223372036854775806) (hq:∀ y∈x0,Z1 y x1=some (q y)):E4 x0 x1=some (x0.any q):=by
 unfold E4
 rw [Fx hl hq,ob,Ks]
theorem Fu {x0:List TItem} {x1:TLog} {q:TItem→Bool} (hl:x0.length≤9223372036854775806) (hq:∀ y∈x0,V3 y x1=some (q y)):H7 x0 x1=some (idxI (x0.findIdx? q)):=by
 unfold H7
 rw [Hw (l:=x0) (q:=q) ?_ ?_]
 ·cases x0.findIdx? q <;> rfl
 ·intro i hi
  unfold K5
  simp only [dlt hi,if_true,at?_nat hi,ob,hq _ (List.getElem_mem hi),C5 (show i<9223372036854775807 by omega)]
 ·unfold K5
  simp
theorem Et {x0:List TItem} {x1:TLog} {q:TItem→Bool} (hl:x0.length≤9223372036854775806) (hq:∀ y∈x0,V3 y x1=some (q y)):E1 x0 x1=some (x0.any q):=by
 unfold E1
 rw [Fu hl hq,ob,Ks]
theorem Ff {x0:List TItem} {x1:TItem} {q:TItem→Bool} (hl:x0.length≤9223372036854775806) (hq:∀ y∈x0,V6 y x1=some (q y)):G5 x0 x1=some (idxI (x0.findIdx? q)):=by
 unfold G5
 rw [Hw (l:=x0) (q:=q) ?_ ?_]
 ·cases x0.findIdx? q <;> rfl
 ·intro i hi
  unfold J5
  simp only [dlt hi,if_true,at?_nat hi,ob,hq _ (List.getElem_mem hi),C5 (show i<9223372036854775807 by omega)]
 ·unfold J5
  simp
theorem Dy {x0:List TItem} {x1:TItem} {q:TItem→Bool} (hl:x0.length≤9223372036854775806) (hq:∀ y∈x0,V6 y x1=some (q y)):F4 x0 x1=some (x0.any q):=by
 unfold F4
 rw [Ff hl hq,ob,Ks]
theorem Fq {x0:List TRef} {x1:TRef} {q:TRef→Bool} (hl:x0.length≤9223372036854775806) (hq:∀ y∈x0,V9 y x1=some (q y)):H4 x0 x1=some (idxI (x0.findIdx? q)):=by
 unfold H4
 rw [Hw (l:=x0) (q:=q) ?_ ?_]
 ·cases x0.findIdx? q <;> rfl
 ·intro i hi
  unfold K2
  simp only [dlt hi,if_true,at?_nat hi,ob,hq _ (List.getElem_mem hi),C5 (show i<9223372036854775807 by omega)]
 ·unfold K2
  simp
theorem Ei {x0:List TRef} {x1:TRef} {q:TRef→Bool} (hl:x0.length≤9223372036854775806) (hq:∀ y∈x0,V9 y x1=some (q y)):F5 x0 x1=some (x0.any q):=by
 unfold F5
 rw [Fq hl hq,ob,Ks]
theorem andv255 (a:Int):0≤andv .i64 a 255∧andv .i64 a 255≤255:=by
 have h:andv .i64 a 255=w64 ((BitVec.ofInt 64 a &&& BitVec.ofInt 64 255).toNat:Int):=rfl
 have h2:(BitVec.ofInt 64 a &&& BitVec.ofInt 64 255).toNat≤255:=by
  rw [BitVec.toNat_and]
  exact Nat.le_trans Nat.and_le_right (by decide)
 rw [h,B7 (by omega) (by omega)]
 omega
def IOk (b:List Int) (i:Int):Prop:=0≤i∧i≤(b.length:Int)∧(b.length:Int)≤1048576
def Dr {α:Type} (b:List Int) (o:Option (α×TL01Cur)) (P:α→Prop):Prop:=∃ r i h,o=some (r,⟨b,i,h⟩)∧P r∧IOk b i
theorem Dr.bind {α β:Type} {b:List Int} {o:Option (α×TL01Cur)} {P:α→Prop} {f:α×TL01Cur→Option (β×TL01Cur)} {Q:β→Prop} (h:Dr b o P) (g:∀ r i h,P r→IOk b i→Dr b (f (r,⟨b,i,h⟩)) Q):Dr b (o.bind f) Q:=by
 obtain ⟨r,i,h',rfl,hp,hi⟩:=h
 exact g r i h' hp hi
theorem Dr.ret {α:Type} {b:List Int} {r:α} {i h:Int} {Q:α→Prop} (hi:IOk b i) (hq:Q r):Dr b (some (r,⟨b,i,h⟩)) Q:=⟨r,i,h,rfl,hq,hi⟩
theorem Dr.mono {α:Type} {b:List Int} {o:Option (α×TL01Cur)} {P Q:α→Prop} (h:Dr b o P) (g:∀ r,P r→Q r):Dr b o Q:=by
 obtain ⟨r,i,h',e,hp,hi⟩:=h
 exact ⟨r,i,h',e,g r hp,hi⟩
theorem Mu {b:List Int} {i h:Int} (hi:IOk b i):Dr b (G8 ⟨b,i,h⟩) fun x=>0≤x∧x≤255:=by
 unfold G8
 obtain ⟨h0,h1,h2⟩:=hi
 by_cases hl:i<(b.length:Int)
 ·obtain ⟨n,rfl⟩:∃ n:Nat,i=n:=⟨i.toNat,by omega⟩
  rw [if_pos (by simpa using hl),at?_nat (show n<b.length by omega),ob]
  refine ⟨_,_,_,rfl,andv255 _,?_⟩
  show IOk b (w64 ((n:Int)+1))
  rw [B7 (by omega) (by omega)]; exact ⟨by omega,by omega,h2⟩
 ·rw [if_neg (by simpa using hl)]
  exact ⟨_,_,_,rfl,andv255 _,h0,h1,h2⟩
theorem E3 {b:List Int} {i h:Int} (hi:IOk b i) {n:Int} (hn:1≤n) (hm:n≤4294967296):Dr b (B2 ⟨b,i,h⟩ n) fun x=>0≤x∧x<n:=by
 unfold B2
 rw [if_neg (by simp; omega)]
 have tm:∀ x:Int,0≤x→0≤Int.tmod x n∧Int.tmod x n<n:=fun x hx=>⟨Int.tmod_nonneg _ hx,Int.tmod_lt_of_pos _ (by omega)⟩
 have rm:∀ x:Int,rem? x n=some (Int.tmod x n):=fun x=>by unfold rem?; rw [if_neg (by omega)]
 by_cases hs:n≤256
 ·rw [if_pos (by simpa using hs)]
  refine Dr.bind (Mu hi) fun x i h hx hi=>?_
  rw [rm,ob]
  exact Dr.ret hi (tm x hx.1)
 ·rw [if_neg (by simpa using hs)]
  refine Dr.bind (Mu hi) fun x i h hx hi=>Dr.bind (Mu hi) fun y i h hy hi=>Dr.bind (Mu hi) fun z i h hz hi=>Dr.bind (Mu hi) fun u i h hu hi=>?_
  rw [rm,ob]
  refine Dr.ret hi (tm _ ?_)
  dsimp only
  rw [B7 (n:=x*16777216) (by omega) (by omega),B7 (n:=y*65536) (by omega) (by omega),B7 (n:=z*256) (by omega) (by omega),B7 (n:=x*16777216+y*65536) (by omega) (by omega),B7 (n:=x*16777216+y*65536+z*256) (by omega) (by omega),B7 (by omega) (by omega)]
  omega
theorem Aa1 {b:List Int} {i h:Int} (hi:IOk b i) {n:Int} (hn:1≤n) (hm:n≤4294967296):Dr b (Ai ⟨b,i,h⟩ n) fun _=>True:=by
 unfold Ai
 exact Dr.bind (E3 hi hn hm) fun x i h _ hi=>Dr.ret hi trivial
theorem Qf {b:List Int} {i h:Int} (hi:IOk b i) {l:List Int} (h1:1≤l.length) (h2:l.length≤100):Dr b (L9 ⟨b,i,h⟩ l) fun x=>x∈l:=by
 unfold L9
 refine Dr.bind (E3 hi (by omega) (by omega)) fun x i h hx hi=>?_
 obtain ⟨n,rfl⟩:∃ n:Nat,x=n:=⟨x.toNat,by omega⟩
 rw [at?_nat (by omega),ob]
 exact Dr.ret hi (List.getElem_mem _)
theorem A2q {b:List Int} {i h:Int} (hi:IOk b i) {l:List (List UInt8)} (h1:1≤l.length) (h2:l.length≤100):Dr b (Q9 ⟨b,i,h⟩ l) fun x=>x∈l:=by
 unfold Q9
 refine Dr.bind (E3 hi (by omega) (by omega)) fun x i h hx hi=>?_
 obtain ⟨n,rfl⟩:∃ n:Nat,x=n:=⟨x.toNat,by omega⟩
 rw [at?_nat (by omega),ob]
 exact Dr.ret hi (List.getElem_mem _)
theorem A62 {b:List Int} (_hb:b.length≤1048576):∃ h,U1 b=some ⟨b,0,h⟩:=by
 have key:∃ r,iter (Cd b) (w64 (76001+(b.length:Int)),0)=some r∧True:=by
  refine Cl (fun s:Int×Int=>0≤s.2∧s.2≤(b.length:Int)) (fun s=>((b.length:Int) - s.2).toNat) (fun _=>True) ?_ _ ⟨by simp,by simp⟩
  rintro ⟨x,i⟩ ⟨h0,h1⟩
  simp only at h0 h1
  unfold Cd
  by_cases hl:i<(b.length:Int)
  ·by_cases h4:i<4000
   ·left
    obtain ⟨n,rfl⟩:∃ n:Nat,i=n:=⟨i.toNat,by omega⟩
    rw [if_pos (by simpa using hl),if_pos (by simpa using h4),ob,if_pos rfl]
    show ∃ s',(at? b (n:Int)).bind _=_∧_
    rw [at?_nat (by omega),ob]
    refine ⟨_,rfl,?_,?_⟩
    ·simp only; rw [B7 (by omega) (by omega)]; omega
    ·simp only; rw [B7 (by omega) (by omega)]; omega
   ·right
    rw [if_pos (by simpa using hl),if_neg (by simpa using h4)]
    exact ⟨_,rfl,trivial⟩
  ·right
   rw [if_neg (by simpa using hl)]
   exact ⟨_,rfl,trivial⟩
 obtain ⟨r,e,_⟩:=key
 exact ⟨r,by unfold U1; rw [e,ob]⟩
theorem iok0 {b:List Int} (hb:b.length≤1048576):IOk b 0:=⟨by omega,by omega,by omega⟩
structure RecS (x:TRec):Prop where
 user:x.User.length≤1048576
 name:x.Name.length≤1048576
 text:x.Text.length≤1048576
def recOk (x:TRec):Bool:=inR x.Kind 1 5&&inR x.Valid 1 9999 &&
 (if x.Kind=1 then wordOk x.User&&wordOk x.Name&&inR x.Next 1 10000 else x.User==[]&&x.Name==[]&&x.Next==0) &&
 (if x.Kind=3∨x.Kind=4∨x.Kind=5 then inR x.Uid 1 9999 else x.Uid==0) &&
 (if x.Kind=3∨x.Kind=4 then inR x.Flags 0 7 else x.Flags==0) &&
 (if x.Kind=3 then decide (x.Text.length≤100) else x.Text==[])
theorem kinds {n:Int}:inR n 1 5=true→n=1∨n=2∨n=3∨n=4∨n=5:=by
 unfold inR
 intro h
 simp only [Bool.and_eq_true,decide_eq_true_eq] at h
 omega
theorem A8o {n:Int}:inR n 1 5=false→n≠1∧n≠2∧n≠3∧n≠4∧n≠5:=by
 unfold inR
 intro h
 simp only [Bool.and_eq_false_iff,decide_eq_false_iff_not] at h
 omega
theorem iteS {α:Type} {p:Prop} [Decidable p] {a b:α}:(if p then some a else some b)=some (if p then a else b):=by split <;> rfl
theorem A0k {x:TRec} (h:RecS x):Dh x=some (recOk x):=by
 have h1:=A1t (s:=x.User) (by have:=h.user; omega)
 have h2:=A1t (s:=x.Name) (by have:=h.name; omega)
 unfold Dh recOk
 simp only [K4,h1,h2,ob]
 cases hk:inR x.Kind 1 5 with
 | false=>simp
 | true =>
  cases hv:inR x.Valid 1 9999 with
  | false=>simp
  | true =>
   rcases kinds hk with k | k | k | k | k <;> simp [k,iteS] <;> grind
theorem Qe {x:TRec} (h:RecS x):Dc x=some (recOk x):=by
 have h1:=A23 (s:=x.User) (by have:=h.user; omega)
 have h2:=A23 (s:=x.Name) (by have:=h.name; omega)
 unfold Dc recOk
 simp only [P3,h1,h2,ob]
 cases hv:inR x.Valid 1 9999 with
 | false=>simp
 | true =>
  cases hk:inR x.Kind 1 5 with
  | false =>
   obtain ⟨k1,k2,k3,k4,k5⟩:=A8o hk
   simp [k1,k2,k3,k4,k5]
  | true =>
   rcases kinds hk with k | k | k | k | k <;> simp [k,iteS] <;> grind
def itemEq (a b:TItem):Bool:=(a.Seq==b.Seq&&(a.Rec.Kind==b.Rec.Kind&&(a.Rec.Valid==b.Rec.Valid&&(a.Rec.Uid==b.Rec.Uid&&(a.Rec.Next==b.Rec.Next&&(a.Rec.Flags==b.Rec.Flags&&(a.Rec.User==b.Rec.User&&(a.Rec.Name==b.Rec.Name&&(a.Rec.Text==b.Rec.Text&&true)))))))))
theorem Zu {a b:TItem}:itemEq a b=true↔a=b:=by
 unfold itemEq
 constructor
 ·intro h
  simp only [Bool.and_eq_true,beq_iff_eq,and_true] at h
  obtain ⟨h0,h1,h2,h3,h4,h5,h6,h7,h8⟩:=h
  obtain ⟨s,⟨_,_,_,_,_,_,_,_⟩⟩:=a
  obtain ⟨s',⟨_,_,_,_,_,_,_,_⟩⟩:=b
  simp_all
 ·rintro rfl; simp
theorem RecS.of {x:TRec} (h:A34 x):RecS x:=⟨h.sUser,h.sName,h.sText⟩
def SzI (l:List TItem):Prop:=l.length≤1048576∧∀ y∈l,A4n y
def clash (x y:TItem):Bool:=y.Seq==x.Seq&&!itemEq y x
def itOk (l:List TItem) (i:Nat):Bool:=match l[i]? with
 | some x=>inR x.Seq 1 1000000000&&recOk x.Rec&&!(l.take i).any (clash x)
 | none=>true
def itemsOk (l:List TItem):Bool:=(List.range l.length).all (itOk l)&&decide (l.length≤200)
theorem A2r {l:List TItem} (h:itemsOk l=true):l.length≤200∧(∀ x∈l,(1≤x.Seq∧x.Seq≤1000000000)∧recOk x.Rec=true)∧∀ x∈l,∀ y∈l,x.Seq=y.Seq→x=y:=by
 unfold itemsOk at h
 simp only [Bool.and_eq_true,decide_eq_true_eq,List.all_eq_true] at h
 obtain ⟨h1,h2⟩:=h
 have key:∀ i (hi:i<l.length),(1≤l[i].Seq∧l[i].Seq≤1000000000)∧recOk l[i].Rec=true∧∀ j (hj:j<i),l[j].Seq=l[i].Seq→l[j]=l[i]:=by
  intro i hi
  have h3:=h1 i (List.mem_range.2 hi)
  unfold itOk at h3
  rw [qG hi] at h3
  simp only [Bool.and_eq_true,inR,decide_eq_true_eq,Bool.not_eq_true',List.any_eq_false] at h3
  refine ⟨h3.1.1,h3.1.2,?_⟩
  intro j hj he
  have h4:=h3.2 l[j] (qM (i:=j) (by rw [List.getElem?_take_of_lt hj,qG (by omega)]))
  unfold clash at h4
  rw [he] at h4
  simp only [beq_self_eq_true,Bool.true_and,Bool.not_eq_true',Bool.not_eq_false] at h4
  exact Zu.1 h4
 refine ⟨h2,?_,?_⟩
 ·intro x hx
  obtain ⟨i,hi,rfl⟩:=List.mem_iff_getElem.1 hx
  exact ⟨(key i hi).1,(key i hi).2.1⟩
 ·intro x hx y hy he
  obtain ⟨i,hi,rfl⟩:=List.mem_iff_getElem.1 hx
  obtain ⟨j,hj,rfl⟩:=List.mem_iff_getElem.1 hy
  rcases Nat.lt_trichotomy i j with h | h | h
  ·exact (key j hj).2.2 i h he
  ·subst h; rfl
  ·exact ((key i hi).2.2 j h he.symm).symm
theorem A9z {l:List TItem} (h:SzI l):Ml l=some (itemsOk l):=by
 have hlen:=h.1
 have hl:iter (Dl l) 0=some (if (List.range l.length).all (itOk l) then .inr () else .inl false):=by
  refine Jz (fun i=>(i:Int)) l.length _ ?_ ?_ ?_
  all_goals first
   | (unfold Dl; simp; done)
   | skip
  all_goals
   intro i hi hp
   have inner:iter (Dd l (i:Int)) 0=some (if (l.take i).any (clash l[i]) then .inl false else .inr ()):=by
    refine Ju (by omega) ?_ ?_
    ·intro j hj hji
     unfold Dd
     simp only [dlt hji,if_true,at?_nat hj,at?_nat hi,ob,C5 (show j<9223372036854775807 by omega)]
     show ((if (l[j].Seq==l[i].Seq)=true then (if (!itemEq l[j] l[i])=true then some true else some false) else some false):Option Bool).bind _=_
     unfold clash
     cases l[j].Seq==l[i].Seq <;> cases itemEq l[j] l[i] <;> simp
    ·unfold Dd
     simp
   have hr:=A0k (RecS.of (h.2 _ (List.getElem_mem hi)).sRec)
   unfold itOk at hp
   rw [qG hi] at hp
   dsimp only at hp
   unfold Dl
   simp only [dlt hi,if_true,at?_nat hi,ob,K4,inner,hr]
   generalize inR l[i].Seq 1 1000000000=b1 at hp ⊢
   generalize recOk l[i].Rec=b2 at hp ⊢
   generalize (l.take i).any (clash l[i])=b4 at hp ⊢
   revert hp
   cases b1 <;> cases b2 <;> cases b4 <;> simp [C5 (show i<9223372036854775807 by omega)]
 unfold Ml itemsOk
 rw [hl]
 cases (List.range l.length).all (itOk l)
 ·simp
 ·simp; omega
theorem A2x {l:List TItem} (h:SzI l):Cn l=some (itemsOk l):=by
 have hlen:=h.1
 have hl:iter (Ay l) 0=some (if (List.range l.length).all (itOk l) then .inr () else .inl false):=by
  refine Jz (fun i=>(i:Int)) l.length _ ?_ ?_ ?_
  all_goals first
   | (unfold Ay; simp; done)
   | skip
  all_goals
   intro i hi hp
   have hc:=Dy (x0:=l.take i) (x1:=l[i]) (q:=clash l[i]) (by simp; omega) (fun y _=>by
    show (if (y.Seq==l[i].Seq)=true then some (!itemEq y l[i]) else some false)=_
    unfold clash
    cases y.Seq==l[i].Seq <;> simp)
   have hr:=Qe (RecS.of (h.2 _ (List.getElem_mem hi)).sRec)
   unfold itOk at hp
   rw [qG hi] at hp
   dsimp only at hp
   unfold Ay
   simp only [dlt hi,if_true,at?_nat hi,ob,P3,hc,hr,sub?_take (Nat.le_of_lt hi)]
   generalize inR l[i].Seq 1 1000000000=b1 at hp ⊢
   generalize recOk l[i].Rec=b2 at hp ⊢
   generalize (l.take i).any (clash l[i])=b4 at hp ⊢
   revert hp
   cases b1 <;> cases b2 <;> cases b4 <;> simp [C5 (show i<9223372036854775807 by omega)]
 unfold Cn itemsOk
 rw [hl]
 by_cases h2:l.length≤200
 ·rw [if_neg (by simp; omega)]
  cases (List.range l.length).all (itOk l) <;> simp [h2]
 ·rw [if_pos (by simp; omega)]
  simp [h2]
def pk (p:TItem→Bool) (lt:TItem→TItem→Bool) (l:List TItem):Nat→Option TItem
 | 0=>none
 | i+1=>match l[i]? with
  | some x=>if p x&&(match pk p lt l i with | none=>true | some b=>lt b x) then some x else pk p lt l i
  | none=>pk p lt l i
def pick (p:TItem→Bool) (lt:TItem→TItem→Bool) (l:List TItem):Option TItem:=pk p lt l l.length
theorem A4p {x:TRec} (h:recOk x=true):1≤x.Valid∧x.Valid≤9999:=by
 unfold recOk at h
 simp only [Bool.and_eq_true] at h
 have:=h.1.1.1.1.2
 simpa [inR] using this
theorem A8j {β:Type} {n byt:Nat} {f:Nat→β} {step:Int×List β→Option ((Int×List β) ⊕ List β)} (hl:n≤1048576) (hb:byt≤1000000)
  (h1:∀ (i:Nat) (o:List β),i<n→step ((i:Int),o)=(app? byt o [f i]).bind fun v=>some (.inl (((i+1:Nat):Int),v)))
  (h2:∀ o,step ((n:Int),o)=some (.inr o)):iter step (0,[])=some ((List.range n).map f):=by
 refine K7 (step:=step) (fun i=>((i:Int),(List.range i).map f)) n ?_ (h2 _)
 intro i hi
 have hm:(i+1)*byt≤1048576*1000000:=Nat.mul_le_mul (by omega) hb
 rw [h1 i _ hi,app?_ok (by simp; omega) (by simp; omega),List.range_succ,List.map_append]
 rfl
theorem A4h {l:List TItem}:itemsOk l=true↔l.length≤200∧(∀ x∈l,(1≤x.Seq∧x.Seq≤1000000000)∧recOk x.Rec=true)∧∀ x∈l,∀ y∈l,x.Seq=y.Seq→x=y:=by
 refine ⟨A2r,fun ⟨h1,h2,h3⟩=>?_⟩
 unfold itemsOk
 simp only [Bool.and_eq_true,decide_eq_true_eq,List.all_eq_true]
 refine ⟨fun i hi=>?_,h1⟩
 have hi:=List.mem_range.1 hi
 unfold itOk
 rw [qG hi]
 have hx:=h2 l[i] (List.getElem_mem hi)
 simp only [Bool.and_eq_true,inR,decide_eq_true_eq,Bool.not_eq_true',List.any_eq_false]
 refine ⟨⟨hx.1,hx.2⟩,fun y hy=>?_⟩
 have hy:=List.mem_of_mem_take hy
 unfold clash
 by_cases he:y.Seq=l[i].Seq
 ·have:=h3 y hy l[i] (List.getElem_mem hi) he
  simp [this,Zu.2 rfl]
 ·simp [he]
structure RecD (r:TRec):Prop where
 ok:recOk r=true
 valid:r.Valid≤3
 next:r.Next≤6
 uid:r.Uid≤5
 user:r.User.length≤3
 name:r.Name.length≤5
 text:r.Text.length≤28
theorem Te {k v u n f:Int} {us nm tx:List UInt8} (h:recOk { Kind:=k,Valid:=v,Uid:=u,Next:=n,Flags:=f,User:=us,Name:=nm,Text:=tx }=true) (h1:v≤3) (h2:n≤6) (h3:u≤5) (h4:us.length≤3) (h5:nm.length≤5) (h6:tx.length≤28):RecD { Kind:=k,Valid:=v,Uid:=u,Next:=n,Flags:=f,User:=us,Name:=nm,Text:=tx }:=⟨h,h1,h2,h3,h4,h5,h6⟩
theorem A9w {b:List Int} {i h:Int} (hi:IOk b i):Dr b (Ap ⟨b,i,h⟩) fun x=>x.length≤28:=by
 unfold Ap
 refine Dr.bind (A2q hi (by decide) (by decide)) fun x i h hx hi=>Dr.ret hi ?_
 simp only [List.mem_cons,List.not_mem_nil,or_false] at hx
 rcases hx with rfl | rfl | rfl | rfl | rfl <;> simp
theorem w64s {x:Int} (h:0≤x) (h':x≤1000000000):w64 (1+x)=1+x:=B7 (by omega) (by omega)
theorem Aal {b:List Int} {i h:Int} (hi:IOk b i):Dr b (Bj ⟨b,i,h⟩) RecD:=by
 unfold Bj
 refine Dr.bind (Qf hi (by decide) (by decide)) fun k i h hk hi=>Dr.bind (E3 hi (by omega) (by omega)) fun v i h hv hi=>?_
 have hk':k=1∨k=2∨k=3∨k=4∨k=5:=by
  simp only [List.mem_cons,List.not_mem_nil,or_false] at hk; omega
 have hv1:w64 (1+v)=1+v:=w64s hv.1 (by omega)
 have iv:inR (1+v) 1 9999=true:=by unfold inR; simp; omega
 rcases hk' with rfl | rfl | rfl | rfl | rfl
 ·show Dr b (Option.bind _ _) _
  refine Dr.bind (A2q hi (by decide) (by decide)) fun us i h hus hi=>Dr.bind (A2q hi (by decide) (by decide)) fun nm i h hnm hi=>Dr.bind (E3 hi (by omega) (by omega)) fun n i h hn hi=>Dr.ret hi ?_
  dsimp only
  have hw:wordOk us=true∧us.length≤3:=by
   simp only [List.mem_cons,List.not_mem_nil,or_false] at hus
   rcases hus with rfl | rfl <;> decide
  have hw2:wordOk nm=true∧nm.length≤5:=by
   simp only [List.mem_cons,List.not_mem_nil,or_false] at hnm
   rcases hnm with rfl | rfl <;> decide
  rw [hv1,w64s hn.1 (by omega)]
  refine Te ?_ (by omega) (by omega) (by omega) hw.2 hw2.2 (by simp)
  unfold recOk
  simp [hw.1,hw2.1,inR]; omega
 ·refine Dr.ret hi ?_
  dsimp only
  rw [hv1]
  refine Te ?_ (by omega) (by omega) (by omega) (by simp) (by simp) (by simp)
  unfold recOk
  simp [iv]; decide
 ·show Dr b (Option.bind _ _) _
  refine Dr.bind (E3 hi (by omega) (by omega)) fun u i h hu hi=>Dr.bind (E3 hi (by omega) (by omega)) fun f i h hf hi=>Dr.bind (A9w hi) fun tx i h htx hi=>Dr.ret hi ?_
  dsimp only
  rw [hv1,w64s hu.1 (by omega)]
  refine Te ?_ (by omega) (by omega) (by omega) (by simp) (by simp) htx
  have i2:inR (1+u) 1 9999=true:=by unfold inR; simp; omega
  have i3:inR f 0 7=true:=by unfold inR; simp; omega
  have i4:inR 3 1 5=true:=by decide
  unfold recOk
  simp [iv,i2,i3,i4]; omega
 ·show Dr b (Option.bind _ _) _
  refine Dr.bind (E3 hi (by omega) (by omega)) fun u i h hu hi=>Dr.bind (E3 hi (by omega) (by omega)) fun f i h hf hi=>Dr.ret hi ?_
  dsimp only
  rw [hv1,w64s hu.1 (by omega)]
  refine Te ?_ (by omega) (by omega) (by omega) (by simp) (by simp) (by simp)
  have i2:inR (1+u) 1 9999=true:=by unfold inR; simp; omega
  have i3:inR f 0 7=true:=by unfold inR; simp; omega
  have i4:inR 4 1 5=true:=by decide
  unfold recOk
  simp [iv,i2,i3,i4]
 ·show Dr b (Option.bind _ _) _
  refine Dr.bind (E3 hi (by omega) (by omega)) fun u i h hu hi=>Dr.ret hi ?_
  dsimp only
  rw [hv1,w64s hu.1 (by omega)]
  refine Te ?_ (by omega) (by omega) (by omega) (by simp) (by simp) (by simp)
  have i2:inR (1+u) 1 9999=true:=by unfold inR; simp; omega
  have i4:inR 5 1 5=true:=by decide
  unfold recOk
  simp [iv,i2,i4]
theorem RecD.sz {r:TRec} (h:RecD r):A34 r:=⟨by have:=h.user; omega,by have:=h.name; omega,by have:=h.text; omega⟩
theorem Pe {ρ:Type} {n:Nat} {step:Int→Option (Int ⊕ (ρ ⊕ Unit))} (hn:n≤1048576) (h1:∀ i:Nat,i<n→step (i:Int)=some (.inl ((i+1:Nat):Int))) (h2:step (n:Int)=some (.inr (.inr ()))):iter step 0=some (.inr ()):=by
 exact K7 (step:=step) (fun i=>(i:Int)) n (fun i hi=>h1 i hi) h2
theorem Aah {b:List Int} (h:¬ (b.length:Int)>1048576):Ev b=some false:=by unfold Ev; simp; omega
theorem A9q {b:List Int} (h:(b.length:Int)>1048576):Ev b=some true:=by unfold Ev; simp; omega
theorem sub?_from {α:Type} {l:List α} {n:Nat} (h:n≤l.length):sub? l (n:Int) (l.length:Int)=some (l.drop n):=by
 unfold sub?
 rw [if_pos ⟨by omega,by omega,by omega⟩]
 simp
theorem A29 {n:Nat} (hn:n≤1048576) (c:Int):L2 (n:Int) c=some ((List.replicate n c).map ofI):=by
 unfold L2
 rw [mk?_ok (by omega) (by omega),ob]
 have h:=A6n (l:=List.replicate n c) (z:=(0:Int)) (step:=P1 (n:Int) c) (by simp; omega) ?_ ?_
 ·rw [List.length_replicate] at h
  rw [h]; rfl
 ·intro i hi o ho
  rw [List.length_replicate] at hi ho
  have hio:i<o.length:=by omega
  unfold P1
  simp only [dlt hi,if_true,at?_nat hio,ob,C5 (show i<9223372036854775807 by omega),Mh,List.getElem_replicate]
 ·intro o
  unfold P1
  simp
theorem tmodB {x n:Int} (h:0≤x) (hn:0<n):0≤Int.tmod x n∧Int.tmod x n<n:=⟨Int.tmod_nonneg _ h,Int.tmod_lt_of_pos _ hn⟩
theorem at?_in {α:Type} {l:List α} {i:Int} (h:0≤i∧i<(l.length:Int)):∃ x,at? l i=some x∧x∈l:=by
 obtain ⟨n,rfl⟩:∃ n:Nat,i=n:=⟨i.toNat,by omega⟩
 exact ⟨_,at?_nat (by omega),List.getElem_mem _⟩
def hit (a:Int) (l:List TWrite):Option TWrite:=l.foldl (fun o w=>if w.At==a then some w else o) none
theorem Pz (a:Int) (l:List TWrite) (w:TWrite):hit a (l++[w])=if w.At==a then some w else hit a l:=by
 unfold hit
 rw [List.foldl_append]; rfl
theorem A67 {a:Int} {l:List TWrite} {w:TWrite} (h:hit a l=some w):w∈l:=by
 have key:∀ (l:List TWrite) (o:Option TWrite),l.foldl (fun o w=>if w.At==a then some w else o) o=some w→w∈l∨o=some w:=by
  intro l
  induction l with
  | nil=>intro o h; exact .inr h
  | cons x l ih =>
   intro o h
   rcases ih _ h with h1 | h1
   ·exact .inl (List.mem_cons_of_mem _ h1)
   ·dsimp only at h1
    split at h1
    ·cases h1; exact .inl List.mem_cons_self
    ·exact .inr h1
 rcases key l none h with h1 | h1
 ·exact h1
 ·cases h1
def secV (o:Option TWrite) (z:List UInt8):List UInt8:=match o with | some w=>w.Text | none=>z
def rsec (d:TDisk) (a:Nat):List UInt8:=secV (hit (a:Int) d.Cache) ((d.Sectors[a]?).getD [])
structure DkS (d:TDisk):Prop where
 sec:d.Sectors.length≤1048576∧∀ y∈d.Sectors,y.length≤1048576
 cache:d.Cache.length≤1048576∧∀ y∈d.Cache,y.Text.length≤1048576
theorem A06 {d:TDisk} (h:DkS d) (a:Nat):(rsec d a).length≤1048576:=by
 unfold rsec secV
 split
 ·rename_i w hw; exact h.cache.2 w (A67 hw)
 ·by_cases ha:a<d.Sectors.length
  ·rw [qG ha]; exact h.sec.2 _ (List.getElem_mem ha)
  ·rw [List.getElem?_eq_none (by omega)]; simp
def readS (d:TDisk) (x:Int):List UInt8×Bool:=if inR x 0 ((d.Sectors.length:Int) - 1) then (rsec d x.toNat,true) else ([],false)
theorem Bs {d:TDisk} (h:DkS d) (x:Int):J6 d x=some (readS d x):=by
 have hs:=h.sec.1
 have hc:=h.cache.1
 unfold J6 readS
 rw [B7 (n:=(d.Sectors.length:Int) - 1) (by omega) (by omega),K4,ob]
 cases hr:inR x 0 ((d.Sectors.length:Int) - 1) with
 | false=>rfl
 | true =>
  unfold inR at hr
  simp only [Bool.and_eq_true,decide_eq_true_eq] at hr
  obtain ⟨a,rfl⟩:∃ a:Nat,x=a:=⟨x.toNat,by omega⟩
  have ha:a<d.Sectors.length:=by omega
  have key:∀ n:Nat,n≤d.Cache.length→iter (Q1 d (a:Int)) ((n:Int) - 1)=some (match hit (a:Int) (d.Cache.take n) with | some w=>.inl (w.Text,true) | none=>.inr ()):=by
   intro n
   induction n with
   | zero =>
    intro _
    refine D6 ?_
    unfold Q1
    simp [hit]
   | succ n ih =>
    intro hn
    have hn':n<d.Cache.length:=by omega
    have e0:(((n+1:Nat):Int) - 1)=(n:Int):=by omega
    rw [e0,List.take_succ_eq_append_getElem hn',Pz]
    by_cases c:d.Cache[n].At=(a:Int)
    ·refine D6 ?_
     unfold Q1
     rw [if_pos (by simp),at?_nat hn',ob,if_pos (by simpa using c),if_pos (by simpa using c)]
     rfl
    ·rw [V0 (s':=((n:Int) - 1)),ih (by omega),if_neg (by simpa using c)]
     unfold Q1
     rw [if_pos (by simp),at?_nat hn',ob,if_neg (by simpa using c),B7 (by omega) (by omega)]
  rw [if_pos rfl,B7 (n:=(d.Cache.length:Int) - 1) (by omega) (by omega),key _ (Nat.le_refl _),List.take_length,Int.toNat_natCast]
  unfold rsec secV
  cases hit (a:Int) d.Cache with
  | some w=>rfl
  | none=>simp [at?_nat ha,ha]
theorem Gs {d:TDisk} (h:DkS d) (x:Int):U0 d x=some (readS d x):=by
 have hs:=h.sec.1
 have hc:=h.cache.1
 unfold U0 readS
 rw [B7 (n:=(d.Sectors.length:Int) - 1) (by omega) (by omega),P3,ob]
 cases hr:inR x 0 ((d.Sectors.length:Int) - 1) with
 | false=>rfl
 | true =>
  unfold inR at hr
  simp only [Bool.and_eq_true,decide_eq_true_eq] at hr
  obtain ⟨a,rfl⟩:∃ a:Nat,x=a:=⟨x.toNat,by omega⟩
  have ha:a<d.Sectors.length:=by omega
  have key:=K7 (step:=U4 d (a:Int)) (fun i=>(secV (hit (a:Int) (d.Cache.take i)) d.Sectors[a],(i:Int))) d.Cache.length (r:=secV (hit (a:Int) d.Cache) d.Sectors[a]) ?_ ?_
  ·rw [if_pos rfl,at?_nat ha,ob]
   rw [show ((secV (hit (a:Int) (d.Cache.take 0)) d.Sectors[a],((0:Nat):Int)):List UInt8×Int)=(d.Sectors[a],0) from rfl] at key
   rw [key,ob,if_pos rfl,Int.toNat_natCast]
   unfold rsec
   rw [qG ha]; rfl
  ·intro i hi
   rw [List.take_succ_eq_append_getElem hi,Pz]
   unfold U4
   rw [if_pos (dlt hi),at?_nat hi,ob]
   by_cases c:d.Cache[i].At=(a:Int)
   ·rw [if_pos (by simpa using c),if_pos (by simpa using c),C5 (by omega)]; rfl
   ·rw [if_neg (by simpa using c),if_neg (by simpa using c),C5 (by omega)]
  ·unfold U4
   rw [List.take_length]; simp
def secT (d:TDisk) (f:Nat):Nat→List UInt8
 | 0=>[]
 | i+1=>secT d f i++rsec d (f+i)
theorem Tf {d:TDisk} (h:DkS d) (f:Nat):∀ n,(secT d f n).length≤1048576*n
 | 0=>by simp [secT]
 | n+1=>by
  have h1:=Tf h f n
  have h2:=A06 h (f+n)
  rw [secT,List.length_append]; omega
def sectorT (d:TDisk) (f n:Nat):List UInt8×Bool:=if f+n≤d.Sectors.length then (secT d f n,true) else ([],false)
theorem Mm {d:TDisk} {a:Nat} (h:a<d.Sectors.length):readS d (a:Int)=(rsec d a,true):=by
 unfold readS
 rw [if_pos (by unfold inR; simp; omega)]; rfl
theorem Pf {d:TDisk} {a:Nat} (h:d.Sectors.length≤a):readS d (a:Int)=([],false):=by
 unfold readS
 rw [if_neg (by unfold inR; simp; omega)]
theorem Wx {d:TDisk} (h:DkS d) {f n:Nat} (h0:0<n) {step:List UInt8×Int→Option ((List UInt8×Int) ⊕ ((List UInt8×Bool) ⊕ List UInt8))}
  (h1:∀ (i:Nat) (o:List UInt8),i<n→f+i<d.Sectors.length→o.length≤1048576*i→step (o,(i:Int))=some (.inl (o++rsec d (f+i),((i+1:Nat):Int))))
  (h2:∀ (i:Nat) (o:List UInt8),i<n→d.Sectors.length≤f+i→step (o,(i:Int))=some (.inr (.inl ([],false))))
  (h3:∀ o,step (o,(n:Int))=some (.inr (.inr o))):(iter step ([],0)).bind (Sum.elim (fun r=>some r) (fun y=>some (y,true)))=some (sectorT d f n):=by
 unfold sectorT
 by_cases c:f+n≤d.Sectors.length
 ·have:=K7 (step:=step) (fun i=>(secT d f i,(i:Int))) n (r:=.inr (secT d f n)) ?_ (h3 _)
  ·rw [show ((secT d f 0,((0:Nat):Int)):List UInt8×Int)=([],0) from rfl] at this
   rw [this,if_pos c]; rfl
  ·intro i hi
   rw [h1 i _ hi (by omega) (Tf h f i)]; rfl
 ·have:=K7 (step:=step) (fun i=>(secT d f i,(i:Int))) (d.Sectors.length - f) (r:=.inl ([],false)) ?_ (h2 _ _ (by omega) (by omega))
  ·rw [show ((secT d f 0,((0:Nat):Int)):List UInt8×Int)=([],0) from rfl] at this
   rw [this,if_neg c]; rfl
  ·intro i hi
   rw [h1 i _ (by omega) (by omega) (Tf h f i)]; rfl
theorem Xl {d:TDisk} (h:DkS d) {f n:Nat} (hf:f≤1000) (h0:0<n) (hn:n≤100):Fm d (f:Int) (n:Int)=some (sectorT d f n):=by
 unfold Fm
 rw [K4,ob,if_pos (by unfold inR; simp; omega)]
 have e:∀ i:Nat,i<n→w64 ((f:Int)+(i:Int))=((f+i:Nat):Int):=fun i hi=>by rw [B7 (by omega) (by omega)]; omega
 refine Wx h h0 ?_ ?_ ?_
 ·intro i o hi hb ho
  have hr:=A06 h (f+i)
  unfold Y7
  rw [if_pos (by simpa using hi),if_neg (by simp),if_neg (by simp; omega),ob,if_neg (by simp),e i hi,Bs h,ob,Mm hb]
  dsimp only
  rw [if_neg (by simp),cat?_ok (by omega),ob,C5 (by omega)]
 ·intro i o hi hb
  unfold Y7
  rw [if_pos (by simpa using hi),if_neg (by simp)]
  by_cases c:(f:Int)>(d.Sectors.length:Int)
  ·rw [if_pos (by simpa using c),ob,if_pos rfl]
  ·rw [if_neg (by simpa using c),ob,if_neg (by simp),e i hi,Bs h,ob,Pf hb]
   rfl
 ·intro o
  unfold Y7
  simp
theorem Xk {d:TDisk} (h:DkS d) {f n:Nat} (hf:f≤1000) (h0:0<n) (hn:n≤100):Y1 d (f:Int) (n:Int)=some (sectorT d f n):=by
 unfold Y1
 rw [P3,ob,if_pos (by unfold inR; simp; omega)]
 have e:∀ i:Nat,i<n→w64 ((f:Int)+(i:Int))=((f+i:Nat):Int):=fun i hi=>by rw [B7 (by omega) (by omega)]; omega
 refine Wx h h0 ?_ ?_ ?_
 ·intro i o hi hb ho
  have hr:=A06 h (f+i)
  unfold U3
  rw [if_pos (by simpa using hi),e i hi,Gs h,ob,Mm hb]
  dsimp only
  rw [if_neg (by simp),cat?_ok (by omega),ob,C5 (by omega)]
 ·intro i o hi hb
  unfold U3
  rw [if_pos (by simpa using hi),e i hi,Gs h,ob,Pf hb]
  rfl
 ·intro o
  unfold U3
  simp
theorem P0 {d:TDisk} (h:DkS d):D2 d=some d:=by
 have h1:=h.sec.1
 have h2:=h.cache.1
 unfold D2
 rw [app?_ok (by simp; omega) (by simp; omega),ob,app?_ok (by simp; omega) (by simp; omega),ob]
 rfl
theorem Fc {d:TDisk} (h:DkS d):E2 d=some d:=by
 have h1:=h.sec.1
 have h2:=h.cache.1
 unfold E2 Cc Cu
 rw [app?_ok (by simp; omega) (by simp; omega),ob,app?_ok (by simp; omega) (by simp; omega),ob]
 rfl
def wOk (n:Nat) (w:TWrite):Bool:=inR w.At 0 ((n:Int) - 1)&&w.Text.length==32
def C9 (d:TDisk):Bool:=inR (d.Sectors.length:Int) 1 100&&(decide (d.Cache.length≤60)&&(d.Sectors.all (fun s=>s.length==32)&&d.Cache.all (wOk d.Sectors.length)))
theorem K3 {d:TDisk}:C9 d=true↔(1≤d.Sectors.length∧d.Sectors.length≤100)∧d.Cache.length≤60∧(∀ s∈d.Sectors,s.length=32)∧∀ w∈d.Cache,(0≤w.At∧w.At≤(d.Sectors.length:Int) - 1)∧w.Text.length=32:=by
 unfold C9 wOk inR
 simp only [Bool.and_eq_true,decide_eq_true_eq,List.all_eq_true,beq_iff_eq]
 constructor
 ·rintro ⟨h1,h2,h3,h4⟩
  exact ⟨by omega,h2,h3,h4⟩
 ·rintro ⟨h1,h2,h3,h4⟩
  exact ⟨by omega,h2,h3,h4⟩
theorem Xb {α:Type} (l:List α) (p:α→Bool):l.any (fun x=>!p x)=!(l.all p):=by
 rw [List.all_eq_not_any_not,Bool.not_not]
theorem Ey {d:TDisk} (h:DkS d):R4 d=some (C9 d):=by
 have h1:=h.sec.1
 have h2:=h.cache.1
 have a1:=Ju (l:=d.Sectors) (k:=d.Sectors.length) (by omega) (q:=fun s=>!(s.length==32)) (step:=Bn d) (bad:=.inl false) (good:=.inr ()) (by
  intro i hi _
  unfold Bn
  simp only [dlt hi,if_true,at?_nat hi,ob,C5 (show i<9223372036854775807 by omega)]
  by_cases c:d.Sectors[i].length=32
  ·rw [if_neg (by simp [c]),if_neg (by simp [c])]
  ·rw [if_pos (by simp; omega),if_pos (by simpa using c)]) (by unfold Bn; simp)
 have a2:=Ju (l:=d.Cache) (k:=d.Cache.length) (by omega) (q:=fun w=>!(wOk d.Sectors.length w)) (step:=Bp d) (bad:=.inl false) (good:=.inr ()) (by
  intro i hi _
  unfold Bp wOk
  simp only [dlt hi,if_true,at?_nat hi,ob,K4,B7 (n:=(d.Sectors.length:Int) - 1) (by omega) (by omega),C5 (show i<9223372036854775807 by omega)]
  cases inR d.Cache[i].At 0 ((d.Sectors.length:Int) - 1)
  ·simp
  ·by_cases c:d.Cache[i].Text.length=32
   ·simp [c]
   ·have c':¬ ((d.Cache[i].Text.length:Int)=32):=by omega
    simp [c,c']) (by unfold Bp; simp)
 rw [List.take_length,Xb] at a1 a2
 unfold R4 C9
 rw [K4,ob]
 cases inR (d.Sectors.length:Int) 1 100 with
 | false=>rfl
 | true =>
  rw [if_pos rfl]
  by_cases c:d.Cache.length≤60
  ·rw [if_neg (by simp; omega),ob,if_neg (by simp),a1]
   cases d.Sectors.all (fun s=>s.length==32)
   ·simp
   ·simp only [Bool.not_true,Bool.false_eq_true,if_false,ob,Sum.elim_inr,a2]
    cases d.Cache.all (wOk d.Sectors.length) <;> simp [c]
  ·rw [if_pos (by simp; omega),ob,if_pos rfl]
   simp [c]
theorem Gr {d:TDisk} (h:DkS d):R6 d=some (C9 d):=by
 have h1:=h.sec.1
 have h2:=h.cache.1
 have a1:=De (x0:=d.Sectors) (q:=fun s=>!(s.length==32)) (by omega) (fun s _=>by
  unfold X3
  by_cases c:s.length=32
  ·simp [c]
  ·have c':¬ ((s.length:Int)=32):=by omega
   rw [show ((s.length:Int) != 32)=true by simpa using c',show (s.length==32)=false by simpa using c]; rfl)
 have a2:=Dv (x0:=d.Cache) (x1:=d) (q:=fun w=>!(wOk d.Sectors.length w)) (by omega) (fun w _=>by
  unfold T6 wOk
  rw [P3,ob,B7 (n:=(d.Sectors.length:Int) - 1) (by omega) (by omega)]
  cases inR w.At 0 ((d.Sectors.length:Int) - 1)
  ·simp
  ·by_cases c:w.Text.length=32
   ·simp [c]
   ·have c':¬ ((w.Text.length:Int)=32):=by omega
    rw [if_pos rfl,show ((w.Text.length:Int) != 32)=true by simpa using c',show (w.Text.length==32)=false by simpa using c]; rfl)
 rw [Xb] at a1 a2
 unfold R6 C9
 rw [P3,ob]
 cases inR (d.Sectors.length:Int) 1 100 with
 | false=>rfl
 | true =>
  rw [if_pos rfl]
  by_cases c:d.Cache.length≤60
  ·rw [if_neg (by simp; omega),ob,if_neg (by simp),a1,ob]
   cases d.Sectors.all (fun s=>s.length==32)
   ·simp
   ·simp only [Bool.not_true,Bool.false_eq_true,if_false,a2,ob]
    cases d.Cache.all (wOk d.Sectors.length) <;> simp [c]
  ·rw [if_pos (by simp; omega),ob,if_pos rfl]
   simp [c]
def wr (d:TDisk) (k:Int) (t:List UInt8):Option TDisk:=if C9 d&&(inR k 0 ((d.Sectors.length:Int) - 1)&&(t.length==32&&decide (d.Cache.length<60))) then some { Sectors:=d.Sectors,Cache:=d.Cache++[{ At:=k,Text:=t }] } else none
def wrR (d:TDisk) (o:Option TDisk):TDisk×Bool:=match o with
 | some d'=>(d',true)
 | none=>(d,false)
theorem A96 {d d':TDisk} {k:Int} {t:List UInt8} (h:wr d k t=some d'):C9 d'=true∧d'.Sectors=d.Sectors:=by
 unfold wr at h
 split at h
 ·rename_i hc
  cases h
  simp only [Bool.and_eq_true,decide_eq_true_eq,beq_iff_eq] at hc
  obtain ⟨h1,h2,h3,h4⟩:=hc
  obtain ⟨g1,g2,g3,g4⟩:=K3.1 h1
  unfold inR at h2
  simp only [Bool.and_eq_true,decide_eq_true_eq] at h2
  refine ⟨K3.2 ⟨g1,by simp; omega,g3,?_⟩,rfl⟩
  intro w hw
  rcases List.mem_append.1 hw with hw | hw
  ·exact g4 w hw
  ·rw [List.mem_singleton] at hw; subst hw
   exact ⟨h2,h3⟩
 ·cases h
theorem DkS.ofOk {d:TDisk} (h:C9 d=true):DkS d:=by
 obtain ⟨h1,h2,h3,h4⟩:=K3.1 h
 exact ⟨⟨by omega,fun y hy=>by rw [h3 y hy]; omega⟩,by omega,fun y hy=>by rw [(h4 y hy).2]; omega⟩
theorem A3i {d:TDisk} (h:DkS d) (k:Int) (t:List UInt8):K0 d k t=some (wrR d (wr d k t)):=by
 have h1:=h.sec.1
 have h2:=h.cache.1
 unfold K0 wr
 rw [P0 h,ob,Ey h,ob]
 cases C9 d with
 | false=>rfl
 | true =>
  rw [if_pos rfl,K4,ob,B7 (n:=(d.Sectors.length:Int) - 1) (by omega) (by omega)]
  cases inR k 0 ((d.Sectors.length:Int) - 1) with
  | false=>rfl
  | true =>
   rw [if_pos rfl]
   by_cases c:t.length=32
   ·rw [if_neg (by simp [c])]
    by_cases e:d.Cache.length<60
    ·rw [if_neg (by simp; omega),ob,if_neg (by simp),app?_ok (by simp; omega) (by simp; omega)]
     simp [c,e,wrR]
    ·rw [if_pos (by simp; omega),ob,if_pos rfl]
     simp [e,wrR]
   ·rw [if_pos (by simp; omega),ob,if_pos rfl]
    simp [c,wrR]
theorem Aa4 {d:TDisk} (h:DkS d) {k:Int} {t:List UInt8} (ht:t.length≤1048576) (hc:d.Cache.length≤1000):W2 d k t=some (wrR d (wr d k t)):=by
 have h1:=h.sec.1
 unfold W2 wr
 rw [Fc h,ob,app?_ok (by simp; omega) (by simp; omega),ob,Gr h,ob]
 cases hd:C9 d with
 | false=>rfl
 | true =>
  have h':DkS { Sectors:=d.Sectors,Cache:=d.Cache++[{ At:=k,Text:=t }] }:=by
   refine ⟨h.sec,by simp; omega,?_⟩
   intro y hy
   rcases List.mem_append.1 hy with hy | hy
   ·exact h.cache.2 y hy
   ·rw [List.mem_singleton] at hy; subst hy; exact ht
  obtain ⟨g1,g2,g3,g4⟩:=K3.1 hd
  rw [if_pos rfl,Gr h',ob]
  have e:C9 { Sectors:=d.Sectors,Cache:=d.Cache++[{ At:=k,Text:=t }] }=(inR k 0 ((d.Sectors.length:Int) - 1)&&(t.length==32&&decide (d.Cache.length<60))):=by
   rw [Bool.eq_iff_iff,K3]
   unfold inR
   simp only [Bool.and_eq_true,decide_eq_true_eq,beq_iff_eq,List.length_append,List.length_singleton]
   constructor
   ·rintro ⟨_,k2,_,k4⟩
    have:=k4 _ (List.mem_append_right _ (List.mem_singleton.2 rfl))
    exact ⟨this.1,this.2,by omega⟩
   ·rintro ⟨k1,k2,k3⟩
    refine ⟨g1,by omega,g3,?_⟩
    intro w hw
    rcases List.mem_append.1 hw with hw | hw
    ·exact g4 w hw
    ·rw [List.mem_singleton] at hw; subst hw; exact ⟨k1,k2⟩
  rw [e]
  cases (inR k 0 ((d.Sectors.length:Int) - 1)&&(t.length==32&&decide (d.Cache.length<60))) with
  | false=>simp [Fc h,wrR]
  | true=>simp [wrR]
def setW (s:List (List UInt8)) (w:TWrite):List (List UInt8):=s.set w.At.toNat w.Text
def flush (d:TDisk):TDisk:=if C9 d then { Sectors:=d.Cache.foldl setW d.Sectors,Cache:=[] } else d
theorem Ue:∀ (l:List TWrite) (s:List (List UInt8)),(l.foldl setW s).length=s.length
 | [],s=>rfl
 | w::l,s=>by rw [List.foldl_cons,Ue l]; simp [setW]
theorem A3r:∀ (l:List TWrite) (s:List (List UInt8)),(∀ w∈l,w.Text.length=32)→(∀ x∈s,x.length=32)→∀ x∈l.foldl setW s,x.length=32
 | [],s,_,h,x,hx=>h x hx
 | w::l,s,hl,h,x,hx=>by
  rw [List.foldl_cons] at hx
  refine A3r l _ (fun w hw=>hl w (List.mem_cons_of_mem _ hw)) ?_ x hx
  intro y hy
  unfold setW at hy
  rcases List.mem_or_eq_of_mem_set hy with hy | hy
  ·exact h y hy
  ·rw [hy]; exact hl w List.mem_cons_self
theorem Ts {d:TDisk} (h:C9 d=true):C9 (flush d)=true:=by
 obtain ⟨h1,h2,h3,h4⟩:=K3.1 h
 unfold flush
 rw [if_pos h]
 refine K3.2 ⟨by rw [Ue]; exact h1,by simp,A3r _ _ (fun w hw=>(h4 w hw).2) h3,by simp⟩
theorem A00 {d:TDisk} (h:C9 d=true) {step:Int×List (List UInt8)→Option ((Int×List (List UInt8)) ⊕ List (List UInt8))}
  (h1:∀ (i:Nat) (o:List (List UInt8)) (hi:i<d.Cache.length),o.length=d.Sectors.length→step ((i:Int),o)=some (.inl (((i+1:Nat):Int),setW o d.Cache[i])))
  (h2:∀ o,step ((d.Cache.length:Int),o)=some (.inr o)):iter step (0,d.Sectors)=some (d.Cache.foldl setW d.Sectors):=by
 have:=K7 (step:=step) (fun i=>((i:Int),(d.Cache.take i).foldl setW d.Sectors)) d.Cache.length (r:=d.Cache.foldl setW d.Sectors) ?_ ?_
 ·simpa using this
 ·intro i hi
  rw [h1 i _ hi (Ue _ _),List.take_succ_eq_append_getElem hi,List.foldl_append]; rfl
 ·rw [h2,List.take_length]
theorem Hx {d:TDisk} (h:DkS d):E8 d=some (flush d):=by
 have h2:=h.cache.1
 unfold E8 flush
 rw [P0 h,ob,Ey h,ob]
 by_cases c:C9 d=true
 ·rw [if_pos c,if_pos c,A00 c]
  ·rfl
  ·intro i o hi ho
   have hw:=(K3.1 c).2.2.2 _ (List.getElem_mem hi)
   obtain ⟨n,hn⟩:∃ n:Nat,d.Cache[i].At=n:=⟨d.Cache[i].At.toNat,by omega⟩
   unfold Bd setW
   rw [if_pos (dlt hi),at?_nat hi,ob,ob,hn,at?_nat (show n<o.length by omega),ob,ob,Mh,C5 (by omega),Int.toNat_natCast]
  ·intro o; unfold Bd; simp
 ·rw [if_neg c,if_neg c]
theorem A0j {d:TDisk} (h:DkS d):V1 d=some (flush d):=by
 have h2:=h.cache.1
 unfold V1 flush
 rw [Fc h,ob,Gr h,ob]
 by_cases c:C9 d=true
 ·rw [if_pos c,if_pos c,A00 c]
  ·rfl
  ·intro i o hi ho
   have hw:=(K3.1 c).2.2.2 _ (List.getElem_mem hi)
   obtain ⟨n,hn⟩:∃ n:Nat,d.Cache[i].At=n:=⟨d.Cache[i].At.toNat,by omega⟩
   unfold Bh setW
   rw [if_pos (dlt hi),at?_nat hi,ob,hn,at?_nat (show n<o.length by omega),ob,ob,Mh,C5 (by omega),Int.toNat_natCast]
  ·intro o; unfold Bh; simp
 ·rw [if_neg c,if_neg c]
def lastG (l:List TRef):Nat→Int
 | 0=>0
 | i+1=>match l[i]? with | some r=>r.Gen | none=>0
theorem Kt {l:List TRef} {i:Nat} (h:i<l.length):lastG l (i+1)=l[i].Gen:=by simp [lastG,h]
def anyNo (l:List TRef) (n:Int):Bool:=l.any fun q=>q.No==n
def okS (l:List TRef) (ng:Int) (i:Nat):Bool:=match l[i]? with
 | some r=>inR r.No 0 10&&inR r.Gen 1 (w64 (ng - 1))&&(i==0||decide (lastG l i<r.Gen))&&!anyNo (l.take i) r.No
 | none=>true
def okI (l:List TRef) (ng:Int) (i:Nat):Bool:=match l[i]? with
 | some r=>inR r.Gen (w64 (lastG l i+1)) (w64 (ng - 1))&&inR r.No 0 10&&!anyNo (l.take i) r.No
 | none=>true
theorem Y4 {n lo hi:Int}:inR n lo hi=true↔lo≤n∧n≤hi:=by unfold inR; simp
theorem Aaa {l:List TRef} {ng:Int} (h:1≤ng) (h':ng≤1000000000):(List.range l.length).all (okS l ng)=(List.range l.length).all (okI l ng):=by
 have hw:w64 (ng - 1)=ng - 1:=B7 (by omega) (by omega)
 rw [Bool.eq_iff_iff,List.all_eq_true,List.all_eq_true]
 constructor
 ·intro hs i hi
  have hi':=List.mem_range.1 hi
  have h1:=hs i hi
  unfold okS at h1
  unfold okI
  rw [qG hi'] at h1 ⊢
  simp only [Bool.and_eq_true,Y4,hw] at h1 ⊢
  obtain ⟨⟨⟨a,b⟩,c⟩,d⟩:=h1
  refine ⟨⟨⟨?_,b.2⟩,a⟩,d⟩
  cases i with
  | zero=>simp only [lastG]; rw [B7 (by omega) (by omega)]; omega
  | succ j =>
   have h2:=hs j (List.mem_range.2 (by omega))
   unfold okS at h2
   rw [qG (by omega)] at h2
   simp only [Bool.and_eq_true,Y4,hw] at h2
   rw [Kt (by omega)] at c ⊢
   simp at c
   rw [B7 (by omega) (by omega)]; omega
 ·intro hs
  have key:∀ i,i<l.length→okS l ng i=true:=by
   intro i
   induction i with
   | zero =>
    intro hi
    have h1:=hs 0 (List.mem_range.2 hi)
    unfold okI at h1
    unfold okS
    rw [qG hi] at h1 ⊢
    simp only [Bool.and_eq_true,Y4,hw,lastG] at h1 ⊢
    rw [B7 (by omega) (by omega)] at h1
    obtain ⟨⟨a,b⟩,c⟩:=h1
    exact ⟨⟨⟨b,by omega,a.2⟩,by simp⟩,c⟩
   | succ j ih =>
    intro hi
    have h1:=hs (j+1) (List.mem_range.2 hi)
    have h2:=ih (by omega)
    unfold okI at h1
    unfold okS at h2 ⊢
    rw [qG hi] at h1 ⊢
    rw [qG (by omega)] at h2
    simp only [Bool.and_eq_true,Y4,hw] at h1 h2 ⊢
    rw [Kt (by omega)] at h1 ⊢
    rw [B7 (by omega) (by omega)] at h1
    obtain ⟨⟨a,b⟩,c⟩:=h1
    exact ⟨⟨⟨b,by omega,a.2⟩,by simp; omega⟩,c⟩
  exact fun i hi=>key i (List.mem_range.1 hi)
def stamps (c:TCheck):Bool:=inR c.Stamp 1 1000000000&&inR c.NextGen 1 1000000000&&inR c.NextSeq 1 1000000000&&inR c.NextValid 1 1000000000
def checkOk (c:TCheck):Bool:=stamps c&&inR c.Refs.length 1 11&&(List.range c.Refs.length).all (okS c.Refs c.NextGen)
theorem Rq {c:TCheck} (h:c.Refs.length≤1048576):Aw c=some (checkOk c):=by
 have hl:iter (Z7 c) 0=some (if (List.range c.Refs.length).all (okS c.Refs c.NextGen) then .inr () else .inl false):=by
  refine Jz (fun i=>(i:Int)) c.Refs.length _ ?_ ?_ ?_
  all_goals first
   | (unfold Z7; simp; done)
   | skip
  all_goals
   intro i hi hp
   have inner:iter (Al c (i:Int) c.Refs[i]) 0=some (if anyNo (c.Refs.take i) c.Refs[i].No then .inl false else .inr ()):=by
    refine Ju (by omega) ?_ ?_
    ·intro j hj hji
     unfold Al
     simp only [dlt hji,if_true,at?_nat hj,ob,C5 (show j<9223372036854775807 by omega)]
    ·unfold Al
     simp
   have hprev:(if decide ((i:Int)>0) then (at? c.Refs (w64 ((i:Int) - 1))).bind fun v13=>(if decide (v13.Gen≥c.Refs[i].Gen) then some true else some false) else some false)=some (!(i==0||decide (lastG c.Refs i<c.Refs[i].Gen))):=by
    cases i with
    | zero=>simp
    | succ j =>
     have e:w64 (((j+1:Nat):Int) - 1)=(j:Int):=by rw [B7 (by omega) (by omega)]; omega
     rw [if_pos (by simp),e,at?_nat (show j<c.Refs.length by omega),Kt (by omega)]
     simp only [ob]
     by_cases hc:c.Refs[j].Gen<c.Refs[j+1].Gen
     ·rw [if_neg (by simpa using hc)]; simp [hc]
     ·rw [if_pos (by simp; omega)]; simp [hc]
   unfold okS at hp
   rw [qG hi] at hp
   dsimp only at hp
   unfold Z7
   simp only [dlt hi,if_true,at?_nat hi,ob,K4,inner,hprev]
   generalize inR c.Refs[i].No 0 10=b1 at hp ⊢
   generalize inR c.Refs[i].Gen 1 (w64 (c.NextGen - 1))=b2 at hp ⊢
   generalize (i==0||decide (lastG c.Refs i<c.Refs[i].Gen))=b3 at hp ⊢
   generalize anyNo (c.Refs.take i) c.Refs[i].No=b4 at hp ⊢
   revert hp
   cases b1 <;> cases b2 <;> cases b3 <;> cases b4 <;> simp [C5 (show i<9223372036854775807 by omega)]
 unfold Aw checkOk stamps
 simp only [K4,hl,ob]
 cases inR c.Stamp 1 1000000000 <;> cases inR c.NextGen 1 1000000000 <;> cases inR c.NextSeq 1 1000000000 <;> cases inR c.NextValid 1 1000000000 <;> cases inR (c.Refs.length:Int) 1 11 <;> cases (List.range c.Refs.length).all (okS c.Refs c.NextGen) <;> simp
theorem Uh {c:TCheck} (h:c.Refs.length≤1048576):Z5 c=some (checkOk c):=by
 have hs:iter (U9 c) 0=some (if stamps c then .inr () else .inl false):=by
  have e1:iter (U9 c) 0=some (if ([c.Stamp,c.NextGen,c.NextSeq,c.NextValid].take 4).any (fun n=>!inR n 1 1000000000) then .inl false else .inr ()):=by
   refine Ju (by simp) ?_ ?_
   ·intro i hi _
    unfold U9
    simp only [dlt hi,if_true,at?_nat hi,ob,P3,C5 (show i<9223372036854775807 by simp at hi; omega)]
    cases inR [c.Stamp,c.NextGen,c.NextSeq,c.NextValid][i] 1 1000000000 <;> simp
   ·unfold U9
    simp
  rw [e1]
  unfold stamps
  simp
  cases inR c.Stamp 1 1000000000 <;> cases inR c.NextGen 1 1000000000 <;> cases inR c.NextSeq 1 1000000000 <;> cases inR c.NextValid 1 1000000000 <;> simp
 have hl:iter (Ax c) (0,0)=some (if (List.range c.Refs.length).all (okI c.Refs c.NextGen) then .inr () else .inl false):=by
  refine Jz (fun i=>(lastG c.Refs i,(i:Int))) c.Refs.length _ ?_ ?_ ?_
  all_goals first
   | (unfold Ax; simp; done)
   | skip
  all_goals
   intro i hi hp
   have hc:=Ei (x0:=c.Refs.take i) (x1:=c.Refs[i]) (q:=fun q=>q.No==c.Refs[i].No) (by simp; omega) (fun y _=>rfl)
   unfold okI at hp
   rw [qG hi] at hp
   dsimp only at hp
   unfold Ax
   simp only [dlt hi,if_true,at?_nat hi,ob,P3,sub?_take (Nat.le_of_lt hi),hc,Kt hi]
   unfold anyNo at hp
   generalize inR c.Refs[i].No 0 10=b1 at hp ⊢
   generalize inR c.Refs[i].Gen (w64 (lastG c.Refs i+1)) (w64 (c.NextGen - 1))=b2 at hp ⊢
   generalize (c.Refs.take i).any (fun q=>q.No==c.Refs[i].No)=b4 at hp ⊢
   revert hp
   cases b1 <;> cases b2 <;> cases b4 <;> simp [C5 (show i<9223372036854775807 by omega)]
 unfold Z5 checkOk
 rw [hs]
 cases hst:stamps c with
 | false=>simp
 | true =>
  have hng:1≤c.NextGen∧c.NextGen≤1000000000:=by
   unfold stamps at hst
   simp only [Bool.and_eq_true,Y4] at hst
   exact hst.1.1.2
  simp only [if_true,ob,Sum.elim_inr,P3,hl,Aaa hng.1 hng.2]
  cases inR (c.Refs.length:Int) 1 11 <;> cases (List.range c.Refs.length).all (okI c.Refs c.NextGen) <;> simp
theorem Vm {x:TRec} (h:recOk x=true):(0≤x.Valid∧x.Valid≤10000)∧(0≤x.Uid∧x.Uid≤10000)∧(0≤x.Next∧x.Next≤10000)∧(0≤x.Flags∧x.Flags≤10000)∧1≤x.Kind∧x.Kind≤5:=by
 unfold recOk inR at h
 grind
def short (s:List UInt8):List UInt8:=vt s.length++s
def recT (x:TRec):List UInt8:=[ofI (IntKind.u8.wrap x.Kind)]++vt x.Valid++vt x.Uid++vt x.Next++vt x.Flags++short x.User++short x.Name++short x.Text
def recText (x:TRec):List UInt8×Bool:=if recOk x then (recT x,true) else ([],false)
theorem Wd {s:List UInt8} (h:s.length≤1048576):(short s).length≤s.length+11:=by
 unfold short
 have:=K8 (n:=s.length) (by omega)
 simp; omega
theorem Lb {s:List UInt8} (h:s.length≤1048576):Q2 s=some (short s):=by
 unfold Q2
 have:=K8 (n:=s.length) (by omega)
 rw [U2 (by omega) (by omega),ob,cat?_ok (by omega)]
 rfl
theorem Ko {x:TRec} (h:RecS x):Z8 x=some (recText x):=by
 unfold Z8 recText
 rw [A0k h,ob]
 cases hk:recOk x with
 | false=>rfl
 | true =>
  obtain ⟨r1,r2,r3,r4,_⟩:=Vm hk
  have l1:=K8 (n:=x.Valid) (by omega)
  have l2:=K8 (n:=x.Uid) (by omega)
  have l3:=K8 (n:=x.Next) (by omega)
  have l4:=K8 (n:=x.Flags) (by omega)
  have l5:=Wd h.user
  have l6:=Wd h.name
  have l7:=Wd h.text
  have b1:=h.user
  have b2:=h.name
  have b3:=h.text
  simp only [if_true]
  rw [U2 (by omega) (by omega),ob,cat?_ok (by simp; omega),ob,
   U2 (by omega) (by omega),ob,cat?_ok (by simp; omega),ob,
   U2 (by omega) (by omega),ob,cat?_ok (by simp; omega),ob,
   U2 (by omega) (by omega),ob,cat?_ok (by simp; omega),ob,
   Lb h.user,ob,cat?_ok (by simp; omega),ob,
   Lb h.name,ob,cat?_ok (by simp; omega),ob,
   Lb h.text,ob,cat?_ok (by simp; omega),ob]
  rfl
def ctHead (c:TCheck):List UInt8:=vt c.Stamp++vt c.NextGen++vt c.NextSeq++vt c.NextValid++vt c.Refs.length
def refT (r:TRef):List UInt8:=vt r.No++vt r.Gen
def ctBody (c:TCheck):List UInt8:=ctHead c++c.Refs.flatMap refT
def ctOut (c:TCheck):List UInt8:=short (ctBody c++sealL (ctBody c))
def checkText (c:TCheck):List UInt8×Bool:=if checkOk c then (if 128<(ctOut c).length then ([],false) else (ctOut c,true)) else ([],false)
theorem X8 {c:TCheck} (h:checkOk c=true):((1≤c.Stamp∧c.Stamp≤1000000000)∧(1≤c.NextGen∧c.NextGen≤1000000000)∧(1≤c.NextSeq∧c.NextSeq≤1000000000)∧(1≤c.NextValid∧c.NextValid≤1000000000))∧(1≤c.Refs.length∧c.Refs.length≤11)∧∀ r∈c.Refs,(0≤r.No∧r.No≤10)∧1≤r.Gen∧r.Gen≤1000000000:=by
 unfold checkOk stamps at h
 simp only [Bool.and_eq_true,Y4] at h
 obtain ⟨⟨⟨⟨⟨h1,h2⟩,h3⟩,h4⟩,h5⟩,h6⟩:=h
 refine ⟨⟨h1,h2,h3,h4⟩,by omega,?_⟩
 intro r hr
 obtain ⟨i,hi⟩:=List.getElem?_of_mem hr
 have h7:=List.all_eq_true.1 h6 i (List.mem_range.2 (qI hi).1)
 unfold okS at h7
 rw [hi] at h7
 simp only [Bool.and_eq_true,Y4] at h7
 rw [B7 (by omega) (by omega)] at h7
 obtain ⟨⟨⟨a,b⟩,_⟩,_⟩:=h7
 omega
theorem Za {r:TRef} (h:(0≤r.No∧r.No≤10)∧1≤r.Gen∧r.Gen≤1000000000):(refT r).length≤22:=by
 have l1:=K8 (n:=r.No) (by omega)
 have l2:=K8 (n:=r.Gen) (by omega)
 unfold refT
 simp; omega
theorem A2n {α:Type} {f:α→List UInt8} {k:Nat}:∀ (l:List α),(∀ x∈l,(f x).length≤k)→(l.flatMap f).length≤k*l.length
 | [],_=>by simp
 | x::l,h=>by
  have h1:=A2n l (fun y hy=>h y (by simp [hy]))
  have h2:=h x (by simp)
  simp only [List.flatMap_cons,List.length_append,List.length_cons,Nat.mul_succ]
  omega
theorem Qx {c:TCheck} (h:checkOk c=true):(ctHead c).length≤55:=by
 obtain ⟨⟨h1,h2,h3,h4⟩,h5,_⟩:=X8 h
 have l1:=K8 (n:=c.Stamp) (by omega)
 have l2:=K8 (n:=c.NextGen) (by omega)
 have l3:=K8 (n:=c.NextSeq) (by omega)
 have l4:=K8 (n:=c.NextValid) (by omega)
 have l5:=K8 (n:=c.Refs.length) (by omega)
 unfold ctHead
 simp; omega
theorem Hs {c:TCheck} (h:checkOk c=true):(ctBody c).length≤297:=by
 have h1:=Qx h
 obtain ⟨_,h5,h6⟩:=X8 h
 have h2:=A2n (f:=refT) (k:=22) c.Refs (fun r hr=>Za (h6 r hr))
 unfold ctBody
 simp only [List.length_append]
 omega
theorem A4j {α:Type} {l:List α} {f:α→List UInt8} {step:List UInt8×Int→Option ((List UInt8×Int) ⊕ List UInt8)} {y:List UInt8} {b:Nat}
  (hb:∀ i,i≤l.length→(y++(l.take i).flatMap f).length≤b)
  (h1:∀ (i:Nat) (h:i<l.length) (a:List UInt8),a.length≤b→step (a,(i:Int))=some (.inl (a++f l[i],((i+1:Nat):Int))))
  (h2:∀ a,step (a,(l.length:Int))=some (.inr a)):iter step (y,0)=some (y++l.flatMap f):=by
 have:=K7 (step:=step) (fun i=>(y++(l.take i).flatMap f,(i:Int))) l.length (r:=y++l.flatMap f) ?_ ?_
 ·simpa using this
 ·intro i hi
  rw [h1 i hi _ (hb i (by omega)),List.take_succ_eq_append_getElem hi,List.flatMap_append,List.append_assoc]
  simp
 ·rw [h2]; simp
theorem Ac {c:TCheck} (h:c.Refs.length≤1048576):K6 c=some (checkText c):=by
 unfold K6 checkText
 rw [Rq h,ob]
 cases hk:checkOk c with
 | false=>rfl
 | true =>
  obtain ⟨⟨h1,h2,h3,h4⟩,h5,h6⟩:=X8 hk
  have l1:=K8 (n:=c.Stamp) (by omega)
  have l2:=K8 (n:=c.NextGen) (by omega)
  have l3:=K8 (n:=c.NextSeq) (by omega)
  have l4:=K8 (n:=c.NextValid) (by omega)
  have l5:=K8 (n:=c.Refs.length) (by omega)
  have lb:=Hs hk
  have hl:iter (V8 c) (ctHead c,0)=some (ctBody c):=by
   refine A4j (l:=c.Refs) (f:=refT) (b:=297) ?_ ?_ ?_
   ·intro i hi
    have h7:=A2n (f:=refT) (k:=22) (c.Refs.take i) (fun r hr=>Za (h6 r (List.mem_of_mem_take hr)))
    have h8:=Qx hk
    simp only [List.length_append,List.length_take] at h7 ⊢
    omega
   ·intro i hi a ha
    have hr:=h6 _ (List.getElem_mem hi)
    have q1:=K8 (n:=c.Refs[i].No) (by omega)
    have q2:=K8 (n:=c.Refs[i].Gen) (by omega)
    unfold V8
    simp only [dlt hi,if_true,at?_nat hi,ob,C5 (show i<9223372036854775807 by omega)]
    rw [U2 (by omega) (by omega),ob,cat?_ok (by omega),ob,U2 (by omega) (by omega),ob,cat?_ok (by simp; omega),ob]
    simp [refT]
   ·intro a
    unfold V8
    simp
  simp only [if_true]
  rw [U2 (by omega) (by omega),ob,U2 (by omega) (by omega),ob,cat?_ok (by omega),ob,U2 (by omega) (by omega),ob,cat?_ok (by simp; omega),ob,U2 (by omega) (by omega),ob,cat?_ok (by simp; omega),ob,U2 (by omega) (by omega),ob,cat?_ok (by simp; omega),ob]
  rw [show vt c.Stamp++vt c.NextGen++vt c.NextSeq++vt c.NextValid++vt c.Refs.length=ctHead c from rfl,hl,ob,Wz (by omega),ob]
  unfold sealed
  rw [if_neg (by omega)]
  simp only []
  rw [Lb (by rw [List.length_append,Ag]; omega),ob]
  show _=some (if 128<(ctOut c).length then ([],false) else (ctOut c,true))
  unfold ctOut
  by_cases hc:128<(short (ctBody c++sealL (ctBody c))).length
  ·have hc':(128:Int)<((short (ctBody c++sealL (ctBody c))).length:Int):=by omega
   rw [if_pos hc]; simp [hc']
  ·have hc':¬ (128:Int)<((short (ctBody c++sealL (ctBody c))).length:Int):=by omega
   rw [if_neg hc]; simp [hc']
theorem Fj {c:TCheck} (h:c.Refs.length≤1048576):Q6 c=some (checkText c):=by
 unfold Q6 checkText
 rw [Uh h,ob]
 cases hk:checkOk c with
 | false=>rfl
 | true =>
  obtain ⟨⟨h1,h2,h3,h4⟩,h5,h6⟩:=X8 hk
  have l1:=K8 (n:=c.Stamp) (by omega)
  have l2:=K8 (n:=c.NextGen) (by omega)
  have l3:=K8 (n:=c.NextSeq) (by omega)
  have l4:=K8 (n:=c.NextValid) (by omega)
  have l5:=K8 (n:=c.Refs.length) (by omega)
  have lb:=Hs hk
  have hl:iter (W8 c) (ctHead c,0)=some (ctBody c):=by
   refine A4j (l:=c.Refs) (f:=refT) (b:=297) ?_ ?_ ?_
   ·intro i hi
    have h7:=A2n (f:=refT) (k:=22) (c.Refs.take i) (fun r hr=>Za (h6 r (List.mem_of_mem_take hr)))
    have h8:=Qx hk
    simp only [List.length_append,List.length_take] at h7 ⊢
    omega
   ·intro i hi a ha
    have hr:=h6 _ (List.getElem_mem hi)
    have q1:=K8 (n:=c.Refs[i].No) (by omega)
    have q2:=K8 (n:=c.Refs[i].Gen) (by omega)
    unfold W8
    simp only [dlt hi,if_true,at?_nat hi,ob,C5 (show i<9223372036854775807 by omega)]
    rw [Ct (by omega) (by omega),ob,Ct (by omega) (by omega),ob,cat?_ok (by omega),ob,cat?_ok (by simp; omega),ob]
    simp [refT]
   ·intro a
    unfold W8
    simp
  simp only [if_true]
  rw [Ct (by omega) (by omega),ob,Ct (by omega) (by omega),ob,cat?_ok (by omega),ob,Ct (by omega) (by omega),ob,cat?_ok (by simp; omega),ob,Ct (by omega) (by omega),ob,cat?_ok (by simp; omega),ob,Ct (by omega) (by omega),ob,cat?_ok (by simp; omega),ob]
  rw [show vt c.Stamp++vt c.NextGen++vt c.NextSeq++vt c.NextValid++vt c.Refs.length=ctHead c from rfl,hl,ob,Uv (by omega),ob,cat?_ok (by rw [Ag]; omega),ob]
  have e4:(ctBody c++sealL (ctBody c)).length=(ctBody c).length+4:=by rw [List.length_append,Ag]
  have q1:=K8 (n:=((ctBody c++sealL (ctBody c)).length:Nat)) (by omega)
  rw [Ct (by omega) (by omega),ob,cat?_ok (by omega),ob]
  show _=some (if 128<(ctOut c).length then ([],false) else (ctOut c,true))
  rw [show vt ((ctBody c++sealL (ctBody c)).length:Nat)++(ctBody c++sealL (ctBody c))=ctOut c from rfl]
  by_cases hc:128<(ctOut c).length
  ·rw [if_pos hc,if_pos (by simp; omega)]
  ·rw [if_neg hc,if_neg (by simp; omega)]
theorem Vv (b:UInt8):ofI (b.toNat:Int)=b:=by
 simp [ofI]
theorem My {n:Nat} (h:n<256):(ofI (n:Int)).toNat=n:=by
 simp [ofI]; omega
def dig:Nat→List UInt8→Option (Nat×Nat)
 | 0,_=>none
 | _+1,[]=>none
 | f+1,b::r=>if b.toNat<128 then some (b.toNat,1) else match dig f r with
  | some x=>some (b.toNat - 128+128*x.1,x.2+1)
  | none=>none
theorem Rx:∀ {f:Nat} {r:List UInt8} {x:Nat×Nat},dig f r=some x→1≤x.2∧x.2≤r.length∧x.2≤f∧x.1<128 ^ x.2
 | 0,_,_,h=>by simp [dig] at h
 | _+1,[],_,h=>by simp [dig] at h
 | f+1,b::r,x,h=>by
  simp only [dig] at h
  split at h
  ·cases h; simp; omega
  ·split at h
   ·rename_i y hy
    cases h
    obtain ⟨h1,h2,h3,h4⟩:=Rx hy
    have:=b.toNat_lt
    refine ⟨by simp,by simpa using h2,by simpa using h3,?_⟩
    show _<128 ^ (y.2+1)
    rw [Nat.pow_succ]
    simp only []
    omega
   ·cases h
theorem A4u:∀ {f:Nat} {r:List UInt8} {x:Nat×Nat},dig f r=some x→x.1=0→r[x.2 - 1]?=some 0
 | 0,_,_,h,_=>by simp [dig] at h
 | _+1,[],_,h,_=>by simp [dig] at h
 | f+1,b::r,x,h,h0=>by
  simp only [dig] at h
  split at h
  ·cases h
   simp only at h0
   simp
   exact UInt8.toNat_inj.1 h0
  ·split at h
   ·rename_i y hy
    cases h
    obtain ⟨h1,_⟩:=Rx hy
    have:=A4u hy (by simp only at h0; omega)
    obtain ⟨c,hc⟩:∃ c,y.2=c+1:=⟨y.2 - 1,by omega⟩
    simp only [hc,Nat.add_sub_cancel] at this ⊢
    simpa using this
   ·cases h
theorem A2g:∀ {f:Nat} {r:List UInt8} {x:Nat×Nat},dig f r=some x→((vtl x.1).map ofI=r.take x.2↔¬ (1<x.2∧r[x.2 - 1]?=some 0))
 | 0,_,_,h=>by simp [dig] at h
 | _+1,[],_,h=>by simp [dig] at h
 | f+1,b::r,x,h=>by
  simp only [dig] at h
  split at h
  ·cases h
   rw [Z2 (by simp only; omega)]
   simp [Vv]
  ·split at h
   ·rename_i hb y hy
    cases h
    have hl:=b.toNat_lt
    obtain ⟨h1,h2,_⟩:=Rx hy
    have ih:=A2g hy
    obtain ⟨c,hc⟩:∃ c,y.2=c+1:=⟨y.2 - 1,by omega⟩
    simp only []
    by_cases h0:y.1=0
    ·have hz:=A4u hy h0
     rw [hc] at hz
     simp only [Nat.add_sub_cancel] at hz
     rw [h0,Z2 (by omega)]
     constructor
     ·intro e
      have:=congrArg List.length e
      rw [List.length_take] at this
      simp only [List.length_map,List.length_cons,List.length_nil] at this
      omega
     ·intro e
      refine absurd ⟨by omega,?_⟩ e
      simp only [Nat.add_sub_cancel,hc]
      simpa using hz
    ·have e1:(b.toNat - 128+128*y.1)%128=b.toNat - 128:=by omega
     have e2:(b.toNat - 128+128*y.1) / 128=y.1:=by omega
     rw [Mx (by omega),e1,e2]
     have e3:ofI ((b.toNat - 128+128:Nat):Int)=b:=by
      rw [show b.toNat - 128+128=b.toNat by omega]; exact Vv b
     simp only [List.map_cons,e3,List.take_succ_cons,List.cons.injEq,true_and,ih,Nat.add_sub_cancel]
     rw [hc]
     simp only [Nat.add_sub_cancel,List.getElem?_cons_succ]
     constructor
     ·intro hh he
      cases c with
      | zero =>
       cases f with
       | zero=>simp [dig] at hy
       | succ f =>
        cases r with
        | nil=>simp at h2; omega
        | cons b2 r =>
         simp at he
         subst he
         simp [dig] at hy
         rw [← hy] at h0
         exact h0 rfl
      | succ c=>exact hh ⟨by omega,he.2⟩
     ·intro hh he
      exact hh ⟨by omega,he.2⟩
   ·cases h
theorem A4s:∀ (k n:Nat),n<128 ^ (k+1)→(vtl n).length≤k+1
 | 0,n,h=>by rw [Z2 (by simp at h; omega)]; simp
 | k+1,n,h=>by
  by_cases hb:127<n
  ·rw [Mx hb]
   have:=A4s k (n / 128) (by rw [Nat.pow_succ] at h; exact Nat.div_lt_of_lt_mul (by rw [Nat.mul_comm]; exact h))
   simp; omega
  ·rw [Z2 (by omega)]; simp
theorem A66:∀ (f n:Nat) (r:List UInt8),(vtl n).length≤f→dig f ((vtl n).map ofI++r)=some (n,(vtl n).length)
 | 0,n,r,h=>by
  exfalso
  unfold vtl at h
  split at h <;> simp at h
 | f+1,n,r,h=>by
  by_cases hb:127<n
  ·rw [Mx hb] at h ⊢
   have ih:=A66 f (n / 128) r (by simpa using h)
   simp only [List.map_cons,List.cons_append,dig,My (show n%128+128<256 by omega)]
   rw [if_neg (by omega),ih]
   simp; omega
  ·rw [Z2 (by omega)]
   simp only [List.map_cons,List.map_nil,List.cons_append,dig,My (show n<256 by omega)]
   rw [if_pos (by omega)]
   simp
theorem A3m (n:Nat):vt (n:Int)=(vtl n).map ofI:=by
 unfold vt; rw [if_pos (by omega)]; simp
def rv (t:List UInt8) (a:Nat):Option (Nat×Nat):=match dig 5 (t.drop a) with
 | some x=>if x.1≤1000000000∧vt (x.1:Int)=(t.drop a).take x.2 then some (x.1,a+x.2) else none
 | none=>none
def rvR (o:Option (Nat×Nat)):Int×Int×Bool:=match o with
 | some x=>((x.1:Int),(x.2:Int),true)
 | none=>(0,0,false)
theorem A21 {t:List UInt8} {a n:Nat} {r:List UInt8} (h:t.drop a=vt (n:Int)++r) (hn:n≤1000000000):rv t a=some (n,a+(vt (n:Int)).length):=by
 have hl:(vtl n).length≤5:=A4s 4 n (by omega)
 unfold rv
 rw [h,A3m,A66 5 n r hl]
 simp [hn,A3m]
theorem Km {t:List UInt8} {a:Nat} {x:Nat×Nat} (h:rv t a=some x):a<x.2∧x.2≤t.length∧x.1≤1000000000:=by
 unfold rv at h
 split at h
 ·rename_i y hy
  split at h
  ·rename_i hc
   cases h
   obtain ⟨h1,h2,_⟩:=Rx hy
   simp at h2
   exact ⟨by simp only; omega,by simp only; omega,hc.1⟩
  ·cases h
 ·cases h
theorem andv127' (b:UInt8):andv .i64 (b.toNat:Int) 127=((b.toNat%128:Nat):Int):=andv127 (by have:=b.toNat_lt; omega)
theorem Aa0 {a x j:Nat} (ha:a<2 ^ j) (h:a+x*2 ^ j<9223372036854775808):orv .i64 (a:Int) ((x*2 ^ j:Nat):Int)=((a+x*2 ^ j:Nat):Int):=by
 show IntKind.i64.wrap ((BitVec.ofInt 64 (a:Int) ||| BitVec.ofInt 64 ((x*2 ^ j:Nat):Int)).toNat:Int)=_
 have e1:BitVec.ofInt 64 (a:Int)=BitVec.ofNat 64 a:=by simp
 have e2:BitVec.ofInt 64 ((x*2 ^ j:Nat):Int)=BitVec.ofNat 64 (x*2 ^ j):=BitVec.ofInt_natCast ..
 rw [e1,e2]
 have e3:(BitVec.ofNat 64 a ||| BitVec.ofNat 64 (x*2 ^ j)).toNat=a+x*2 ^ j:=by
  rw [BitVec.toNat_or]
  simp only [BitVec.toNat_ofNat]
  rw [Nat.mod_eq_of_lt (a:=a) (by omega),Nat.mod_eq_of_lt (a:=x*2 ^ j) (by omega),Nat.or_comm,Nat.mul_comm x,← Nat.two_pow_add_eq_or_of_lt ha]
  omega
 rw [e3]
 exact Gi (by omega)
theorem p128 (k:Nat):128 ^ k=2 ^ (7*k):=by rw [Nat.pow_mul]
theorem Ro {t:List UInt8} {a:Nat} (ht:t.length≤4611686018427387904) (ha:a≤t.length):∀ (f k acc:Nat),f+k=5→acc<128 ^ k →
  (iter (R1 t (a:Int)) ((acc:Int),(k:Int))).bind (Sum.elim (fun r=>some r) (fun _=>some (0,0,false)))=some (match dig f (t.drop (a+k)) with
   | none=>(0,0,false)
   | some x=>if 1000000000<acc+x.1*128 ^ k∨((t.drop (a+k))[x.2 - 1]?=some 0∧1<k+x.2) then (0,0,false) else (((acc+x.1*128 ^ k:Nat):Int),((a+k+x.2:Nat):Int),true))
 | 0,k,acc,hk,_=>by
  have:k=5:=by omega
  subst this
  rw [D6 (r:=.inr ()) (by unfold R1; simp)]
  simp [dig]
 | f+1,k,acc,hk,hacc=>by
  have ew:w64 ((a:Int)+(k:Int))=((a+k:Nat):Int):=by rw [B7 (by omega) (by omega)]; omega
  by_cases hlt:a+k<t.length
  ·have hd:t.drop (a+k)=t[a+k]::t.drop (a+k+1):=List.drop_eq_getElem_cons hlt
   have hb:=(t[a+k]).toNat_lt
   generalize hbv:t[a+k]=b at hd hb
   have e7:w64 (7*(k:Int))=((7*k:Nat):Int):=by rw [B7 (by omega) (by omega)]; omega
   have hpk:128 ^ k≤128 ^ 4:=Nat.pow_le_pow_right (by omega) (by omega)
   have hpp:(b.toNat%128)*128 ^ k≤127*128 ^ 4:=Nat.mul_le_mul (by omega) hpk
   have es:shl? .i64 ((b.toNat%128:Nat):Int) ((7*k:Nat):Int)=some (((b.toNat%128)*2 ^ (7*k):Nat):Int):=by
    unfold shl?
    rw [if_neg (by omega)]
    have hm:min ((7*k:Nat):Int).toNat IntKind.i64.bits=7*k:=by
     simp [IntKind.bits]; omega
    rw [hm]
    have:((b.toNat%128:Nat):Int)*2 ^ (7*k)=(((b.toNat%128)*2 ^ (7*k):Nat):Int):=by simp
    rw [this]
    exact congrArg some (Gi (by rw [← p128]; omega))
   have eo:orv .i64 (acc:Int) (((b.toNat%128)*2 ^ (7*k):Nat):Int)=((acc+(b.toNat%128)*128 ^ k:Nat):Int):=by
    rw [Aa0 (by rw [← p128]; exact hacc) (by rw [← p128]; omega),p128]
   have eb:w64 ((b.toNat:Nat):Int)=(b.toNat:Int):=Gi (by omega)
   have hst:R1 t (a:Int) ((acc:Int),(k:Int))=if 127<b.toNat then some (.inl (((acc+(b.toNat%128)*128 ^ k:Nat):Int),((k+1:Nat):Int))) else if (b.toNat=0∧0<k)∨1000000000<acc+(b.toNat%128)*128 ^ k then some (.inr (.inl (0,0,false))) else some (.inr (.inl (((acc+(b.toNat%128)*128 ^ k:Nat):Int),((a+k+1:Nat):Int),true))):=by
    unfold R1
    simp only [show decide ((k:Int)<5)=true from by simp; omega,if_true,ew,show decide (((a+k:Nat):Int)<(t.length:Int))=true from by simp; omega,ob,bt?_nat hlt,hbv,eb,andv127',e7,es,eo,C5 (show k<9223372036854775807 by omega),C5 (show a+k<9223372036854775807 by omega)]
    by_cases g1:127<b.toNat
    ·rw [if_pos g1,if_pos (by simp; omega)]
    ·rw [if_neg g1,if_neg (by simp; omega)]
     generalize acc+b.toNat%128*128 ^ k=M
     by_cases g2:b.toNat=0 <;> by_cases g3:0<k <;> by_cases g4:1000000000<M
     all_goals
      have g4':decide ((M:Int)>1000000000)=decide (1000000000<M):=by
       rw [decide_eq_decide]; omega
      rw [g4']
      have g2':((b.toNat:Int)==0)=decide (b.toNat=0):=by
       rw [Bool.eq_iff_iff]; simp
      rw [g2']
      simp [g2,g3,g4]
   by_cases g1:127<b.toNat
   ·rw [if_pos g1] at hst
    have hq:(b.toNat%128)*128 ^ k≤127*128 ^ k:=Nat.mul_le_mul_right _ (by omega)
    rw [V0 hst,Ro ht ha f (k+1) _ (by omega) (by rw [Nat.pow_succ]; omega),hd]
    simp only [dig,if_neg (show ¬ b.toNat<128 by omega)]
    have ed:t.drop (a+(k+1))=t.drop (a+k+1):=by rw [Nat.add_assoc]
    rw [ed]
    cases hdg:dig f (t.drop (a+k+1)) with
    | none=>rfl
    | some x =>
     obtain ⟨h1,_⟩:=Rx hdg
     obtain ⟨c,hc⟩:∃ c,x.2=c+1:=⟨x.2 - 1,by omega⟩
     have ev:acc+b.toNat%128*128 ^ k+x.1*128 ^ (k+1)=acc+(b.toNat - 128+128*x.1)*128 ^ k:=by
      rw [show b.toNat%128=b.toNat - 128 by omega,Nat.pow_succ,Nat.add_mul]
      rw [show 128*x.1*128 ^ k=x.1*(128 ^ k*128) by rw [Nat.mul_comm 128,Nat.mul_assoc,Nat.mul_comm 128]]
      omega
     have ei:(b::t.drop (a+k+1))[x.2+1 - 1]?=(t.drop (a+k+1))[x.2 - 1]?:=by
      rw [hc]; simp
     have e4:a+(k+1)+x.2=a+k+(x.2+1):=by omega
     have e5:k+1+x.2=k+(x.2+1):=by omega
     simp only [ev,ei,e4,e5]
   ·rw [if_neg g1] at hst
    rw [hd]
    simp only [dig,if_pos (show b.toNat<128 by omega)]
    have em:b.toNat%128=b.toNat:=by omega
    rw [em] at hst
    have hz:(some b=some (0:UInt8))↔b.toNat=0:=by
     rw [Option.some_inj]
     exact ⟨fun h=>by rw [h]; rfl,fun h=>UInt8.toNat_inj.1 (by simpa using h)⟩
    by_cases g2:(b.toNat=0∧0<k)∨1000000000<acc+b.toNat*128 ^ k
    ·rw [if_pos g2] at hst
     rw [D6 hst,if_pos]
     ·rfl
     ·rcases g2 with g | g
      ·exact .inr ⟨by simpa using hz.2 g.1,by omega⟩
      ·exact .inl g
    ·rw [if_neg g2] at hst
     rw [D6 hst,if_neg]
     ·rfl
     ·rintro (g | g)
      ·exact g2 (.inr g)
      ·exact g2 (.inl ⟨hz.1 (by simpa using g.1),by omega⟩)
  ·rw [D6 (r:=.inr ()) (by unfold R1; simp only [ew]; rw [show decide (((a+k:Nat):Int)<(t.length:Int))=false from by simp; omega]; simp)]
   rw [List.drop_eq_nil_of_le (by omega)]
   simp [dig]
theorem Tv {t:List UInt8} {a:Nat} (ht:t.length≤4611686018427387904) (ha:a≤t.length):∀ (f k acc:Nat),f+k=5→acc<128 ^ k →
  (iter (Q7 t (a:Int)) ((acc:Int),((128 ^ k:Nat):Int),((a+k:Nat):Int))).bind (Sum.elim (fun r=>some r) (fun _=>some (0,0,false)))=some (match dig f (t.drop (a+k)) with
   | none=>(0,0,false)
   | some x=>if 1000000000<acc+x.1*128 ^ k∨vt ((acc+x.1*128 ^ k:Nat):Int)≠(t.drop a).take (k+x.2) then (0,0,false) else (((acc+x.1*128 ^ k:Nat):Int),((a+k+x.2:Nat):Int),true))
 | 0,k,acc,hk,_=>by
  have:k=5:=by omega
  subst this
  have ew:w64 ((a:Int)+5)=((a+5:Nat):Int):=by rw [B7 (by omega) (by omega)]; omega
  rw [D6 (r:=.inr ()) (by
   unfold Q7
   simp only [ew]
   rw [show decide (((a+5:Nat):Int)<((a+5:Nat):Int))=false from by simp]
   cases decide (((a+5:Nat):Int)<(t.length:Int)) <;> simp)]
  simp [dig]
 | f+1,k,acc,hk,hacc=>by
  have ew:w64 ((a:Int)+5)=((a+5:Nat):Int):=by rw [B7 (by omega) (by omega)]; omega
  by_cases hlt:a+k<t.length
  ·have hd:t.drop (a+k)=t[a+k]::t.drop (a+k+1):=List.drop_eq_getElem_cons hlt
   have hb:=(t[a+k]).toNat_lt
   generalize hbv:t[a+k]=b at hd hb
   have hpk:128 ^ k≤128 ^ 4:=Nat.pow_le_pow_right (by omega) (by omega)
   have hpp:(b.toNat%128)*128 ^ k≤127*128 ^ 4:=Nat.mul_le_mul (by omega) hpk
   have hq:(b.toNat%128)*128 ^ k≤127*128 ^ k:=Nat.mul_le_mul_right _ (by omega)
   have eb:w64 ((b.toNat:Nat):Int)=(b.toNat:Int):=Gi (by omega)
   have em:w64 (Int.tmod (b.toNat:Int) 128*((128 ^ k:Nat):Int))=(((b.toNat%128)*128 ^ k:Nat):Int):=by
    rw [Int.tmod_eq_emod_of_nonneg (by omega)]
    have:((b.toNat:Int)%128)*((128 ^ k:Nat):Int)=(((b.toNat%128)*128 ^ k:Nat):Int):=by simp
    rw [this]
    exact Gi (by omega)
   have ea:w64 ((acc:Int)+(((b.toNat%128)*128 ^ k:Nat):Int))=((acc+(b.toNat%128)*128 ^ k:Nat):Int):=by
    rw [← Int.natCast_add]; exact Gi (by omega)
   have e128:w64 (((128 ^ k:Nat):Int)*128)=((128 ^ (k+1):Nat):Int):=by
    rw [show ((128 ^ k:Nat):Int)*128=((128 ^ (k+1):Nat):Int) by rw [Nat.pow_succ]; simp]
    exact Gi (by rw [Nat.pow_succ]; omega)
   have hsub:sub? t (a:Int) ((a+k+1:Nat):Int)=some ((t.drop a).take (k+1)):=by
    unfold sub?
    rw [if_pos (by omega)]
    have e1:((a+k+1:Nat):Int).toNat=a+(k+1):=by omega
    have e2:(a:Int).toNat=a:=by omega
    rw [e1,e2,List.drop_take]
    congr 2
    omega
   have hst:Q7 t (a:Int) ((acc:Int),((128 ^ k:Nat):Int),((a+k:Nat):Int))=if 127<b.toNat then some (.inl (((acc+(b.toNat%128)*128 ^ k:Nat):Int),((128 ^ (k+1):Nat):Int),((a+k+1:Nat):Int))) else if 1000000000<acc+(b.toNat%128)*128 ^ k∨vt ((acc+(b.toNat%128)*128 ^ k:Nat):Int)≠(t.drop a).take (k+1) then some (.inr (.inl (0,0,false))) else some (.inr (.inl (((acc+(b.toNat%128)*128 ^ k:Nat):Int),((a+k+1:Nat):Int),true))):=by
    unfold Q7
    simp only [show decide (((a+k:Nat):Int)<(t.length:Int))=true from by simp; omega,if_true,ew,show decide (((a+k:Nat):Int)<((a+5:Nat):Int))=true from by simp; omega,ob,bt?_nat hlt,hbv,eb,em,ea,e128,hsub,C5 (show a+k<9223372036854775807 by omega)]
    rw [U2 (by omega) (by omega),ob]
    generalize acc+b.toNat%128*128 ^ k=M
    by_cases g1:127<b.toNat
    ·rw [if_pos g1,if_neg (by simp; omega)]
    ·rw [if_neg g1,if_pos (by simp; omega)]
     have g4':decide ((M:Int)>1000000000)=decide (1000000000<M):=by
      rw [decide_eq_decide]; omega
     rw [g4']
     by_cases g3:1000000000<M <;> by_cases g4:vt (M:Int)=(t.drop a).take (k+1) <;> simp [g3,g4]
   by_cases g1:127<b.toNat
   ·rw [if_pos g1] at hst
    have ih:=Tv ht ha f (k+1) (acc+(b.toNat%128)*128 ^ k) (by omega) (by rw [Nat.pow_succ]; omega)
    rw [show a+(k+1)=a+k+1 by omega] at ih
    rw [V0 hst,ih,hd]
    simp only [dig,if_neg (show ¬ b.toNat<128 by omega)]
    cases hdg:dig f (t.drop (a+k+1)) with
    | none=>rfl
    | some x =>
     have ev:acc+b.toNat%128*128 ^ k+x.1*128 ^ (k+1)=acc+(b.toNat - 128+128*x.1)*128 ^ k:=by
      rw [show b.toNat%128=b.toNat - 128 by omega,Nat.pow_succ,Nat.add_mul]
      rw [show 128*x.1*128 ^ k=x.1*(128 ^ k*128) by rw [Nat.mul_comm 128,Nat.mul_assoc,Nat.mul_comm 128]]
      omega
     have e4:a+k+1+x.2=a+k+(x.2+1):=by omega
     have e5:k+1+x.2=k+(x.2+1):=by omega
     simp only [ev,e4,e5]
   ·rw [if_neg g1] at hst
    rw [hd]
    simp only [dig,if_pos (show b.toNat<128 by omega)]
    have em:b.toNat%128=b.toNat:=by omega
    rw [em] at hst
    by_cases g2:1000000000<acc+b.toNat*128 ^ k∨vt ((acc+b.toNat*128 ^ k:Nat):Int)≠(t.drop a).take (k+1)
    ·rw [if_pos g2] at hst
     rw [D6 hst,if_pos g2]; rfl
    ·rw [if_neg g2] at hst
     rw [D6 hst,if_neg g2]; rfl
  ·rw [D6 (r:=.inr ()) (by unfold Q7; rw [show decide (((a+k:Nat):Int)<(t.length:Int))=false from by simp; omega]; simp)]
   rw [List.drop_eq_nil_of_le (by omega)]
   simp [dig]
theorem A3c {t:List UInt8} {a:Nat} (h:t.length<a):rv t a=none:=by
 unfold rv
 rw [List.drop_eq_nil_of_le (by omega)]
 simp [dig]
theorem Mw {t:List UInt8} (ht:t.length≤4611686018427387904) (a:Nat):R9 t (a:Int)=some (rvR (rv t a)):=by
 unfold R9
 rw [K4,ob]
 by_cases ha:a≤t.length
 ·rw [if_pos (by unfold inR; simp; omega)]
  have:=Tv ht ha 5 0 0 (by omega) (by simp)
  simp only [Nat.pow_zero,Nat.mul_one,Nat.zero_add,Nat.add_zero] at this
  rw [show ((0:Nat):Int)=0 from rfl,show ((1:Nat):Int)=1 from rfl] at this
  rw [this]
  unfold rv rvR
  cases hd:dig 5 (t.drop a) with
  | none=>rfl
  | some x =>
   simp only []
   by_cases g1:1000000000<x.1
   ·rw [if_pos (.inl g1),if_neg (by omega)]
   ·by_cases g2:vt (x.1:Int)=(t.drop a).take x.2
    ·rw [if_neg (by rintro (g | g); exact g1 g; exact g g2),if_pos ⟨by omega,g2⟩]
    ·rw [if_pos (.inr g2),if_neg (fun g=>g2 g.2)]
 ·rw [if_neg (by unfold inR; simp; omega),A3c (by omega)]; rfl
theorem Eo {t:List UInt8} (ht:t.length≤4611686018427387904) (a:Nat):J2 t (a:Int)=some (rvR (rv t a)):=by
 unfold J2
 rw [P3,ob]
 by_cases ha:a≤t.length
 ·rw [if_pos (by unfold inR; simp; omega)]
  have:=Ro ht ha 5 0 0 (by omega) (by simp)
  simp only [Nat.pow_zero,Nat.mul_one,Nat.zero_add,Nat.add_zero] at this
  rw [show ((0:Nat):Int)=0 from rfl] at this
  rw [this]
  unfold rv rvR
  cases hd:dig 5 (t.drop a) with
  | none=>rfl
  | some x =>
   have hc:=A2g hd
   rw [← A3m] at hc
   simp only []
   by_cases g1:1000000000<x.1
   ·rw [if_pos (.inl g1),if_neg (by omega)]
   ·by_cases g2:vt (x.1:Int)=(t.drop a).take x.2
    ·have:=hc.1 g2
     rw [if_neg (by rintro (g | g); exact g1 g; exact this ⟨g.2,g.1⟩),if_pos ⟨by omega,g2⟩]
    ·rw [if_pos,if_neg (fun g=>g2 g.2)]
     refine .inr ?_
     have:¬ ¬ (1<x.2∧(t.drop a)[x.2 - 1]?=some 0):=fun h=>g2 (hc.2 h)
     have:=Classical.not_not.1 this
     exact ⟨this.2,this.1⟩
 ·rw [if_neg (by unfold inR; simp; omega),A3c (by omega)]; rfl
def rs (t:List UInt8):Option (List UInt8×Nat):=match rv t 0 with
 | some x=>if x.1≤20000∧x.2+x.1≤t.length then some ((t.drop x.2).take x.1,x.2+x.1) else none
 | none=>none
def rsR (o:Option (List UInt8×Nat)):List UInt8×Int×Bool:=match o with
 | some x=>(x.1,(x.2:Int),true)
 | none=>([],0,false)
theorem sub?_mid {α:Type} {l:List α} {i n:Nat} (h:i+n≤l.length):sub? l (i:Int) ((i+n:Nat):Int)=some ((l.drop i).take n):=by
 unfold sub?
 rw [if_pos (by omega)]
 have e1:((i+n:Nat):Int).toNat=i+n:=by omega
 have e2:(i:Int).toNat=i:=by omega
 rw [e1,e2,List.drop_take]
 congr 2
 omega
theorem A6e {t:List UInt8} (ht:t.length≤8388608) {n p:Nat} (h2:p≤t.length) (h3:n≤1000000000):((if !true then some true else (if decide ((n:Int)>20000) then some true else (if decide ((n:Int)>(w64 ((t.length:Int) - (p:Int)))) then some true else some false))):Option Bool).bind (fun y2=>(if y2 then some (([]:List UInt8),(0:Int),false) else (sub? t (p:Int) (w64 ((p:Int)+(n:Int)))).bind fun v3=>some (v3,w64 ((p:Int)+(n:Int)),true)))=some (rsR (if n≤20000∧p+n≤t.length then some ((t.drop p).take n,p+n) else none)):=by
 have e1:w64 ((t.length:Int) - (p:Int))=(t.length:Int) - p:=B7 (by omega) (by omega)
 have e2:w64 ((p:Int)+(n:Int))=((p+n:Nat):Int):=by rw [B7 (by omega) (by omega)]; omega
 rw [e1,e2]
 by_cases g1:20000<n
 ·rw [if_neg (by simp),if_pos (by simp <;> omega),if_neg (by omega)]; rfl
 ·rw [if_neg (by simp),if_neg (by simp <;> omega)]
  by_cases g2:p+n≤t.length
  ·rw [if_neg (by simp <;> omega),if_pos ⟨by omega,g2⟩,ob,if_neg (by simp),sub?_mid g2]; rfl
  ·rw [if_pos (by simp <;> omega),if_neg (by omega)]; rfl
theorem A8z {t:List UInt8} (ht:t.length≤8388608):((if !(rvR (rv t 0)).2.2 then some true else (if decide ((rvR (rv t 0)).1>20000) then some true else (if decide ((rvR (rv t 0)).1>(w64 ((t.length:Int) - (rvR (rv t 0)).2.1))) then some true else some false))):Option Bool).bind (fun y2=>(if y2 then some (([]:List UInt8),(0:Int),false) else (sub? t (rvR (rv t 0)).2.1 (w64 ((rvR (rv t 0)).2.1+(rvR (rv t 0)).1))).bind fun v3=>some (v3,w64 ((rvR (rv t 0)).2.1+(rvR (rv t 0)).1),true)))=some (rsR (rs t)):=by
 unfold rs
 cases h:rv t 0 with
 | none=>rfl
 | some x =>
  obtain ⟨h1,h2,h3⟩:=Km h
  exact A6e ht h2 h3
theorem A6h {t:List UInt8} (ht:t.length≤8388608):L6 t 0=some (rsR (rs t)):=by
 unfold L6
 rw [show (0:Int)=((0:Nat):Int) from rfl,Mw (by omega) 0,ob]
 exact A8z ht
theorem A6k {t:List UInt8} (ht:t.length≤8388608):G7 t 0=some (rsR (rs t)):=by
 unfold G7
 rw [show (0:Int)=((0:Nat):Int) from rfl,Eo (by omega) 0,ob]
 exact A8z ht
theorem A8u {s r:List UInt8} (h:s.length≤20000):rs (short s++r)=some (s,(short s).length):=by
 unfold rs
 rw [A21 (n:=s.length) (r:=s++r) (by simp [short]) (by omega)]
 have hl:(short s).length=(vt (s.length:Int)).length+s.length:=by simp [short]
 simp only [Nat.zero_add]
 rw [if_pos ⟨h,by rw [List.length_append,hl]; omega⟩]
 simp [short]
theorem A2u {t:List UInt8} {x:List UInt8×Nat} (h:rs t=some x):x.2≤t.length∧x.1.length≤20000:=by
 unfold rs at h
 split at h
 ·rename_i y hy
  split at h
  ·rename_i hc
   cases h
   refine ⟨hc.2,?_⟩
   simp only [List.length_take]
   omega
  ·cases h
 ·cases h
def us (s:List UInt8):Option (List UInt8):=if 4≤s.length∧s.length≤20004∧s.drop (s.length - 4)=sealL (s.take (s.length - 4)) then some (s.take (s.length - 4)) else none
def usR (o:Option (List UInt8)):List UInt8×Bool:=match o with
 | some x=>(x,true)
 | none=>([],false)
theorem sub?_tail {α:Type} {l:List α} {i:Nat} (h:i≤l.length):sub? l (i:Int) (l.length:Int)=some (l.drop i):=by
 unfold sub?
 rw [if_pos (by omega)]
 simp
theorem A2v {s:List UInt8} (hs:s.length≤8388608):Bq s=some (usR (us s)):=by
 unfold Bq us
 by_cases h4:4≤s.length
 ·have e:w64 ((s.length:Int) - 4)=((s.length - 4:Nat):Int):=by rw [B7 (by omega) (by omega)]; omega
  rw [e,if_neg (by simp <;> omega)]
  by_cases h5:s.length≤20004
  ·rw [if_neg (by simp <;> omega),sub?_tail (by omega),ob,sub?_take (by omega),ob,Yo (by simp <;> omega),ob,A25,ob]
   by_cases h6:s.drop (s.length - 4)=sealL (s.take (s.length - 4))
   ·rw [if_neg (by simp only [Bool.not_eq_true',beq_eq_false_iff_ne,ne_eq,Classical.not_not]; exact h6),ob,if_neg (by simp),ob,if_pos ⟨h4,h5,h6⟩]; rfl
   ·rw [if_pos (by simp only [Bool.not_eq_true',beq_eq_false_iff_ne,ne_eq]; exact h6),if_neg (fun h=>h6 h.2.2)]; rfl
  ·rw [if_pos (by simp <;> omega),if_neg (by omega)]; rfl
 ·have e:w64 ((s.length:Int) - 4)=(s.length:Int) - 4:=B7 (by omega) (by omega)
  rw [e,if_pos (by simp <;> omega),if_neg (by omega)]; rfl
theorem A3b {s:List UInt8} (hs:s.length≤8388608):Br s=some (usR (us s)):=by
 unfold Br us
 rw [P3,ob]
 by_cases h4:4≤s.length
 ·have e:w64 ((s.length:Int) - 4)=((s.length - 4:Nat):Int):=by rw [B7 (by omega) (by omega)]; omega
  rw [e]
  by_cases h5:s.length≤20004
  ·rw [if_pos (by rw [Y4]; omega),sub?_tail (by omega),ob,sub?_take (by omega),ob,Uv (by simp <;> omega),ob]
   by_cases h6:s.drop (s.length - 4)=sealL (s.take (s.length - 4))
   ·rw [if_neg (by simp only [Bool.not_eq_true',beq_eq_false_iff_ne,ne_eq,Classical.not_not]; exact h6),ob,if_neg (by simp),ob,if_pos ⟨h4,h5,h6⟩]; rfl
   ·rw [if_pos (by simp only [Bool.not_eq_true',beq_eq_false_iff_ne,ne_eq]; exact h6),if_neg (fun h=>h6 h.2.2)]; rfl
  ·rw [if_neg (by rw [Y4]; omega),if_neg (by omega)]; rfl
 ·have e:w64 ((s.length:Int) - 4)=(s.length:Int) - 4:=B7 (by omega) (by omega)
  rw [e,if_neg (by rw [Y4]; omega),if_neg (by omega)]; rfl
theorem A7j {b:List UInt8} (h:b.length≤20000):us (b++sealL b)=some b:=by
 have hl:(b++sealL b).length=b.length+4:=by rw [List.length_append,Ag]
 unfold us
 rw [hl,Nat.add_sub_cancel,List.take_left,List.drop_left,if_pos ⟨by omega,by omega,rfl⟩]
theorem A8l {s x:List UInt8} (h:us s=some x):x.length≤s.length:=by
 unfold us at h
 split at h
 ·cases h; simp
 ·cases h
def chunk (T:List UInt8) (j:Nat):List UInt8:=(T.drop (32*j)).take 32
theorem Jp (T:List UInt8) (j:Nat):(chunk T j).length=min 32 (T.length - 32*j):=by simp [chunk]
theorem A7u {T:List UInt8} {j:Nat} (hj:32*j<T.length):sub? T ((32*j:Nat):Int) ((32*j+(chunk T j).length:Nat):Int)=some (chunk T j):=by
 have hl:=Jp T j
 rw [sub?_mid (by omega)]
 congr 1
 rw [hl]
 unfold chunk
 by_cases c:32≤T.length - 32*j
 ·rw [Nat.min_eq_left c]
 ·rw [Nat.min_eq_right (by omega),List.take_of_length_le (by simp),List.take_of_length_le (by simp; omega)]
def wb1 (s:Nat) (T:List UInt8) (j:Nat) (d:TDisk):Option TDisk:=if s+j<d.Sectors.length∧(rsec d (s+j)).length=32 then wr d ((s+j:Nat):Int) (chunk T j++(rsec d (s+j)).drop (chunk T j).length) else none
def wbN (s:Nat) (T:List UInt8):Nat→Nat→TDisk→Option TDisk
 | 0,_,d=>some d
 | n+1,j,d=>if 32*j<T.length then (match wb1 s T j d with | some d'=>wbN s T n (j+1) d' | none=>none) else some d
theorem A5w {s:Nat} {T:List UInt8} {j:Nat} {d d':TDisk} (h:wb1 s T j d=some d'):C9 d'=true:=by
 unfold wb1 at h
 split at h
 ·exact (A96 h).1
 ·cases h
theorem A8e {s:Nat} {T:List UInt8}:∀ {n j:Nat} {d d':TDisk},C9 d=true→wbN s T n j d=some d'→C9 d'=true
 | 0,j,d,d',hd,h=>by simp only [wbN,qS] at h; subst h; exact hd
 | n+1,j,d,d',hd,h=>by
  rw [wbN] at h
  split at h
  ·split at h
   ·rename_i d1 h1
    exact A8e (A5w h1) h
   ·cases h
  ·cases h; exact hd
theorem A3a {x0 d:TDisk} {T:List UInt8} {s j:Nat} (hx:DkS x0) (hd:C9 d=true) (hT:T.length≤100000) (hs:s≤1000) (hj:32*j<T.length) :
  D0 x0 (s:Int) 0 T (((32*j:Nat):Int),d.Sectors,d.Cache)=some (match wb1 s T j d with | some d'=>.inl (((32*j+(chunk T j).length:Nat):Int),d'.Sectors,d'.Cache) | none=>.inr (.inl (x0,false))):=by
 have hD:=DkS.ofOk hd
 have hl:=Jp T j
 have w0:w64 (0+((32*j:Nat):Int))=((32*j:Nat):Int):=by rw [B7 (by omega) (by omega)]; omega
 have t0:Int.tmod ((32*j:Nat):Int) 32=0:=by rw [Int.tmod_eq_emod_of_nonneg (by omega)]; omega
 have t1:Int.tdiv ((32*j:Nat):Int) 32=(j:Int):=by rw [Int.tdiv_eq_ediv_of_nonneg (by omega)]; omega
 have w1:w64 (32 - 0)=32:=by rw [B7 (by omega) (by omega)]; rfl
 have w2:w64 ((T.length:Int) - ((32*j:Nat):Int))=(T.length:Int) - ((32*j:Nat):Int):=B7 (by omega) (by omega)
 have w3:w64 (j:Int)=j:=B7 (by omega) (by omega)
 have w4:w64 ((s:Int)+(j:Int))=((s+j:Nat):Int):=by rw [B7 (by omega) (by omega)]; omega
 have hdd:({ Sectors:=d.Sectors,Cache:=d.Cache }:TDisk)=d:=rfl
 have fin:∀ m:Int,m=((chunk T j).length:Int) →
   ((J6 d ((s+j:Nat):Int)).bind fun v8=>((if !v8.2 then some true else (if ((v8.1.length:Int) != 32) then some true else some false)):Option Bool).bind (fun y9=>(if y9 then (D2 x0).bind fun v17=>some (.inr (.inl (({ Sectors:=v17.Sectors,Cache:=v17.Cache }:TDisk),false))) else (sub? v8.1 0 0).bind fun v10=>(sub? T ((32*j:Nat):Int) (w64 (((32*j:Nat):Int)+m))).bind fun v11=>(cat? v10 v11).bind fun v12=>(sub? v8.1 (w64 (0+m)) (v8.1.length:Int)).bind fun v13=>(cat? v12 v13).bind fun v14=>(K0 d ((s+j:Nat):Int) v14).bind fun v15=>(if !v15.2 then (D2 x0).bind fun v16=>some (.inr (.inl (({ Sectors:=v16.Sectors,Cache:=v16.Cache }:TDisk),false))) else some (.inl (w64 (((32*j:Nat):Int)+m),v15.1.Sectors,v15.1.Cache))))):Option ((Int×(List (List UInt8))×(List TWrite)) ⊕ ((TDisk×Bool) ⊕ ((List (List UInt8))×(List TWrite)))))=some (match wb1 s T j d with | some d'=>.inl (((32*j+(chunk T j).length:Nat):Int),d'.Sectors,d'.Cache) | none=>.inr (.inl (x0,false))):=by
  rintro _ rfl
  have f1:w64 (((32*j:Nat):Int)+((chunk T j).length:Int))=((32*j+(chunk T j).length:Nat):Int):=by rw [B7 (by omega) (by omega)]; omega
  have f2:w64 (0+((chunk T j).length:Int))=((chunk T j).length:Int):=by rw [B7 (by omega) (by omega)]; omega
  rw [Bs hD,ob,f1,f2]
  unfold wb1
  by_cases c1:s+j<d.Sectors.length
  ·rw [Mm c1]
   dsimp only
   by_cases c2:(rsec d (s+j)).length=32
   ·rw [if_neg (by simp),if_neg (by simp [c2]),ob,if_neg (by simp),if_pos ⟨c1,c2⟩]
    have g1:sub? (rsec d (s+j)) 0 0=some []:=by unfold sub?; simp
    rw [g1,ob,A7u hj,ob,cat?_ok (by simp; omega),ob,List.nil_append,sub?_tail (by omega),ob,cat?_ok (by simp; omega),ob,A3i hD,ob]
    cases wr d ((s+j:Nat):Int) (chunk T j++(rsec d (s+j)).drop (chunk T j).length) with
    | none=>simp [wrR,P0 hx]
    | some d'=>simp [wrR]
   ·rw [if_neg (by simp),if_pos (by simp; omega),ob,if_pos rfl,P0 hx,ob,if_neg (fun h=>c2 h.2)]
  ·rw [Pf (by omega)]
   dsimp only
   rw [if_pos (by simp),ob,if_pos rfl,P0 hx,ob,if_neg (fun h=>c1 h.1)]
 unfold D0
 rw [if_pos (by simp; omega),w0,t0,t1,w1,w2,w3,w4]
 dsimp only
 rw [hdd]
 by_cases c:(32:Int)>(T.length:Int) - ((32*j:Nat):Int)
 ·rw [if_pos (by simpa using c)]
  exact fin _ (by omega)
 ·rw [if_neg (by simpa using c)]
  exact fin _ (by omega)
theorem Tt {x0:TDisk} {T:List UInt8} {s:Nat} (hx:DkS x0) (hT:T.length≤100000) (hs:s≤1000):∀ (n j:Nat) (d:TDisk),T.length≤32*(j+n)→C9 d=true →
  iter (D0 x0 (s:Int) 0 T) (((min (32*j) T.length:Nat):Int),d.Sectors,d.Cache)=some (match wbN s T n j d with | some d'=>.inr (d'.Sectors,d'.Cache) | none=>.inl (x0,false))
 | 0,j,d,hn,hd=>by
  rw [wbN,Nat.min_eq_right (by omega)]
  refine D6 ?_
  unfold D0
  rw [if_neg (by simp)]
 | n+1,j,d,hn,hd=>by
  rw [wbN]
  by_cases c:32*j<T.length
  ·rw [if_pos c,Nat.min_eq_left (by omega)]
   have hst:=A3a (x0:=x0) (s:=s) hx hd hT hs c
   cases h1:wb1 s T j d with
   | none =>
    rw [h1] at hst
    exact D6 hst
   | some d' =>
    rw [h1] at hst
    rw [V0 hst]
    have hl:=Jp T j
    have e:32*j+(chunk T j).length=min (32*(j+1)) T.length:=by omega
    rw [e]
    exact Tt hx hT hs n (j+1) d' (by omega) (A5w h1)
  ·rw [if_neg c,Nat.min_eq_right (by omega)]
   refine D6 ?_
   unfold D0
   rw [if_neg (by simp)]
def writeB (d:TDisk) (s:Nat) (T:List UInt8):TDisk×Bool:=if s<d.Sectors.length then wrR d (wbN s T (T.length+1) 0 d) else (d,false)
theorem Mv {d:TDisk} (h:C9 d=true) (s:Nat) (T:List UInt8):C9 (writeB d s T).1=true:=by
 unfold writeB
 split
 ·cases hw:wbN s T (T.length+1) 0 d with
  | none=>exact h
  | some d'=>exact A8e h hw
 ·exact h
theorem Mk {d:TDisk} (h:C9 d=true) {s:Nat} (hs:s≤1000) {T:List UInt8} (hT:T.length≤100000):E6 d (s:Int) 0 T=some (writeB d s T):=by
 have hD:=DkS.ofOk h
 have h1:=hD.sec.1
 unfold E6 writeB
 rw [P0 hD,ob,K4,ob,if_pos (by unfold inR; simp),K4,ob,B7 (n:=(d.Sectors.length:Int) - 1) (by omega) (by omega),Ey hD,h]
 by_cases c:s<d.Sectors.length
 ·rw [if_pos (by unfold inR; simp; omega),ob,if_pos rfl,ob,if_neg (by simp),if_pos c]
  have:=Tt hD hT hs (T.length+1) 0 d (by omega) h
  rw [show ((min (32*0) T.length:Nat):Int)=0 by simp] at this
  rw [this,ob]
  cases wbN s T (T.length+1) 0 d <;> rfl
 ·rw [if_neg (by unfold inR; simp; omega),ob,if_pos rfl,if_neg c]
theorem A2y {x0 d:TDisk} {T:List UInt8} {s j:Nat} (hd:C9 d=true) (hT:T.length≤100000) (hs:s≤1000) (hj:32*j<T.length) :
  L8 (s:Int) x0 (((32*j:Nat):Int),T.drop (32*j),d.Sectors,d.Cache)=some (match wb1 s T j d with | some d'=>.inl (((32*j+(chunk T j).length:Nat):Int),T.drop (32*j+(chunk T j).length),d'.Sectors,d'.Cache) | none=>.inr (.inl (x0,false))):=by
 have hD:=DkS.ofOk hd
 have hc:=(K3.1 hd).2.1
 have hl:=Jp T j
 have hlen:(T.drop (32*j)).length=T.length - 32*j:=by simp
 have t0:Int.tmod ((32*j:Nat):Int) 32=0:=by rw [Int.tmod_eq_emod_of_nonneg (by omega)]; omega
 have t1:Int.tdiv ((32*j:Nat):Int) 32=(j:Int):=by rw [Int.tdiv_eq_ediv_of_nonneg (by omega)]; omega
 have w1:w64 (32 - 0)=32:=by rw [B7 (by omega) (by omega)]; rfl
 have w3:w64 (j:Int)=j:=B7 (by omega) (by omega)
 have w4:w64 ((s:Int)+(j:Int))=((s+j:Nat):Int):=by rw [B7 (by omega) (by omega)]; omega
 have hm:(if (32:Int)<((T.drop (32*j)).length:Int) then (32:Int) else ((T.drop (32*j)).length:Int))=((chunk T j).length:Int):=by
  rw [hlen,hl]
  split <;> omega
 have hdd:({ Sectors:=d.Sectors,Cache:=d.Cache }:TDisk)=d:=rfl
 have f1:w64 (((32*j:Nat):Int)+((chunk T j).length:Int))=((32*j+(chunk T j).length:Nat):Int):=by rw [B7 (by omega) (by omega)]; omega
 have f2:w64 (0+((chunk T j).length:Int))=((chunk T j).length:Int):=by rw [B7 (by omega) (by omega)]; omega
 unfold L8
 rw [if_pos (by simp only [Bool.not_eq_true',beq_eq_false_iff_ne,ne_eq]; intro h0; have:=congrArg List.length h0; rw [hlen] at this; simp at this; omega)]
 dsimp only
 rw [t0,t1,w1,w3,w4,hdd,hm,f1,f2,Gs hD,ob]
 unfold wb1
 by_cases c1:s+j<d.Sectors.length
 ·rw [Mm c1]
  dsimp only
  by_cases c2:(rsec d (s+j)).length=32
  ·rw [if_neg (by simp),if_neg (by simp [c2]),ob,if_neg (by simp),if_pos ⟨c1,c2⟩]
   have g1:sub? (rsec d (s+j)) 0 0=some []:=by unfold sub?; simp
   have g2:sub? (T.drop (32*j)) 0 ((chunk T j).length:Int)=some (chunk T j):=by
    rw [sub?_take (by omega)]
    congr 1
    rw [hl]
    unfold chunk
    by_cases c:32≤T.length - 32*j
    ·rw [Nat.min_eq_left c]
    ·rw [Nat.min_eq_right (by omega),List.take_of_length_le (by simp),List.take_of_length_le (by simp; omega)]
   rw [g1,ob,g2,ob,cat?_ok (by simp; omega),ob,List.nil_append,sub?_tail (by omega),ob,cat?_ok (by simp; omega),ob,Aa4 hD (by simp; omega) (by omega),ob]
   cases wr d ((s+j:Nat):Int) (chunk T j++(rsec d (s+j)).drop (chunk T j).length) with
   | none=>simp [wrR]
   | some d' =>
    simp only [wrR,Bool.not_true,Bool.false_eq_true,if_false]
    rw [sub?_tail (by omega),ob,List.drop_drop]
  ·rw [if_neg (by simp),if_pos (by simp; omega),ob,if_pos rfl,if_neg (fun h=>c2 h.2)]
 ·rw [Pf (by omega)]
  dsimp only
  rw [if_pos (by simp),ob,if_pos rfl,if_neg (fun h=>c1 h.1)]
theorem Tl {x0:TDisk} {T:List UInt8} {s:Nat} (hT:T.length≤100000) (hs:s≤1000):∀ (n j:Nat) (d:TDisk),T.length≤32*(j+n)→C9 d=true →
  iter (L8 (s:Int) x0) (((min (32*j) T.length:Nat):Int),T.drop (min (32*j) T.length),d.Sectors,d.Cache)=some (match wbN s T n j d with | some d'=>.inr (d'.Sectors,d'.Cache) | none=>.inl (x0,false))
 | 0,j,d,hn,hd=>by
  rw [wbN,Nat.min_eq_right (by omega)]
  refine D6 ?_
  unfold L8
  rw [if_neg (by simp)]
 | n+1,j,d,hn,hd=>by
  rw [wbN]
  by_cases c:32*j<T.length
  ·rw [if_pos c,Nat.min_eq_left (by omega)]
   have hst:=A2y (x0:=x0) (s:=s) hd hT hs c
   cases h1:wb1 s T j d with
   | none =>
    rw [h1] at hst
    exact D6 hst
   | some d' =>
    rw [h1] at hst
    rw [V0 hst]
    have hl:=Jp T j
    have e:32*j+(chunk T j).length=min (32*(j+1)) T.length:=by omega
    rw [e]
    exact Tl hT hs n (j+1) d' (by omega) (A5w h1)
  ·rw [if_neg c,Nat.min_eq_right (by omega)]
   refine D6 ?_
   unfold L8
   rw [if_neg (by simp)]
theorem Xa {d:TDisk} (h:C9 d=true) {s:Nat} (hs:s≤1000) {T:List UInt8} (hT:T.length≤100000):T7 d (s:Int) 0 T=some (writeB d s T):=by
 have hD:=DkS.ofOk h
 have h1:=hD.sec.1
 unfold T7 writeB
 rw [Fc hD,ob,P3,ob,if_pos (by unfold inR; simp),P3,ob,B7 (n:=(d.Sectors.length:Int) - 1) (by omega) (by omega)]
 by_cases c:s<d.Sectors.length
 ·rw [if_pos (by unfold inR; simp; omega),ob,if_neg (by simp),if_pos c,ob]
  have:=Tl (x0:=d) hT hs (T.length+1) 0 d (by omega) h
  rw [show min (32*0) T.length=0 by simp] at this
  rw [show ((0:Nat):Int)=0 from rfl,List.drop_zero] at this
  rw [this,ob]
  cases wbN s T (T.length+1) 0 d <;> rfl
 ·rw [if_neg (by unfold inR; simp; omega),ob,if_pos rfl,if_neg c]
theorem Zx (a:Int):∀ (l:List TWrite) (o:Option TWrite) (z:List UInt8),secV (l.foldl (fun o w=>if w.At==a then some w else o) o) z=secV (hit a l) (secV o z)
 | [],o,z=>rfl
 | x::l,o,z=>by
  unfold hit
  rw [List.foldl_cons,List.foldl_cons,Zx a l,Zx a l (if x.At==a then some x else none)]
  cases x.At==a <;> rfl
theorem A4t:∀ (l:List TWrite) (s:List (List UInt8)),(∀ w∈l,0≤w.At)→∀ a,a<s.length→(l.foldl setW s)[a]?=some (secV (hit (a:Int) l) ((s[a]?).getD []))
 | [],s,_,a,ha=>by simp [hit,secV,ha]
 | w::l,s,h,a,ha=>by
  rw [List.foldl_cons,A4t l _ (fun w hw=>h w (List.mem_cons_of_mem _ hw)) a (by simp [setW]; exact ha)]
  have e:hit (a:Int) (w::l)=l.foldl (fun o w=>if w.At==(a:Int) then some w else o) (if w.At==(a:Int) then some w else none):=rfl
  rw [e,Zx]
  have h0:=h w List.mem_cons_self
  congr 2
  unfold setW
  by_cases c:w.At=(a:Int)
  ·rw [if_pos (by simpa using c),show w.At.toNat=a by omega,List.getElem?_set_self ha]; rfl
  ·rw [if_neg (by simpa using c),List.getElem?_set_ne (by omega)]; rfl
theorem Kq {d:TDisk} (h:C9 d=true) {a:Nat} (ha:a<d.Sectors.length):(rsec d a).length=32:=by
 obtain ⟨_,_,h3,h4⟩:=K3.1 h
 unfold rsec secV
 split
 ·rename_i w hw; exact (h4 w (A67 hw)).2
 ·rw [qG ha]; exact h3 _ (List.getElem_mem ha)
theorem A81 {d:TDisk} (h:C9 d=true):(flush d).Sectors.length=d.Sectors.length:=by
 unfold flush; rw [if_pos h]; exact Ue _ _
theorem A73 {d:TDisk} (h:C9 d=true) {a:Nat} (ha:a<d.Sectors.length):(flush d).Sectors[a]?=some (rsec d a):=by
 unfold flush; rw [if_pos h]
 exact A4t _ _ (fun w hw=>((K3.1 h).2.2.2 w hw).1.1) a ha
theorem A2f {d:TDisk} (hc:d.Cache=[]) (a:Nat):rsec d a=(d.Sectors[a]?).getD []:=by unfold rsec; rw [hc]; rfl
def poke (d:TDisk) (b:Nat) (T:List UInt8):TDisk:={ Sectors:=(List.range d.Sectors.length).map fun a=>(List.range 32).map fun q=>if b≤32*a+q∧32*a+q<b+T.length then T.getD (32*a+q - b) 0 else (rsec d a).getD q 0,Cache:=[] }
theorem Gp (d:TDisk) (b:Nat) (T:List UInt8):(poke d b T).Sectors.length=d.Sectors.length:=by simp [poke]
theorem Yf {d:TDisk} (h:C9 d=true) (b:Nat) (T:List UInt8):C9 (poke d b T)=true:=by
 rw [K3] at h ⊢
 refine ⟨by rw [Gp]; exact h.1,by simp [poke],?_,by simp [poke]⟩
 intro s hs
 simp only [poke,List.mem_map] at hs
 obtain ⟨a,_,rfl⟩:=hs
 simp
theorem A3w {d:TDisk} {b:Nat} {T:List UInt8} {a:Nat} (ha:a<d.Sectors.length):rsec (poke d b T) a=(List.range 32).map fun q=>if b≤32*a+q∧32*a+q<b+T.length then T.getD (32*a+q - b) 0 else (rsec d a).getD q 0:=by
 rw [A2f rfl]
 simp [poke,ha]
theorem A2d {d:TDisk} (h:C9 d=true) {b:Nat} {T:List UInt8} {a:Nat} (ha:a<d.Sectors.length) (hb:32*a+32≤b∨b+T.length≤32*a):rsec (poke d b T) a=rsec d a:=by
 have h32:=Kq h ha
 rw [A3w ha]
 refine List.ext_getElem? fun q=>?_
 by_cases hq:q<32
 ·rw [List.getElem?_map,List.getElem?_range hq,Option.map_some,if_neg (by omega),List.getD_eq_getElem?_getD,qG (by omega)]; rfl
 ·rw [List.getElem?_eq_none (by simp; omega),List.getElem?_eq_none (by omega)]
theorem A8d (s:List (List UInt8)) (c:List TWrite) (k a:Nat) (t:List UInt8):rsec { Sectors:=s,Cache:=c++[{ At:=(k:Int),Text:=t }] } a=if k=a then t else rsec { Sectors:=s,Cache:=c } a:=by
 unfold rsec
 simp only
 rw [Pz]
 by_cases e:k=a
 ·rw [if_pos e,if_pos (by simp [e])]; rfl
 ·rw [if_neg e,if_neg (by simp; omega)]
structure Wst (d:TDisk) (b:Nat) (T:List UInt8) (j i:Nat) (d':TDisk):Prop where
 ok:C9 d'=true
 sec:d'.Sectors=d.Sectors
 cache:d'.Cache.length=j
 ge:∀ w∈d'.Cache,(b:Int)<32*w.At+32
 le:∀ w∈d'.Cache,32*w.At<(b+T.length:Nat)
 get:∀ a q,a<d.Sectors.length→q<32→(rsec d' a)[q]?=if b≤32*a+q∧32*a+q<b+i then T[32*a+q - b]? else (rsec d a)[q]?
theorem Wst.flush {d d':TDisk} {b j:Nat} {T:List UInt8} (h:Wst d b T j T.length d') (hd:C9 d=true):flush d'=poke d b T:=by
 have hc:(V.flush d').Cache=[]:=by unfold V.flush; rw [if_pos h.ok]
 have hs:(V.flush d').Sectors=(poke d b T).Sectors:=by
  refine List.ext_getElem? fun a=>?_
  by_cases ha:a<d.Sectors.length
  ·have h32:(rsec d' a).length=32:=Kq h.ok (by rw [h.sec]; exact ha)
   have h32':=Kq hd ha
   rw [A73 h.ok (by rw [h.sec]; exact ha)]
   simp only [poke,List.getElem?_map,List.getElem?_range ha,Option.map_some]
   congr 1
   refine List.ext_getElem? fun q=>?_
   by_cases hq:q<32
   ·rw [h.get a q ha hq,List.getElem?_map,List.getElem?_range hq,Option.map_some]
    split
    ·rw [List.getD_eq_getElem?_getD,qG (by omega)]; rfl
    ·rw [List.getD_eq_getElem?_getD,qG (by omega)]; rfl
   ·rw [List.getElem?_eq_none (by omega),List.getElem?_eq_none (by simp; omega)]
  ·rw [List.getElem?_eq_none (by rw [A81 h.ok,h.sec]; omega),List.getElem?_eq_none (by rw [Gp]; omega)]
 cases hf:V.flush d' with
 | mk s c =>
  rw [hf] at hc hs
  simp only at hc hs
  rw [hc,hs]; rfl
theorem Wst.step {d d':TDisk} {b j i m:Nat} {T:List UInt8} (h:Wst d b T j i d') (hj:j<60) (hi:i<T.length) (hk:(b+i) / 32<d.Sectors.length) (hm:m=min (32 - (b+i)%32) (T.length - i)) :
  ∃ d'',wr d' (((b+i) / 32:Nat):Int) ((rsec d' ((b+i) / 32)).take ((b+i)%32)++(T.drop i).take m++(rsec d' ((b+i) / 32)).drop ((b+i)%32+m))=some d''∧Wst d b T (j+1) (i+m) d'':=by
 have h32:(rsec d' ((b+i) / 32)).length=32:=Kq h.ok (by rw [h.sec]; exact hk)
 have hl:((rsec d' ((b+i) / 32)).take ((b+i)%32)++(T.drop i).take m++(rsec d' ((b+i) / 32)).drop ((b+i)%32+m)).length=32:=by
  simp [h32]; omega
 generalize ht:(rsec d' ((b+i) / 32)).take ((b+i)%32)++(T.drop i).take m++(rsec d' ((b+i) / 32)).drop ((b+i)%32+m)=t at hl
 have hw:wr d' (((b+i) / 32:Nat):Int) t=some { Sectors:=d'.Sectors,Cache:=d'.Cache++[{ At:=(((b+i) / 32:Nat):Int),Text:=t }] }:=by
  unfold wr
  rw [if_pos]
  simp only [h.ok,Bool.true_and,Bool.and_eq_true,decide_eq_true_eq,hl,h.sec,h.cache,inR,beq_self_eq_true,true_and]
  omega
 refine ⟨_,hw,(A96 hw).1,h.sec,by simp [h.cache],?_,?_,?_⟩
 ·intro w hw
  rcases List.mem_append.1 hw with hw | hw
  ·exact h.ge w hw
  ·rw [List.mem_singleton] at hw; subst hw; simp only; omega
 ·intro w hw
  rcases List.mem_append.1 hw with hw | hw
  ·exact h.le w hw
  ·rw [List.mem_singleton] at hw; subst hw; simp only; omega
 ·intro a q ha hq
  rw [A8d]
  by_cases c:(b+i) / 32=a
  ·rw [if_pos c]
   subst c
   have g:=h.get _ q hk hq
   rw [← ht]
   by_cases c1:q<(b+i)%32
   ·rw [List.append_assoc,List.getElem?_append_left (by simp [h32]; omega),List.getElem?_take_of_lt c1,g]
    by_cases c2:b≤32*((b+i) / 32)+q
    ·rw [if_pos ⟨c2,by omega⟩,if_pos ⟨c2,by omega⟩]
    ·rw [if_neg (by omega),if_neg (by omega)]
   ·by_cases c2:q<(b+i)%32+m
    ·rw [List.append_assoc,List.getElem?_append_right (by simp [h32]; omega),List.getElem?_append_left (by simp [h32]; omega),List.getElem?_take_of_lt (by simp [h32]; omega),List.getElem?_drop,if_pos (by omega)]
     congr 1
     simp [h32]; omega
    ·rw [List.getElem?_append_right (by simp [h32]; omega),List.getElem?_drop]
     have e:(b+i)%32+m+(q - ((rsec d' ((b+i) / 32)).take ((b+i)%32)++(T.drop i).take m).length)=q:=by simp [h32]; omega
     rw [e,g,if_neg (by omega),if_neg (by omega)]
  ·have g:=h.get a q ha hq
   rw [if_neg c]
   show (rsec d' a)[q]?=_
   rw [g]
   by_cases c2:b≤32*a+q∧32*a+q<b+i
   ·rw [if_pos c2,if_pos ⟨c2.1,by omega⟩]
   ·rw [if_neg c2,if_neg (by omega)]
theorem A4l (n:Nat):Int.tmod (n:Int) 32=((n%32:Nat):Int):=by rw [Int.tmod_eq_emod_of_nonneg (by omega)]; omega
theorem A46 (n:Nat):Int.tdiv (n:Int) 32=((n / 32:Nat):Int):=by rw [Int.tdiv_eq_ediv_of_nonneg (by omega)]; omega
theorem A3k {x0 d d':TDisk} {T:List UInt8} {s t j i m:Nat} (h:Wst d (32*s+t) T j i d') (hT:T.length≤1000) (hs:s≤1000) (ht:t≤3200) (hj:j<60) (hi:i<T.length) (hk:(32*s+t+i) / 32<d.Sectors.length) (hm:m=min (32 - (32*s+t+i)%32) (T.length - i)) :
  ∃ d'',D0 x0 (s:Int) (t:Int) T ((i:Int),d'.Sectors,d'.Cache)=some (.inl (((i+m:Nat):Int),d''.Sectors,d''.Cache))∧Wst d (32*s+t) T (j+1) (i+m) d'':=by
 obtain ⟨d'',hw,hst⟩:=h.step hj hi hk hm
 refine ⟨d'',?_,hst⟩
 have hD:=DkS.ofOk h.ok
 have h32:(rsec d' ((32*s+t+i) / 32)).length=32:=Kq h.ok (by rw [h.sec]; exact hk)
 have w0:w64 ((t:Int)+(i:Int))=((t+i:Nat):Int):=by rw [B7 (by omega) (by omega)]; omega
 have e1:(t+i)%32=(32*s+t+i)%32:=by omega
 have w4:w64 ((s:Int)+w64 (((t+i) / 32:Nat):Int))=(((32*s+t+i) / 32:Nat):Int):=by rw [Gi (by omega),B7 (by omega) (by omega)]; omega
 have w5:w64 (32 - (((32*s+t+i)%32:Nat):Int))=((32 - (32*s+t+i)%32:Nat):Int):=by rw [B7 (by omega) (by omega)]; omega
 have w6:w64 ((T.length:Int) - (i:Int))=((T.length - i:Nat):Int):=by rw [B7 (by omega) (by omega)]; omega
 have hdd:({ Sectors:=d'.Sectors,Cache:=d'.Cache }:TDisk)=d':=rfl
 have fin:∀ n:Int,n=(m:Int) →
   ((J6 d' (((32*s+t+i) / 32:Nat):Int)).bind fun v8=>((if !v8.2 then some true else (if ((v8.1.length:Int) != 32) then some true else some false)):Option Bool).bind (fun y9=>(if y9 then (D2 x0).bind fun v17=>some (.inr (.inl (({ Sectors:=v17.Sectors,Cache:=v17.Cache }:TDisk),false))) else (sub? v8.1 0 (((32*s+t+i)%32:Nat):Int)).bind fun v10=>(sub? T (i:Int) (w64 ((i:Int)+n))).bind fun v11=>(cat? v10 v11).bind fun v12=>(sub? v8.1 (w64 ((((32*s+t+i)%32:Nat):Int)+n)) (v8.1.length:Int)).bind fun v13=>(cat? v12 v13).bind fun v14=>(K0 d' (((32*s+t+i) / 32:Nat):Int) v14).bind fun v15=>(if !v15.2 then (D2 x0).bind fun v16=>some (.inr (.inl (({ Sectors:=v16.Sectors,Cache:=v16.Cache }:TDisk),false))) else some (.inl (w64 ((i:Int)+n),v15.1.Sectors,v15.1.Cache))))):Option ((Int×(List (List UInt8))×(List TWrite)) ⊕ ((TDisk×Bool) ⊕ ((List (List UInt8))×(List TWrite)))))=some (.inl (((i+m:Nat):Int),d''.Sectors,d''.Cache)):=by
  rintro _ rfl
  have f1:w64 ((i:Int)+(m:Int))=((i+m:Nat):Int):=by rw [B7 (by omega) (by omega)]; omega
  have f2:w64 ((((32*s+t+i)%32:Nat):Int)+(m:Int))=(((32*s+t+i)%32+m:Nat):Int):=by rw [B7 (by omega) (by omega)]; omega
  rw [Bs hD,ob,f1,f2,Mm (by rw [h.sec]; exact hk)]
  dsimp only
  rw [if_neg (by simp),if_neg (by simp [h32]),ob,if_neg (by simp),sub?_take (by omega),ob,sub?_mid (by omega),ob,cat?_ok (by simp; omega),ob,sub?_tail (by omega),ob,cat?_ok (by simp; omega),ob,A3i hD,ob,hw]
  rfl
 unfold D0
 rw [if_pos (by simp; omega)]
 dsimp only
 rw [w0,A4l,A46,w4,e1,w5,w6,hdd]
 by_cases c:T.length - i<32 - (32*s+t+i)%32
 ·rw [if_pos (by simp; omega)]
  exact fin _ (by omega)
 ·rw [if_neg (by simp; omega)]
  exact fin _ (by omega)
theorem Tx {x0 d:TDisk} {T:List UInt8} {s t:Nat} (hT:T.length≤1000) (hs:s≤1000) (ht:t≤3200) (hn:32*s+t+T.length≤32*d.Sectors.length):∀ (n i j:Nat) (d':TDisk),T.length≤i+n→i≤T.length→(i=T.length∨32*j≤i+31∧(i=0∨(32*s+t+i)%32=0))→Wst d (32*s+t) T j i d' →
  ∃ d1 j1,iter (D0 x0 (s:Int) (t:Int) T) ((i:Int),d'.Sectors,d'.Cache)=some (.inr (d1.Sectors,d1.Cache))∧Wst d (32*s+t) T j1 T.length d1
 | 0,i,j,d',h1,h2,_,h=>by
  have:i=T.length:=by omega
  subst this
  refine ⟨d',j,D6 ?_,h⟩
  unfold D0
  rw [if_neg (by simp)]
 | n+1,i,j,d',h1,h2,h3,h=>by
  by_cases c:i<T.length
  ·obtain ⟨d'',e,hw⟩:=A3k (x0:=x0) (m:=min (32 - (32*s+t+i)%32) (T.length - i)) h hT hs ht (by omega) c (by omega) rfl
   rw [V0 e]
   exact Tx hT hs ht hn n _ (j+1) d'' (by omega) (by omega) (by omega) hw
  ·have:i=T.length:=by omega
   subst this
   refine ⟨d',j,D6 ?_,h⟩
   unfold D0
   rw [if_neg (by simp)]
theorem Wst.start {d:TDisk} (h:C9 d=true) (hc:d.Cache=[]) (b:Nat) (T:List UInt8):Wst d b T 0 0 d:=by
 refine ⟨h,rfl,by rw [hc]; rfl,by rw [hc]; simp,by rw [hc]; simp,?_⟩
 intro a q _ _
 rw [if_neg (by omega)]
theorem A0f {d:TDisk} (h:C9 d=true) (hc:d.Cache=[]) {T:List UInt8} {s t:Nat} (hT:T.length≤1000) (hs:s<d.Sectors.length) (ht:t≤3200) (hn:32*s+t+T.length≤32*d.Sectors.length) :
  ∃ d1 j,E6 d (s:Int) (t:Int) T=some (d1,true)∧Wst d (32*s+t) T j T.length d1:=by
 have hD:=DkS.ofOk h
 have h1:=hD.sec.1
 have h100:=(K3.1 h).1.2
 obtain ⟨d1,j1,e,hw⟩:=Tx (x0:=d) hT (show s≤1000 by omega) ht hn T.length 0 0 d (by omega) (by omega) (by omega) (Wst.start h hc _ T)
 refine ⟨d1,j1,?_,hw⟩
 unfold E6
 rw [P0 hD,ob,K4,ob,if_pos (by unfold inR; simp; omega),K4,ob,B7 (n:=(d.Sectors.length:Int) - 1) (by omega) (by omega),Ey hD,h]
 rw [if_pos (by unfold inR; simp; omega),ob,if_pos rfl,ob,if_neg (by simp)]
 have e':iter (D0 d (s:Int) (t:Int) T) (0,d.Sectors,d.Cache)=_:=e
 rw [e']; rfl
theorem A7o {d:TDisk} (h:C9 d=true) (hc:d.Cache=[]) {T:List UInt8} {s t:Nat} (hT:T.length≤1000) (hs:s<d.Sectors.length) (ht:t≤3200) (hn:32*s+t+T.length≤32*d.Sectors.length) :
  ∃ d1,E6 d (s:Int) (t:Int) T=some (d1,true)∧E8 d1=some (poke d (32*s+t) T):=by
 obtain ⟨d1,j,e,hw⟩:=A0f h hc hT hs ht hn
 exact ⟨d1,e,by rw [Hx (DkS.ofOk hw.ok),hw.flush h]⟩
theorem Zj {x:TRec} (hk:recOk x=true):x.User.length≤8∧x.Name.length≤8∧x.Text.length≤100:=by
 unfold recOk wordOk inR at hk
 simp only [Bool.and_eq_true,decide_eq_true_eq] at hk
 obtain ⟨⟨⟨⟨_,h1⟩,_⟩,_⟩,h2⟩:=hk
 refine ⟨?_,?_,?_⟩
 ·split at h1
  ·simp only [Bool.and_eq_true,decide_eq_true_eq] at h1; omega
  ·simp only [Bool.and_eq_true,beq_iff_eq] at h1; rw [h1.1.1]; simp
 ·split at h1
  ·simp only [Bool.and_eq_true,decide_eq_true_eq] at h1; omega
  ·simp only [Bool.and_eq_true,beq_iff_eq] at h1; rw [h1.1.2]; simp
 ·split at h2
  ·simpa using h2
  ·simp at h2; rw [h2]; simp
def J0 (f:TFrame):Bool:=inR f.Gen 1 1000000000&&inR f.Seq 1 1000000000&&inR f.Body.length 1 180
theorem Td (f:TFrame):Am f=some (J0 f):=by
 unfold Am J0
 simp only [K4,ob]
 cases inR f.Gen 1 1000000000 <;> cases inR f.Seq 1 1000000000 <;> simp
theorem Kp (f:TFrame):W3 f=some (J0 f):=by
 unfold W3 J0
 simp only [P3,ob]
 cases inR f.Gen 1 1000000000 <;> cases inR f.Seq 1 1000000000 <;> simp
theorem Ba {f:TFrame} (h:J0 f=true):(1≤f.Gen∧f.Gen≤1000000000)∧(1≤f.Seq∧f.Seq≤1000000000)∧1≤f.Body.length∧f.Body.length≤180:=by
 unfold J0 inR at h
 simp only [Bool.and_eq_true,decide_eq_true_eq] at h
 omega
def frameT (f:TFrame):List UInt8:=vt f.Gen++vt f.Seq++vt f.Body.length++f.Body
def E7 (f:TFrame):List UInt8×Bool:=if J0 f then (frameT f++sealL (frameT f),true) else ([],false)
theorem Hv {f:TFrame} (h:J0 f=true):(frameT f).length≤213:=by
 obtain ⟨h1,h2,h3,h4⟩:=Ba h
 have l1:=K8 (n:=f.Gen) (by omega)
 have l2:=K8 (n:=f.Seq) (by omega)
 have l3:=K8 (n:=f.Body.length) (by omega)
 unfold frameT
 simp; omega
theorem W4 (f:TFrame):F6 f=some (E7 f):=by
 unfold F6 E7
 rw [Td,ob]
 cases hk:J0 f with
 | false=>rfl
 | true =>
  obtain ⟨h1,h2,h3,h4⟩:=Ba hk
  have l1:=K8 (n:=f.Gen) (by omega)
  have l2:=K8 (n:=f.Seq) (by omega)
  have l3:=K8 (n:=f.Body.length) (by omega)
  have lt:=Hv hk
  simp only [if_true]
  rw [U2 (by omega) (by omega),ob,U2 (by omega) (by omega),ob,cat?_ok (by omega),ob,U2 (by omega) (by omega),ob,cat?_ok (by simp; omega),ob,cat?_ok (by simp; omega),ob]
  rw [show vt f.Gen++vt f.Seq++vt f.Body.length++f.Body=frameT f from rfl,Wz (by omega),ob]
  unfold sealed
  rw [if_neg (by omega)]
theorem Lz (f:TFrame):R2 f=some (E7 f):=by
 unfold R2 E7
 rw [Kp,ob]
 cases hk:J0 f with
 | false=>rfl
 | true =>
  obtain ⟨h1,h2,h3,h4⟩:=Ba hk
  have l1:=K8 (n:=f.Gen) (by omega)
  have l2:=K8 (n:=f.Seq) (by omega)
  have l3:=K8 (n:=f.Body.length) (by omega)
  have lt:=Hv hk
  simp only [if_true]
  rw [Ct (by omega) (by omega),ob,Ct (by omega) (by omega),ob,cat?_ok (by omega),ob,Ct (by omega) (by omega),ob,cat?_ok (by simp; omega),ob,cat?_ok (by simp; omega),ob]
  rw [show vt f.Gen++vt f.Seq++vt f.Body.length++f.Body=frameT f from rfl,A47 (by omega),ob]
  unfold sealed
  rw [if_neg (by omega)]
def frame0:TFrame:={ Gen:=0,Seq:=0,Body:=[] }
def J9 (x:TItem) (gen:Int):TFrame×Bool:=if (recText x.Rec).2&&J0 { Gen:=gen,Seq:=x.Seq,Body:=(recText x.Rec).1 } then ({ Gen:=gen,Seq:=x.Seq,Body:=(recText x.Rec).1 },true) else (frame0,false)
theorem Zz {x:TItem} (h:RecS x.Rec) (gen:Int):Ae x gen=some (J9 x gen):=by
 unfold Ae J9
 simp only [Ko h,ob,Td]
 cases (recText x.Rec).2 <;> cases J0 { Gen:=gen,Seq:=x.Seq,Body:=(recText x.Rec).1 } <;> rfl
structure LgN (g:TLog):Prop where
 used:g.Used.length≤1048576
 items:∀ x∈g.Used,x.Items.length≤1048576∧∀ y∈x.Items,A4n y
 tot:(g.Used.map fun x=>x.Items.length).sum≤1048576
def D1 (g:TLog):List TItem:=g.Used.flatMap fun x=>x.Items
theorem A3y {g:TLog} (h:LgN g) (i:Nat):((g.Used.take i).flatMap fun x=>x.Items).length≤1048576:=by
 rw [List.length_flatMap]
 have e:((g.Used.take i).map fun x=>x.Items.length).sum≤(g.Used.map fun x=>x.Items.length).sum:=by
  conv=>rhs; rw [← List.take_append_drop i g.Used]
  rw [List.map_append,List.sum_append]; omega
 have:=h.tot
 omega
theorem Zt {g:TLog} (h:LgN g) {step:Int×List TItem→Option ((Int×List TItem) ⊕ List TItem)}
  (h1:∀ (i:Nat) (o:List TItem) (hi:i<g.Used.length),step ((i:Int),o)=(app? 96 o g.Used[i].Items).bind fun v=>some (.inl (((i+1:Nat):Int),v)))
  (h2:∀ o,step ((g.Used.length:Int),o)=some (.inr o)):iter step (0,[])=some (D1 g):=by
 have:=K7 (step:=step) (fun i=>((i:Int),(g.Used.take i).flatMap fun x=>x.Items)) g.Used.length (r:=D1 g) ?_ ?_
 ·simpa using this
 ·intro i hi
  have e:((g.Used.take (i+1)).flatMap fun x=>x.Items)=((g.Used.take i).flatMap fun x=>x.Items)++g.Used[i].Items:=by
   rw [List.take_succ_eq_append_getElem hi,List.flatMap_append]; simp
  have hl:=A3y h (i+1)
  rw [e,List.length_append] at hl
  rw [h1 i _ hi,app?_ok (by omega) (by omega),e]; rfl
 ·rw [h2,List.take_length]; rfl
theorem A38 {g:TLog} (h:LgN g):Cy g=some (D1 g):=by
 unfold Cy
 rw [Zt h]
 ·rfl
 ·intro i o hi
  have:=h.used
  unfold Dk
  simp only [dlt hi,if_true,at?_nat hi,ob,C5 (show i<9223372036854775807 by omega)]
 ·intro o; unfold Dk; simp
theorem A2o {g:TLog} (h:LgN g):Cz g=some (D1 g):=by
 unfold Cz
 rw [Zt h]
 ·rfl
 ·intro i o hi
  have:=h.used
  unfold Dm
  simp only [dlt hi,if_true,at?_nat hi,ob,C5 (show i<9223372036854775807 by omega)]
 ·intro o; unfold Dm; simp
theorem A2j {n:Nat} {p:Nat→Bool} {step:Int×List Int→Option ((Int×List Int) ⊕ List Int)} (hn:n≤1048576)
  (h1:∀ (i:Nat) (o:List Int),i<n→step ((i:Int),o)=if p i then (app? 8 o [(i:Int)]).bind fun v=>some (.inl (((i+1:Nat):Int),v)) else some (.inl (((i+1:Nat):Int),o)))
  (h2:∀ o,step ((n:Int),o)=some (.inr o)):iter step (0,[])=some (((List.range n).filter p).map fun (k:Nat)=>(k:Int)):=by
 have:=K7 (step:=step) (fun i=>((i:Int),((List.range i).filter p).map fun (k:Nat)=>(k:Int))) n (r:=((List.range n).filter p).map fun (k:Nat)=>(k:Int)) ?_ (h2 _)
 ·simpa using this
 ·intro i hi
  have hl:=List.length_filter_le p (List.range i)
  rw [List.length_range] at hl
  rw [h1 i _ hi,List.range_succ,List.filter_append,List.map_append]
  by_cases hp:p i=true
  ·rw [if_pos hp,app?_ok (by simp; omega) (by simp; omega),List.filter_cons,if_pos hp]; rfl
  ·rw [if_neg hp,List.filter_cons,if_neg hp]; simp
def usedNo (g:TLog) (no:Int):Bool:=g.Used.any fun s=>s.No==no
def nSegs (g:TLog):Nat:=if 11<g.Segs then 11 else g.Segs.toNat
theorem A48 (g:TLog):nSegs g≤11:=by unfold nSegs; split <;> omega
def freeSegs (g:TLog):List Int:=((List.range (nSegs g)).filter fun i:Nat=>!usedNo g (i:Int)).map fun (k:Nat)=>(k:Int)
theorem A19 {g:TLog} (h:g.Used.length≤1048576):Bk g=some (freeSegs g):=by
 have hn:=A48 g
 unfold Bk freeSegs
 rw [A2j (n:=nSegs g) (p:=fun i=>!usedNo g (i:Int)) (by omega)]
 ·rfl
 ·intro i o hi
  have hc:=Ed (x0:=g.Used) (x1:=(i:Int)) (q:=fun y=>y.No==(i:Int)) (by omega) (fun y _=>rfl)
  have hlt:decide ((i:Int)<(if 11<g.Segs then 11 else g.Segs))=true:=by
   unfold nSegs at hi
   split at hi <;> rename_i c
   ·rw [if_pos c]; simp; omega
   ·rw [if_neg c]; simp; omega
  unfold Ce
  simp only [hlt,if_true,hc,ob,C5 (show i<9223372036854775807 by omega)]
  unfold usedNo
  cases g.Used.any fun s=>s.No==(i:Int) <;> rfl
 ·intro o
  unfold Ce
  have hlt:decide (((nSegs g:Nat):Int)<(if 11<g.Segs then 11 else g.Segs))=false:=by
   unfold nSegs
   split <;> rename_i c
   ·simp
   ·simp; omega
  simp [hlt]
theorem Pv {g:TLog} (h:g.Used.length≤1048576):Q3 g=some (freeSegs g):=by
 have hn:=A48 g
 unfold Q3 freeSegs
 rw [A2j (n:=nSegs g) (p:=fun i=>!usedNo g (i:Int)) (by omega)]
 ·rfl
 ·intro i o hi
  have h11:(i:Int)<g.Segs∧(i:Int)<11:=by
   unfold nSegs at hi
   split at hi <;> omega
  have inner:iter (T8 g ((i:Int),o)) (false,0)=some (usedNo g (i:Int)):=by
   have:=K7 (step:=T8 g ((i:Int),o)) (fun j=>((g.Used.take j).any (fun s=>s.No==(i:Int)),(j:Int))) g.Used.length (r:=usedNo g (i:Int)) ?_ ?_
   ·simpa using this
   ·intro j hj
    have e:(g.Used.take (j+1)).any (fun s=>s.No==(i:Int))=((g.Used.take j).any (fun s=>s.No==(i:Int))||g.Used[j].No==(i:Int)):=by
     rw [List.take_succ_eq_append_getElem hj,List.any_append]; simp
    unfold T8
    simp only [dlt hj,if_true,at?_nat hj,ob,C5 (show j<9223372036854775807 by omega),e]
    generalize (g.Used.take j).any (fun s=>s.No==(i:Int))=b
    by_cases c:g.Used[j].No=(i:Int) <;> cases b <;> simp [c]
   ·unfold T8
    simp [usedNo]
  unfold Ci
  simp only [show decide ((i:Int)<g.Segs)=true by simpa using h11.1,show decide ((i:Int)<11)=true by simpa using h11.2,if_true,ob,inner,C5 (show i<9223372036854775807 by omega)]
 ·intro o
  unfold Ci
  have hlt:¬ (((nSegs g:Nat):Int)<g.Segs∧((nSegs g:Nat):Int)<11):=by
   unfold nSegs
   split <;> omega
  by_cases c:((nSegs g:Nat):Int)<g.Segs
  ·have c2:¬ ((nSegs g:Nat):Int)<11:=fun d=>hlt ⟨c,d⟩
   simp [c,c2]
  ·simp [c]
theorem Rk {c:TCheck} (h:(checkText c).2=true):checkOk c=true:=by
 unfold checkText at h
 split at h
 ·assumption
 ·cases h
theorem Ps {c:TCheck}:(checkText c).1.length≤100000:=by
 unfold checkText
 split
 ·split
  ·simp
  ·dsimp only; omega
 ·simp
def writeC (d:TDisk) (c:TCheck):TDisk×Bool :=
 if (checkText c).2=true∧C9 d=true then (if (writeB d (4*(c.Stamp.toNat%2)) (checkText c).1).2 then (flush (writeB d (4*(c.Stamp.toNat%2)) (checkText c).1).1,true) else (d,false)) else (d,false)
theorem place {c:TCheck} (h:checkOk c=true):w64 (4*Int.tmod c.Stamp 2)=((4*(c.Stamp.toNat%2):Nat):Int):=by
 have h1:=(X8 h).1.1
 rw [Int.tmod_eq_emod_of_nonneg (by omega),B7 (by omega) (by omega)]
 omega
theorem Wy {d:TDisk} (hD:DkS d) {c:TCheck} (hc:c.Refs.length≤1048576):P5 d c=some (writeC d c):=by
 unfold P5 writeC
 rw [Ac hc,ob,Ey hD]
 by_cases h1:(checkText c).2=true
 ·rw [if_neg (by simp [h1]),ob]
  by_cases h2:C9 d=true
  ·rw [if_pos h2,ob,if_neg (by simp),if_pos ⟨h1,h2⟩,place (Rk h1),Mk h2 (by omega) Ps,ob]
   have hw:=DkS.ofOk (Mv h2 (4*(c.Stamp.toNat%2)) (checkText c).1)
   cases h3:(writeB d (4*(c.Stamp.toNat%2)) (checkText c).1).2 with
   | true=>simp [Hx hw]
   | false=>simp [P0 hD]
  ·rw [if_neg h2,ob,if_pos rfl,P0 hD,if_neg (fun h=>h2 h.2)]; rfl
 ·rw [if_pos (by simp [h1]),ob,if_pos rfl,P0 hD,if_neg (fun h=>h1 h.1)]; rfl
theorem Mc {d:TDisk} (hD:DkS d) {c:TCheck} (hc:c.Refs.length≤1048576):M1 d c=some (writeC d c):=by
 unfold M1 writeC Gf
 rw [Fj hc,ob,Gr hD,ob]
 by_cases h2:C9 d=true
 ·rw [if_pos h2]
  by_cases h1:(checkText c).2=true
  ·rw [if_neg (by simp [h1]),ob,if_pos ⟨h1,h2⟩,place (Rk h1),Xa h2 (by omega) Ps,ob]
   have hw:=DkS.ofOk (Mv h2 (4*(c.Stamp.toNat%2)) (checkText c).1)
   cases h3:(writeB d (4*(c.Stamp.toNat%2)) (checkText c).1).2 with
   | true=>simp [A0j hw]
   | false=>simp [Fc hD]
  ·rw [if_pos (by simp [h1]),Fc hD,if_neg (fun h=>h1 h.1)]; rfl
 ·rw [if_neg h2,Fc hD,if_neg (fun h=>h2 h.2)]; rfl
theorem A2z (d:TDisk) (c:TCheck):(writeC d c).1=d∨C9 (writeC d c).1=true:=by
 unfold writeC
 split
 ·rename_i h
  split
  ·exact .inr (Ts (Mv h.2 _ _))
  ·exact .inl rfl
 ·exact .inl rfl
def refOf (s:TSeg):TRef:={ No:=s.No,Gen:=s.Gen }
def checkOf (g:TLog):TCheck:={ Stamp:=w64 (g.Stamp+1),NextGen:=g.NextGen,NextSeq:=g.NextSeq,NextValid:=g.NextValid,Refs:=g.Used.map refOf }
theorem A1y {g:TLog} (h:g.Used.length≤1048576) {step:Int×List TRef→Option ((Int×List TRef) ⊕ List TRef)}
  (h1:∀ (i:Nat) (o:List TRef) (hi:i<g.Used.length),step ((i:Int),o)=(app? 16 o [refOf g.Used[i]]).bind fun v=>some (.inl (((i+1:Nat):Int),v)))
  (h2:∀ o,step ((g.Used.length:Int),o)=some (.inr o)):iter step (0,[])=some (g.Used.map refOf):=by
 have:=K7 (step:=step) (fun i=>((i:Int),(g.Used.take i).map refOf)) g.Used.length (r:=g.Used.map refOf) ?_ ?_
 ·simpa using this
 ·intro i hi
  rw [h1 i _ hi,app?_ok (by simp; omega) (by simp; omega),List.take_succ_eq_append_getElem hi,List.map_append]; rfl
 ·rw [h2,List.take_length]
theorem Uf {g:TLog} (h:g.Used.length≤1048576):W9 g=some (checkOf g):=by
 unfold W9
 rw [A1y h]
 ·rfl
 ·intro i o hi
  unfold Df
  simp only [dlt hi,if_true,at?_nat hi,ob,C5 (show i<9223372036854775807 by omega)]
  rfl
 ·intro o; unfold Df; simp
theorem Tw {g:TLog} (h:g.Used.length≤1048576):W5 g=some (checkOf g):=by
 unfold W5
 rw [A1y h]
 ·rfl
 ·intro i o hi
  unfold Dp
  simp only [dlt hi,if_true,at?_nat hi,ob,C5 (show i<9223372036854775807 by omega)]
  rfl
 ·intro o; unfold Dp; simp
def zero32:List UInt8:=List.replicate 32 0
def newDisk (n:Nat):TDisk:={ Sectors:=List.replicate n zero32,Cache:=[] }
theorem A1v:Af=some zero32:=by
 unfold Af L2
 rw [show (32:Int)=((32:Nat):Int) from rfl,mk?_ok (by omega) (by omega),ob]
 have h:=A6n (l:=List.replicate 32 (0:Int)) (z:=(0:Int)) (step:=P1 ((32:Nat):Int) 0) (by simp) ?_ ?_
 ·rw [List.length_replicate] at h
  rw [h]; rfl
 ·intro i hi o ho
  rw [List.length_replicate] at hi ho
  have hio:i<o.length:=by omega
  unfold P1
  simp only [dlt hi,if_true,at?_nat hio,ob,C5 (show i<9223372036854775807 by omega),Mh,List.getElem_replicate]
 ·intro o
  unfold P1
  simp
theorem A6p:Da [0] 32=some zero32:=by
 unfold Da rep?
 rw [if_pos (by simp)]
 rfl
theorem A1p {n:Nat} (hn:n≤100) {step:Int×List (List UInt8)→Option ((Int×List (List UInt8)) ⊕ List (List UInt8))}
  (h1:∀ (i:Nat) (o:List (List UInt8)),i<n→step ((i:Int),o)=(app? 16 o [zero32]).bind fun v=>some (.inl (((i+1:Nat):Int),v)))
  (h2:∀ o,step ((n:Int),o)=some (.inr o)):iter step (0,[])=some (List.replicate n zero32):=by
 have h:=A8j (n:=n) (byt:=16) (f:=fun _=>zero32) (step:=step) (by omega) (by omega) h1 h2
 rw [h]
 congr 1
 simp [List.map_const']
theorem Kr {n:Nat} (h0:1≤n) (hn:n≤100):V5 (n:Int)=some (newDisk n,true):=by
 unfold V5
 rw [K4,ob,if_pos (by unfold inR; simp; omega),A1p (n:=n) hn]
 ·rfl
 ·intro i o hi
  unfold Db
  simp only [dlt hi,if_true,A1v,ob,C5 (show i<9223372036854775807 by omega)]
 ·intro o
  unfold Db; simp
theorem A31 {n:Nat} (h0:1≤n) (hn:n≤100):Ck (n:Int)=some (newDisk n,true):=by
 unfold Ck
 rw [P3,ob,if_pos (by unfold inR; simp; omega),A1p (n:=n) hn]
 ·rfl
 ·intro i o hi
  unfold Dj
  simp only [dlt hi,if_true,A6p,ob,C5 (show i<9223372036854775807 by omega)]
 ·intro o
  unfold Dj; simp
theorem Qo {n:Nat} (h0:1≤n) (hn:n≤100):C9 (newDisk n)=true:=by
 rw [K3]
 refine ⟨by simp [newDisk]; omega,by simp [newDisk],?_,by simp [newDisk]⟩
 intro s hs
 have:=List.eq_of_mem_replicate hs
 subst this; rfl
def head1:TFrame:={ Gen:=1,Seq:=1,Body:=[115,101,103] }
def headT:List UInt8:=(E7 head1).1
theorem Aa9:(E7 head1).2=true:=by
 unfold E7
 rw [if_pos (by decide)]
theorem Lu:headT.length≤256:=by
 unfold headT E7
 rw [if_pos (by decide)]
 have:=Hv (f:=head1) (by decide)
 simp only [List.length_append]
 have h4:(sealL (frameT head1)).length=4:=by rfl
 omega
def log0 (k:Nat):TLog:={ Disk:=newDisk (8+k*8),Segs:=(k:Int),Used:=[],NextGen:=1,NextSeq:=1,Stamp:=0,NextValid:=1 }
def zlog:TLog:={ Disk:={ Sectors:=[],Cache:=[] },Segs:=0,Used:=[],NextGen:=0,NextSeq:=0,Stamp:=0,NextValid:=0 }
def open0 (k:Nat):TDisk×Bool:=writeB (newDisk (8+k*8)) 8 headT
def log1 (k:Nat):TLog:={ Disk:=flush (open0 k).1,Segs:=(k:Int),Used:=[{ No:=0,Gen:=1,End:=(headT.length:Int),Items:=[] }],NextGen:=2,NextSeq:=1,Stamp:=0,NextValid:=1 }
def fixd (k:Nat):TDisk×Bool:=writeC (log1 k).Disk (checkOf (log1 k))
def fmtK (k:Nat):TLog×Bool:=if (open0 k).2&&(fixd k).2 then ({ log1 k with Disk:=(fixd k).1,Stamp:=1 },true) else (zlog,false)
def fmt (x:Int):TLog×Bool:=if inR x 5 11 then fmtK x.toNat else (zlog,false)
theorem free0 {k:Nat} (h:5≤k∧k≤11):∃ t,freeSegs (log0 k)=0::t:=by
 have:k=5∨k=6∨k=7∨k=8∨k=9∨k=10∨k=11:=by omega
 rcases this with rfl | rfl | rfl | rfl | rfl | rfl | rfl <;> exact ⟨_,rfl⟩
theorem A0p {k:Nat} (h:5≤k∧k≤11):C9 (newDisk (8+k*8))=true:=Qo (by omega) (by omega)
theorem Aan {k:Nat} (h:5≤k∧k≤11):C9 (open0 k).1=true:=Mv (A0p h) 8 headT
theorem A11 {k:Nat} (h:5≤k∧k≤11):D8 (newDisk (8+k*8)) 0 0 headT=some (open0 k):=by
 have hl:=Lu
 unfold D8 Q4
 rw [K4,ob,if_pos (by decide),K4,ob,if_pos (by decide)]
 rw [if_neg (by rw [show w64 (256 - 0)=256 from rfl]; simp; omega),ob,if_neg (by simp)]
 simp only [K4,ob]
 rw [if_pos (by decide),ob,show w64 (8+w64 (0*8))=((8:Nat):Int) from rfl,Mk (A0p h) (by omega) (by omega)]
 rfl
theorem A1l {k:Nat} (h:5≤k∧k≤11):X2 (newDisk (8+k*8)) 0 0 headT=some (open0 k):=by
 have hl:=Lu
 unfold X2 X6
 rw [P3,ob,if_pos (by decide),P3,ob,if_pos (by decide)]
 rw [if_neg (by rw [show w64 (256 - 0)=256 from rfl]; simp; omega),ob,if_neg (by simp)]
 simp only [P3,ob]
 rw [if_pos (by decide),ob,show w64 (8+w64 (0*8))=((8:Nat):Int) from rfl,Xa (A0p h) (by omega) (by omega)]
 rfl
theorem A5v {k:Nat} (h:5≤k∧k≤11):T3 (log0 k) 0=some (if (open0 k).2 then (true,log1 k) else (false,log0 k)):=by
 obtain ⟨t,ht⟩:=free0 h
 unfold T3
 have e1:=Pv (g:=log0 k) (by simp [log0])
 show (Q3 (log0 k)).bind _=_
 rw [e1,ob,ht]
 rw [if_neg (by decide),if_neg (by simp),ob,if_neg (by simp)]
 show (F6 head1).bind _=_
 rw [W4,ob,show at? (0::t) 0=some 0 from by rw [show (0:Int)=((0:Nat):Int) from rfl,at?_nat (by simp)]; rfl,ob]
 show (D8 (newDisk (8+k*8)) 0 0 headT).bind _=_
 rw [A11 h,ob,Aa9]
 cases ho:(open0 k).2
 ·rfl
 ·simp only [Bool.not_true,Bool.false_eq_true,if_false]
  rw [if_neg (show ¬ (decide ((log0 k).NextGen≥1000000000)=true) by simp [log0]),ob,if_neg (by simp),Hx (DkS.ofOk (Aan h)),ob,ob,app?_ok (by simp) (by simp)]
  rfl
theorem A4e {k:Nat} (h:5≤k∧k≤11):Bo (log0 k)=some (log0 k):=by
 unfold Bo
 show (E2 (newDisk (8+k*8))).bind _=_
 rw [Fc (DkS.ofOk (A0p h)),ob]
 have e:iter (Fs (log0 k)) (0,[])=some []:=D6 rfl
 rw [e]; rfl
theorem A50 {k:Nat} (h:5≤k∧k≤11):Ad (log0 k) 0=some (if (open0 k).2 then (log1 k,true) else (zlog,false)):=by
 obtain ⟨t,ht⟩:=free0 h
 unfold Ad
 rw [A19 (g:=log0 k) (by simp [log0]),ob,ht]
 rw [if_neg (by decide),if_neg (by simp),if_neg (show ¬ (((log0 k).NextGen==1000000000)=true) by simp [log0]),ob,if_neg (by simp)]
 show (R2 head1).bind _=_
 rw [Lz,ob,show at? (0::t) 0=some 0 from by rw [show (0:Int)=((0:Nat):Int) from rfl,at?_nat (by simp)]; rfl,ob]
 show (X2 (newDisk (8+k*8)) 0 0 headT).bind _=_
 rw [A1l h,ob]
 cases ho:(open0 k).2
 ·rfl
 ·simp only [Bool.not_true,Bool.false_eq_true,if_false]
  rw [A4e h,ob,A0j (DkS.ofOk (Aan h)),ob,ob]
  show (app? 48 ([]:List TSeg) _).bind _=_
  rw [app?_ok (by simp) (by simp)]
  rfl
theorem DkS.nil:DkS { Sectors:=[],Cache:=[] }:=by
 refine ⟨?_,?_,?_⟩ <;> simp
theorem Yb {k:Nat} (h:5≤k∧k≤11):C9 (log1 k).Disk=true:=Ts (Aan h)
theorem A8k (x:Int):Y3 x=some (fmt x):=by
 unfold Y3 fmt
 rw [K4,ob]
 cases hr:inR x 5 11 with
 | false=>rfl
 | true =>
  unfold inR at hr
  simp only [Bool.and_eq_true,decide_eq_true_eq] at hr
  obtain ⟨k,rfl⟩:∃ k:Nat,x=k:=⟨x.toNat,by omega⟩
  have h:5≤k∧k≤11:=by omega
  rw [if_pos rfl,if_pos rfl,Int.toNat_natCast]
  have e:w64 (8+w64 ((k:Int)*8))=((8+k*8:Nat):Int):=by
   rw [B7 (n:=(k:Int)*8) (by omega) (by omega),B7 (by omega) (by omega)]; omega
  rw [e,Kr (by omega) (by omega),ob]
  show (T3 (log0 k) 0).bind _=_
  rw [A5v h,ob]
  unfold fmtK
  cases ho:(open0 k).2
  ·rfl
  ·simp only [if_true,Bool.true_and]
   have e1:=Uf (g:=log1 k) (by simp [log1])
   show (W9 (log1 k)).bind _=_
   rw [e1,ob]
   show (P5 (log1 k).Disk (checkOf (log1 k))).bind _=_
   rw [Wy (DkS.ofOk (Yb h)) (by simp [checkOf,log1]),ob]
   show (if (!(fixd k).2)=true then _ else _)=_
   cases hf:(fixd k).2
   ·rfl
   ·rfl
theorem A3z (x:Int):M2 x=some (fmt x):=by
 unfold M2 fmt
 rw [P3,ob]
 cases hr:inR x 5 11 with
 | false=>rfl
 | true =>
  unfold inR at hr
  simp only [Bool.and_eq_true,decide_eq_true_eq] at hr
  obtain ⟨k,rfl⟩:∃ k:Nat,x=k:=⟨x.toNat,by omega⟩
  have h:5≤k∧k≤11:=by omega
  rw [if_pos rfl,if_pos rfl,Int.toNat_natCast]
  have e:w64 (8+w64 ((k:Int)*8))=((8+k*8:Nat):Int):=by
   rw [B7 (n:=(k:Int)*8) (by omega) (by omega),B7 (by omega) (by omega)]; omega
  rw [e,A31 (by omega) (by omega),ob]
  show (Ad (log0 k) 0).bind _=_
  rw [A50 h,ob]
  unfold fmtK
  cases ho:(open0 k).2
  ·have e1:=Tw (g:=zlog) (by simp [zlog])
   have e2:=Mc (d:=zlog.Disk) DkS.nil (c:=checkOf zlog) (by simp [checkOf,zlog])
   show (W5 zlog).bind _=_
   rw [e1,ob]
   show (M1 zlog.Disk (checkOf zlog)).bind _=_
   rw [e2]; rfl
  ·simp only [if_true,Bool.true_and]
   have e1:=Tw (g:=log1 k) (by simp [log1])
   show (W5 (log1 k)).bind _=_
   rw [e1,ob]
   show (M1 (log1 k).Disk (checkOf (log1 k))).bind _=_
   rw [Mc (DkS.ofOk (Yb h)) (by simp [checkOf,log1]),ob]
   show (if (!true)=true then _ else (if (!(fixd k).2)=true then _ else _))=_
   cases hf:(fixd k).2
   ·rfl
   ·rfl
def hd (g:TLog):TSeg:=(g.Used[g.Used.length - 1]?).getD { No:=0,Gen:=0,End:=0,Items:=[] }
def hdF (gen:Int):TFrame:={ Gen:=gen,Seq:=1,Body:=[115,101,103] }
def hdT (gen:Int):List UInt8:=(E7 (hdF gen)).1
theorem Aag {gen:Int} (h:1≤gen∧gen≤1000000000):(E7 (hdF gen)).2=true:=by
 unfold E7
 rw [if_pos]
 unfold J0 hdF inR
 simp; omega
theorem A6c (gen:Int):(hdT gen).length≤217:=by
 unfold hdT E7
 split
 ·rename_i h
  have:=Hv h
  have e:=Ag (frameT (hdF gen))
  rw [List.length_append]; omega
 ·simp
def openG (g:TLog):TLog:={ g with Disk:=poke g.Disk (256*(g.Used.length+1)) (hdT g.NextGen),Used:=g.Used++[{ No:=(g.Used.length:Int),Gen:=g.NextGen,End:=((hdT g.NextGen).length:Int),Items:=[] }],NextGen:=g.NextGen+1 }
def appG (g:TLog) (x:TItem) (T:List UInt8):TLog:={ g with Disk:=poke g.Disk (256*g.Used.length+(hd g).End.toNat) T,Used:=g.Used.dropLast++[{ No:=(hd g).No,Gen:=(hd g).Gen,End:=(hd g).End+(T.length:Int),Items:=(hd g).Items++[x] }],NextSeq:=if x.Seq≥g.NextSeq then x.Seq+1 else g.NextSeq,NextValid:=if x.Rec.Valid≥g.NextValid then x.Rec.Valid+1 else g.NextValid }
def openS (n:Nat) (g:TLog) (keep:Int):Bool×TLog:=if keep<((n - g.Used.length:Nat):Int) then (true,openG g) else (false,g)
def frT (g:TLog) (f:TFrame):List UInt8×Bool:=E7 { Gen:=(hd g).Gen,Seq:=f.Seq,Body:=f.Body }
def appS (n:Nat) (g:TLog) (x:TItem) (keep:Int):Bool×TLog :=
 let f:=J9 x (hd g).Gen
 let t:=E7 f.1
 if f.2=false then (false,g) else if t.2=false then (false,g) else if x.Seq≥1000000000 then (false,g)
 else if (hd g).End+(t.1.length:Int)>256 then
  (if (openS n g keep).1 then
   (if (frT (openG g) f.1).2=false then (false,openG g) else if (hd (openG g)).End+((frT (openG g) f.1).1.length:Int)>256 then (false,openG g) else (true,appG (openG g) x (frT (openG g) f.1).1))
  else (false,g))
 else (true,appG g x t.1)
structure W (n:Nat) (S0:Nat→List UInt8) (g:TLog):Prop where
 rng:5≤n∧n≤11
 ok:C9 g.Disk=true
 cache:g.Disk.Cache=[]
 sec:g.Disk.Sectors.length=8+8*n
 segs:g.Segs=(n:Int)
 used:∀ (j:Nat) (s:TSeg),g.Used[j]?=some s→s.No=(j:Int)∧s.Gen=(j:Int)+1∧0≤s.End∧s.End≤256
 len:1≤g.Used.length∧g.Used.length≤n
 gen:g.NextGen=(g.Used.length:Int)+1
 seq:g.NextSeq=((D1 g).length:Int)+1
 stamp:g.Stamp=1
 valid:1≤g.NextValid∧g.NextValid≤4
 its:∀ (i:Nat) (x:TItem),(D1 g)[i]?=some x→x.Seq=(i:Int)+1∧RecD x.Rec∧x.Rec.Valid<g.NextValid
 home:∀ a,a<8→rsec g.Disk a=S0 a
theorem A9v {g:TLog} {l:List TSeg} {s:TSeg} (h:g.Used=l++[s]):hd g=s:=by
 unfold hd; rw [h]; simp
theorem A2i {g:TLog} (h:1≤g.Used.length):g.Used=g.Used.dropLast++[hd g]:=by
 have h0:g.Used≠[]:=by intro e; rw [e] at h; simp at h
 have:=List.dropLast_concat_getLast h0
 conv=>lhs; rw [← this]
 have e:hd g=g.Used.getLast h0:=A9v this.symm
 rw [e]
theorem Aac {g:TLog} (h:1≤g.Used.length):g.Used[g.Used.length - 1]?=some (hd g):=by
 unfold hd
 rw [qG (by omega)]; rfl
theorem W.hd {n:Nat} {S0:Nat→List UInt8} {g:TLog} (h:W n S0 g):(hd g).No=(g.Used.length:Int) - 1∧(V.hd g).Gen=(g.Used.length:Int)∧0≤(V.hd g).End∧(V.hd g).End≤256:=by
 have h1:=h.len.1
 obtain ⟨a,b,c,d⟩:=h.used _ _ (Aac h1)
 refine ⟨by omega,by omega,c,d⟩
theorem W.usedNo {n:Nat} {S0:Nat→List UInt8} {g:TLog} (h:W n S0 g) (i:Nat):usedNo g (i:Int)=decide (i<g.Used.length):=by
 unfold V.usedNo
 rw [Bool.eq_iff_iff,List.any_eq_true,decide_eq_true_iff]
 constructor
 ·rintro ⟨s,hs,he⟩
  obtain ⟨j,hj⟩:=List.getElem?_of_mem hs
  have:=h.used j s hj
  have hl:=(qI hj).1
  have he':=beq_iff_eq.1 he
  omega
 ·intro hi
  refine ⟨g.Used[i],List.getElem_mem hi,?_⟩
  have:=h.used i _ (qG hi)
  rw [this.1]; simp
theorem A5r:∀ n:Nat,n<12→∀ u:Nat,u<12→u≤n→(List.range n).filter (fun i=>!decide (i<u))=List.range' u (n - u):=by decide
theorem W.free {n:Nat} {S0:Nat→List UInt8} {g:TLog} (h:W n S0 g):freeSegs g=(List.range' g.Used.length (n - g.Used.length)).map fun (k:Nat)=>(k:Int):=by
 have hn:=h.rng
 have hl:=h.len
 unfold freeSegs
 have e:nSegs g=n:=by unfold nSegs; rw [h.segs,if_neg (by omega)]; rfl
 rw [e,← A5r n (by omega) g.Used.length (by omega) hl.2]
 congr 2
 funext i
 rw [h.usedNo i]
theorem A28 {d:TDisk} (h:C9 d=true) (hc:d.Cache=[]) {T:List UInt8} {no t:Nat} (hno:no≤10) (hs:16+8*no≤d.Sectors.length) (ht:t+T.length≤256) :
  ∃ d1,D8 d (no:Int) (t:Int) T=some (d1,true)∧E8 d1=some (poke d (256*(no+1)+t) T):=by
 obtain ⟨d1,e1,e2⟩:=A7o h hc (T:=T) (s:=8+8*no) (t:=t) (by omega) (by omega) (by omega) (by omega)
 refine ⟨d1,?_,by rw [e2]; congr 2; omega⟩
 unfold D8 Q4
 rw [K4,ob,if_pos (by unfold inR; simp; omega),K4,ob,if_pos (by unfold inR; simp; omega)]
 rw [if_neg (by rw [B7 (by omega) (by omega)]; simp; omega),ob,if_neg (by simp)]
 simp only [K4,ob]
 rw [if_pos (by unfold inR; simp; omega),ob,B7 (n:=(no:Int)*8) (by omega) (by omega),B7 (by omega) (by omega),show (8:Int)+(no:Int)*8=((8+8*no:Nat):Int) by omega,e1]
 rfl
theorem A7e {n:Nat} {S0:Nat→List UInt8} {g:TLog} (h:W n S0 g) {keep:Int} (hk:0≤keep):T4 g keep=some (openS n g keep):=by
 have hn:=h.rng
 have hl:=h.len
 unfold T4 openS
 show (Q3 g).bind _=_
 rw [Pv (by omega),ob,if_neg (by simp; omega),h.free]
 by_cases c:keep<((n - g.Used.length:Nat):Int)
 ·rw [if_neg (by simp; omega),ob,if_neg (by simp),if_pos c]
  show (F6 (hdF g.NextGen)).bind _=_
  have ho:=Aag (gen:=g.NextGen) (by rw [h.gen]; omega)
  have ha:at? ((List.range' g.Used.length (n - g.Used.length)).map fun (k:Nat)=>(k:Int)) 0=some (g.Used.length:Int):=by
   rw [show (0:Int)=((0:Nat):Int) from rfl,at?_nat (by simp; omega)]; simp
  rw [W4,ob,ha,ob]
  have ht:=A6c g.NextGen
  obtain ⟨d1,e1,e2⟩:=A28 h.ok h.cache (T:=hdT g.NextGen) (no:=g.Used.length) (t:=0) (by omega) (by rw [h.sec]; omega) (by omega)
  show (D8 g.Disk (g.Used.length:Int) ((0:Nat):Int) (hdT g.NextGen)).bind _=_
  rw [e1,ob,ho,if_neg (by simp),if_neg (by simp),if_neg (by rw [h.gen]; simp; omega),ob,if_neg (by simp),e2,ob,app?_ok (by simp; omega) (by simp; omega),ob,ob,app?_ok (by simp; omega) (by simp; omega),ob,B7 (n:=g.NextGen+1) (by rw [h.gen]; omega) (by rw [h.gen]; omega)]
  rfl
 ·rw [if_pos (by simp; omega),ob,if_pos rfl,if_neg c]
theorem W.openG {n:Nat} {S0:Nat→List UInt8} {g:TLog} (h:W n S0 g) (hu:g.Used.length<n):W n S0 (openG g):=by
 have hn:=h.rng
 have hl:=h.len
 have ht:=A6c g.NextGen
 have hi:D1 (V.openG g)=D1 g:=by unfold D1 V.openG; simp
 refine ⟨hn,Yf h.ok _ _,rfl,by unfold V.openG; rw [Gp]; exact h.sec,h.segs,?_,by simp [V.openG]; omega,by simp only [V.openG,List.length_append,List.length_singleton]; rw [h.gen]; omega,by rw [hi]; exact h.seq,h.stamp,h.valid,by rw [hi]; exact h.its,?_⟩
 ·intro j s hs
  simp only [V.openG] at hs
  by_cases c:j<g.Used.length
  ·rw [List.getElem?_append_left c] at hs
   exact h.used j s hs
  ·rw [List.getElem?_append_right (by omega)] at hs
   have:j - g.Used.length=0:=by
    by_cases e:j - g.Used.length=0
    ·exact e
    ·rw [List.getElem?_eq_none (by simp; omega)] at hs; cases hs
   rw [this] at hs
   simp only [List.getElem?_cons_zero,qS] at hs
   subst hs
   refine ⟨by simp only; omega,by simp only; rw [h.gen]; omega,by simp only; omega,by simp only; omega⟩
 ·intro a ha
  have:=h.sec
  show rsec (poke g.Disk _ _) a=_
  rw [A2d h.ok (by omega) (by omega)]
  exact h.home a ha
theorem W.appG {n:Nat} {S0:Nat→List UInt8} {g:TLog} (h:W n S0 g) {x:TItem} {T:List UInt8} (hx:x.Seq=g.NextSeq) (hr:RecD x.Rec) (hT:(V.hd g).End+(T.length:Int)≤256):W n S0 (appG g x T)∧D1 (V.appG g x T)=D1 g++[x]:=by
 have hn:=h.rng
 have hl:=h.len
 obtain ⟨h1,h2,h3,h4⟩:=h.hd
 have hu:=A2i hl.1
 have hi:D1 (V.appG g x T)=D1 g++[x]:=by
  unfold D1 V.appG
  conv=>rhs; rw [hu]
  simp
 have hlen:(V.appG g x T).Used.length=g.Used.length:=by unfold V.appG; simp; omega
 have hv:=hr.valid
 refine ⟨⟨hn,Yf h.ok _ _,rfl,by unfold V.appG; rw [Gp]; exact h.sec,h.segs,?_,by rw [hlen]; exact hl,by rw [hlen]; exact h.gen,?_,h.stamp,?_,?_,?_⟩,hi⟩
 ·intro j s hs
  simp only [V.appG] at hs
  by_cases c:j<g.Used.length - 1
  ·rw [List.getElem?_append_left (by simp; omega)] at hs
   refine h.used j s ?_
   rw [hu,List.getElem?_append_left (by simp; omega)]
   exact hs
  ·rw [List.getElem?_append_right (by simp; omega)] at hs
   have e:j - g.Used.dropLast.length=0:=by
    by_cases e:j - g.Used.dropLast.length=0
    ·exact e
    ·rw [List.getElem?_eq_none (by simp at e ⊢; omega)] at hs; cases hs
   rw [e] at hs
   simp only [List.getElem?_cons_zero,qS] at hs
   subst hs
   simp only [List.length_dropLast] at e
   refine ⟨by simp only; omega,by simp only; omega,by simp only; omega,by simp only; omega⟩
 ·rw [hi]
  show (if x.Seq≥g.NextSeq then x.Seq+1 else g.NextSeq)=_
  rw [if_pos (by omega),hx,h.seq]; simp
 ·have:=h.valid
  show 1≤(if x.Rec.Valid≥g.NextValid then x.Rec.Valid+1 else g.NextValid)∧(if x.Rec.Valid≥g.NextValid then x.Rec.Valid+1 else g.NextValid)≤4
  split <;> omega
 ·intro i y hy
  rw [hi] at hy
  have hge:g.NextValid≤(V.appG g x T).NextValid∧x.Rec.Valid<(V.appG g x T).NextValid:=by
   show g.NextValid≤(if x.Rec.Valid≥g.NextValid then x.Rec.Valid+1 else g.NextValid)∧x.Rec.Valid<(if x.Rec.Valid≥g.NextValid then x.Rec.Valid+1 else g.NextValid)
   split <;> omega
  by_cases c:i<(D1 g).length
  ·rw [List.getElem?_append_left c] at hy
   obtain ⟨a1,a2,a3⟩:=h.its i y hy
   exact ⟨a1,a2,by omega⟩
  ·rw [List.getElem?_append_right (by omega)] at hy
   have e:i - (D1 g).length=0:=by
    by_cases e:i - (D1 g).length=0
    ·exact e
    ·rw [List.getElem?_eq_none (by simp; omega)] at hy; cases hy
   rw [e] at hy
   simp only [List.getElem?_cons_zero,qS] at hy
   subst hy
   refine ⟨by rw [hx,h.seq]; omega,hr,hge.2⟩
 ·intro a ha
  have:=h.sec
  show rsec (poke g.Disk _ _) a=_
  rw [A2d h.ok (by omega) (by omega)]
  exact h.home a ha
theorem Gj (f:TFrame):(E7 f).1.length≤217:=by
 unfold E7
 split
 ·rename_i h
  have:=Hv h
  have e:=Ag (frameT f)
  rw [List.length_append]; omega
 ·simp
theorem A8n {α:Type} {l:List α} {y:α} (h:1≤l.length):l.set (l.length - 1) y=l.dropLast++[y]:=by
 have h0:l≠[]:=by intro e; rw [e] at h; simp at h
 obtain ⟨a,b,rfl⟩:∃ a b,l=a++[b]:=⟨l.dropLast,l.getLast h0,(List.dropLast_concat_getLast h0).symm⟩
 simp
theorem A64 {n:Nat} {S0:Nat→List UInt8} {g:TLog} (h:W n S0 g):∀ y∈D1 g,RecD y.Rec:=by
 intro y hy
 obtain ⟨i,hi⟩:=List.getElem?_of_mem hy
 exact (h.its i y hi).2.1
theorem A4r {g:TLog} (h:1≤g.Used.length):(hd g).Items.length≤(D1 g).length:=by
 unfold D1
 conv=>rhs; rw [A2i h]
 simp
theorem A3q {n:Nat} {S0:Nat→List UInt8} {g:TLog} (h:W n S0 g) (hm:(D1 g).length≤1000) {x:TItem} (hx:0≤x.Seq∧x.Seq≤1000000000) (hv:x.Rec.Valid≤1000000000) (hv0:0≤x.Rec.Valid) {T:List UInt8} (hT:(hd g).End+(T.length:Int)≤256) :
  ((D8 g.Disk (hd g).No (hd g).End T).bind fun v4=>(if !v4.2 then some (false,g) else (E8 v4.1).bind fun v5=>(app? 96 ([]:List TItem) (hd g).Items).bind fun v6=>(app? 96 v6 ([x]:List TItem)).bind fun v7=>(some (hd g)).bind fun v8=>(some (set' g.Used (w64 ((g.Used.length:Int) - 1)) ({ No:=(hd g).No,Gen:=(hd g).Gen,End:=(hd g).End+(T.length:Int),Items:=v7 }:TSeg))).bind fun v9=>(if decide (x.Seq≥g.NextSeq) then (if decide (x.Rec.Valid≥g.NextValid) then some (true,({ Disk:=({ Sectors:=v5.Sectors,Cache:=v5.Cache }:TDisk),Segs:=g.Segs,Used:=v9,NextGen:=g.NextGen,NextSeq:=w64 (x.Seq+1),Stamp:=g.Stamp,NextValid:=w64 (x.Rec.Valid+1) }:TLog)) else some (true,({ Disk:=({ Sectors:=v5.Sectors,Cache:=v5.Cache }:TDisk),Segs:=g.Segs,Used:=v9,NextGen:=g.NextGen,NextSeq:=w64 (x.Seq+1),Stamp:=g.Stamp,NextValid:=g.NextValid }:TLog))) else (if decide (x.Rec.Valid≥g.NextValid) then some (true,({ Disk:=({ Sectors:=v5.Sectors,Cache:=v5.Cache }:TDisk),Segs:=g.Segs,Used:=v9,NextGen:=g.NextGen,NextSeq:=g.NextSeq,Stamp:=g.Stamp,NextValid:=w64 (x.Rec.Valid+1) }:TLog)) else some (true,({ Disk:=({ Sectors:=v5.Sectors,Cache:=v5.Cache }:TDisk),Segs:=g.Segs,Used:=v9,NextGen:=g.NextGen,NextSeq:=g.NextSeq,Stamp:=g.Stamp,NextValid:=g.NextValid }:TLog))))):Option (Bool×TLog))=some (true,appG g x T):=by
 have hn:=h.rng
 have hl:=h.len
 obtain ⟨h1,h2,h3,h4⟩:=h.hd
 have hit:=A4r hl.1
 obtain ⟨d1,e1,e2⟩:=A28 h.ok h.cache (T:=T) (no:=g.Used.length - 1) (t:=(hd g).End.toNat) (by omega) (by rw [h.sec]; omega) (by omega)
 rw [show (hd g).No=((g.Used.length - 1:Nat):Int) by omega]
 have e1':D8 g.Disk ((g.Used.length - 1:Nat):Int) (hd g).End T=some (d1,true):=by
  rw [← e1]; congr 1; omega
 rw [e1',ob,if_neg (by simp),e2,ob,app?_ok (by simp; omega) (by simp; omega),ob,app?_ok (by simp; omega) (by simp; omega),ob]
 rw [B7 (n:=(g.Used.length:Int) - 1) (by omega) (by omega),show (g.Used.length:Int) - 1=((g.Used.length - 1:Nat):Int) by omega,ob,ob,Mh,A8n hl.1]
 rw [B7 (n:=x.Seq+1) (by omega) (by omega),B7 (n:=x.Rec.Valid+1) (by omega) (by omega)]
 unfold appG
 rw [show 256*(g.Used.length - 1+1)=256*g.Used.length by omega,show ((g.Used.length - 1:Nat):Int)=(hd g).No by omega]
 by_cases c1:x.Seq≥g.NextSeq
 ·rw [if_pos (by simpa using c1),if_pos c1]
  by_cases c2:x.Rec.Valid≥g.NextValid
  ·rw [if_pos (by simpa using c2),if_pos c2]; rfl
  ·rw [if_neg (by simpa using c2),if_neg c2]; rfl
 ·rw [if_neg (by simpa using c1),if_neg c1]
  by_cases c2:x.Rec.Valid≥g.NextValid
  ·rw [if_pos (by simpa using c2),if_pos c2]; rfl
  ·rw [if_neg (by simpa using c2),if_neg c2]; rfl
theorem Ry {b:List Int} {i h:Int} (hi:IOk b i) {n:Nat} (hn:n≤1000):Dr b (G9 ⟨b,i,h⟩ (n:Int)) fun s=>s.length≤n:=by
 unfold G9
 rw [if_neg (by simp; omega)]
 have key:∃ r,iter (W7 ⟨b,i,h⟩ (n:Int)) (0,i,h,[])=some r∧(IOk b r.1∧r.2.2.length≤n):=by
  refine Cl (fun s:Int×Int×Int×List Int=>(0≤s.1∧s.1≤(n:Int)∧(s.2.2.2.length:Int)=s.1)∧IOk b s.2.1) (fun s=>((n:Int) - s.1).toNat) _ ?_ _ ⟨⟨by simp,by simp,by simp⟩,hi⟩
  rintro ⟨k,i,h',l⟩ ⟨⟨h0,h1,h2⟩,hi⟩
  simp only at h0 h1 h2 hi
  unfold W7
  by_cases hk:k<(n:Int)
  ·left
   rw [if_pos (by simpa using hk)]
   obtain ⟨o,i1,h1',e,_,hi1⟩:=Mu (h:=h') hi
   show ∃ s',(G8 ⟨b,i,h'⟩).bind _=_∧_
   rw [e,ob]
   show ∃ s',(app? 1 l [IntKind.u8.wrap o]).bind _=_∧_
   rw [app?_ok (by simp; omega) (by simp; omega),ob]
   refine ⟨_,rfl,⟨⟨?_,?_,?_⟩,hi1⟩,?_⟩
   ·simp only; rw [B7 (by omega) (by omega)]; omega
   ·simp only; rw [B7 (by omega) (by omega)]; omega
   ·simp only [List.length_append,List.length_singleton]; rw [B7 (by omega) (by omega)]; omega
   ·simp only; rw [B7 (by omega) (by omega)]; omega
  ·right
   rw [if_neg (by simpa using hk)]
   exact ⟨_,rfl,hi,by show l.length≤n; omega⟩
 obtain ⟨⟨i1,h1,l⟩,e,hi1,hl⟩:=key
 simp only at hi1 hl
 have e':iter (W7 ⟨b,i,h⟩ (n:Int)) (0,(⟨b,i,h⟩:TL01Cur).mI,(⟨b,i,h⟩:TL01Cur).mH,[])=some (i1,h1,l):=e
 rw [e',ob]
 exact Dr.ret hi1 (by simpa using hl)
theorem A7w {b:List Int} {i h:Int} (hi:IOk b i) {s:List UInt8} (hs:s.length≤1000):Dr b (W0 ⟨b,i,h⟩ s) fun t=>t.length≤2000:=by
 unfold W0
 refine Dr.bind (E3 hi (by omega) (by omega)) fun k i h hk hi=>?_
 dsimp only
 have mid:Dr b ((if decide ((s.length:Int)>0) then (B2 ({ mB:=b,mI:=i,mH:=h }:TL01Cur) (s.length:Int)).bind fun v9=>(sub? s 0 v9.1).bind fun v10=>(G9 ({ mB:=b,mI:=v9.2.mI,mH:=v9.2.mH }:TL01Cur) 1).bind fun v11=>(cat? v10 v11.1).bind fun v12=>(sub? s (w64 (v9.1+1)) (s.length:Int)).bind fun v13=>(cat? v12 v13).bind fun v14=>some (v14,({ mB:=b,mI:=v11.2.mI,mH:=v11.2.mH }:TL01Cur)) else some (s,({ mB:=b,mI:=i,mH:=h }:TL01Cur))):Option (List UInt8×TL01Cur)) fun t=>t.length≤2000:=by
  by_cases c:(s.length:Int)>0
  ·rw [if_pos (by simpa using c)]
   obtain ⟨x,i1,h1,e1,hx,hi1⟩:=E3 (h:=h) hi (n:=(s.length:Int)) (by omega) (by omega)
   obtain ⟨n,rfl⟩:∃ n:Nat,x=n:=⟨x.toNat,by omega⟩
   rw [e1,ob]
   dsimp only
   rw [sub?_take (by omega),ob]
   obtain ⟨t,i2,h2,e2,ht,hi2⟩:=Ry (h:=h1) hi1 (n:=1) (by omega)
   have e2':G9 { mB:=b,mI:=i1,mH:=h1 } 1=some (t,⟨b,i2,h2⟩):=e2
   rw [e2',ob]
   dsimp only
   rw [cat?_ok (by simp; omega),ob,C5 (by omega),sub?_tail (by omega),ob,cat?_ok (by simp; omega),ob]
   exact Dr.ret hi2 (by simp; omega)
  ·rw [if_neg (by simpa using c)]
   exact Dr.ret hi (by omega)
 by_cases k0:(k==0)=true
 ·rw [if_pos k0]
  obtain ⟨t,i2,h2,e2,ht,hi2⟩:=Ry (h:=h) hi (n:=1) (by omega)
  have e2':G9 { mB:=b,mI:=i,mH:=h } 1=some (t,⟨b,i2,h2⟩):=e2
  rw [e2',ob]
  dsimp only
  rw [cat?_ok (by omega),ob]
  exact Dr.ret hi2 (by simp; omega)
 rw [if_neg k0]
 by_cases k1:(k==1)=true
 ·rw [if_pos k1,B7 (by omega) (by omega)]
  obtain ⟨x,i1,h1,e1,hx,hi1⟩:=E3 (h:=h) hi (n:=(s.length:Int)+1) (by omega) (by omega)
  obtain ⟨n,rfl⟩:∃ n:Nat,x=n:=⟨x.toNat,by omega⟩
  rw [e1,ob]
  dsimp only
  rw [sub?_take (by omega),ob]
  exact Dr.ret hi1 (by simp; omega)
 rw [if_neg k1]
 by_cases k2:(k==2)=true
 ·rw [if_pos k2]; exact mid
 rw [if_neg k2]
 by_cases k3:(k==3)=true
 ·rw [if_pos k3,ob,if_pos rfl]; exact mid
 ·rw [if_neg k3,ob,if_neg (by simp)]
  exact Dr.ret hi (by omega)
theorem Pu {d:TDisk} (h:C9 d=true) {s:Int} (hs:0≤s∧s≤1000) {t:Nat} (ht:t≤3200) {T:List UInt8} (hT:T.length≤1000):∃ d1 o,E6 d s (t:Int) T=some (d1,o)∧C9 d1=true:=by
 have hD:=DkS.ofOk h
 unfold E6
 rw [P0 hD,ob]
 have first:∃ y,((B9 (t:Int) 0 3200).bind fun v3=>(if v3 then (B9 s 0 (w64 ((d.Sectors.length:Int) - 1))).bind fun v4=>(if v4 then (R4 d).bind fun v5=>(if v5 then some false else some true) else some true) else some true):Option Bool)=some y:=by
  rw [K4,ob]
  split
  ·rw [K4,ob]
   split
   ·rw [Ey hD,ob]
    split <;> exact ⟨_,rfl⟩
   ·exact ⟨_,rfl⟩
  ·exact ⟨_,rfl⟩
 obtain ⟨y,e⟩:=first
 rw [e,ob]
 cases y
 case true=>exact ⟨d,false,rfl,h⟩
 rw [if_neg (by simp)]
 have key:∃ r,iter (D0 d s (t:Int) T) (0,d.Sectors,d.Cache)=some r∧(match r with | .inl x=>C9 x.1=true | .inr x=>C9 { Sectors:=x.1,Cache:=x.2 }=true):=by
  refine Cl (fun q:Int×List (List UInt8)×List TWrite=>(0≤q.1∧q.1≤(T.length:Int))∧C9 { Sectors:=q.2.1,Cache:=q.2.2 }=true) (fun q=>((T.length:Int) - q.1).toNat) _ ?_ _ ⟨⟨by simp,by simp⟩,h⟩
  rintro ⟨i,se,ca⟩ ⟨⟨h0,h1⟩,hd⟩
  simp only at h0 h1 hd
  obtain ⟨i,rfl⟩:∃ n:Nat,i=n:=⟨i.toNat,by omega⟩
  have hD':=DkS.ofOk hd
  suffices hs:∃ y,D0 d s (t:Int) T ((i:Int),se,ca)=some y∧(match y with | .inl s'=>((0≤s'.1∧s'.1≤(T.length:Int))∧C9 { Sectors:=s'.2.1,Cache:=s'.2.2 }=true)∧((T.length:Int) - s'.1).toNat<((T.length:Int) - (i:Int)).toNat | .inr r=>(match r with | .inl x=>C9 x.1=true | .inr x=>C9 { Sectors:=x.1,Cache:=x.2 }=true)) by
   obtain ⟨y,e,hy⟩:=hs
   cases y with
   | inl s'=>exact .inl ⟨s',e,hy.1,hy.2⟩
   | inr r=>exact .inr ⟨r,e,hy⟩
  unfold D0
  dsimp only
  by_cases c:(i:Int)<(T.length:Int)
  rotate_left
  ·rw [if_neg (by simpa using c)]
   exact ⟨_,rfl,hd⟩
  rw [if_pos (by simpa using c)]
  have w0:w64 ((t:Int)+(i:Int))=((t+i:Nat):Int):=by rw [B7 (by omega) (by omega)]; omega
  have w5:w64 (32 - (((t+i)%32:Nat):Int))=((32 - (t+i)%32:Nat):Int):=by rw [B7 (by omega) (by omega)]; omega
  have w6:w64 ((T.length:Int) - (i:Int))=((T.length - i:Nat):Int):=by rw [B7 (by omega) (by omega)]; omega
  rw [w0,A4l,A46,w5,w6]
  generalize w64 (s+w64 (((t+i) / 32:Nat):Int))=K
  have fin:∀ n:Nat,1≤n→i+n≤T.length→(t+i)%32+n≤32 →
    (∃ y,((J6 { Sectors:=se,Cache:=ca } K).bind fun v8=>((if !v8.2 then some true else (if ((v8.1.length:Int) != 32) then some true else some false)):Option Bool).bind (fun y9=>(if y9 then (D2 d).bind fun v17=>some (.inr (.inl (({ Sectors:=v17.Sectors,Cache:=v17.Cache }:TDisk),false))) else (sub? v8.1 0 (((t+i)%32:Nat):Int)).bind fun v10=>(sub? T (i:Int) (w64 ((i:Int)+(n:Int)))).bind fun v11=>(cat? v10 v11).bind fun v12=>(sub? v8.1 (w64 ((((t+i)%32:Nat):Int)+(n:Int))) (v8.1.length:Int)).bind fun v13=>(cat? v12 v13).bind fun v14=>(K0 { Sectors:=se,Cache:=ca } K v14).bind fun v15=>(if !v15.2 then (D2 d).bind fun v16=>some (.inr (.inl (({ Sectors:=v16.Sectors,Cache:=v16.Cache }:TDisk),false))) else some (.inl (w64 ((i:Int)+(n:Int)),v15.1.Sectors,v15.1.Cache))))):Option ((Int×(List (List UInt8))×(List TWrite)) ⊕ ((TDisk×Bool) ⊕ ((List (List UInt8))×(List TWrite)))))=some y∧(match y with | .inl s'=>((0≤s'.1∧s'.1≤(T.length:Int))∧C9 { Sectors:=s'.2.1,Cache:=s'.2.2 }=true)∧((T.length:Int) - s'.1).toNat<((T.length:Int) - (i:Int)).toNat | .inr r=>(match r with | .inl x=>C9 x.1=true | .inr x=>C9 { Sectors:=x.1,Cache:=x.2 }=true))):=by
   intro n hn1 hn2 hn3
   have f1:w64 ((i:Int)+(n:Int))=((i+n:Nat):Int):=by rw [B7 (by omega) (by omega)]; omega
   have f2:w64 ((((t+i)%32:Nat):Int)+(n:Int))=(((t+i)%32+n:Nat):Int):=by rw [B7 (by omega) (by omega)]; omega
   rw [Bs hD',ob,f1,f2]
   generalize hr:readS { Sectors:=se,Cache:=ca } K=v
   obtain ⟨x,o⟩:=v
   dsimp only
   cases o
   case false =>
    rw [if_pos (by simp),ob,if_pos rfl,P0 hD]
    exact ⟨_,rfl,h⟩
   rw [if_neg (by simp)]
   by_cases hx:x.length=32
   rotate_left
   ·rw [if_pos (by simp; omega),ob,if_pos rfl,P0 hD]
    exact ⟨_,rfl,h⟩
   rw [if_neg (by simp [hx]),ob,if_neg (by simp),sub?_take (by omega),ob,sub?_mid (by omega),ob,cat?_ok (by simp; omega),ob,sub?_tail (by omega),ob,cat?_ok (by simp; omega),ob,A3i hD',ob]
   generalize hw:wr { Sectors:=se,Cache:=ca } K _=w
   cases w with
   | none =>
    rw [if_pos (by simp [wrR]),P0 hD]
    exact ⟨_,rfl,h⟩
   | some d2 =>
    rw [if_neg (by simp [wrR])]
    exact ⟨_,rfl,⟨⟨by simp only; omega,by simp only; omega⟩,(A96 hw).1⟩,by simp only; omega⟩
  by_cases cc:T.length - i<32 - (t+i)%32
  ·rw [if_pos (by simp; omega)]
   exact fin _ (by omega) (by omega) (by omega)
  ·rw [if_neg (by simp; omega)]
   exact fin _ (by omega) (by omega) (by omega)
 obtain ⟨r,e,hr⟩:=key
 rw [e,ob]
 cases r with
 | inl x=>exact ⟨x.1,x.2,rfl,hr⟩
 | inr x=>exact ⟨_,true,rfl,hr⟩
theorem A4d {n:Nat} {S0:Nat→List UInt8} {g:TLog} (h:W n S0 g) (hm:(D1 g).length≤1000) {x:TItem} (hx:0≤x.Seq) (hr:RecS x.Rec) (hv:x.Rec.Valid≤1000000000) (hv0:0≤x.Rec.Valid) {keep:Int} (hk:0≤keep):Q0 g x keep=some (appS n g x keep):=by
 have hn:=h.rng
 have hl:=h.len
 obtain ⟨h1,h2,h3,h4⟩:=h.hd
 unfold Q0 appS
 have ha:∀ g:TLog,1≤g.Used.length→g.Used.length≤11→at? g.Used (w64 ((g.Used.length:Int) - 1))=some (hd g):=by
  intro g a b
  rw [B7 (n:=(g.Used.length:Int) - 1) (by omega) (by omega),show (g.Used.length:Int) - 1=((g.Used.length - 1:Nat):Int) by omega,at?_eq (Aac a)]
 have l1:=Gj (J9 x (hd g).Gen).1
 rw [ha g hl.1 (by omega),ob,Zz hr,ob,W4,ob]
 dsimp only
 cases c1:(J9 x (hd g).Gen).2
 ·rfl
 ·simp only [Bool.not_true,Bool.not_false,Bool.false_eq_true,Bool.true_eq_false,if_false,if_true]
  cases c2:(E7 (J9 x (hd g).Gen).1).2
  ·rfl
  ·simp only [Bool.not_true,Bool.not_false,Bool.false_eq_true,Bool.true_eq_false,if_false,if_true]
   by_cases c3:x.Seq≥1000000000
   ·rw [if_pos (by simpa using c3),if_pos c3]; rfl
   ·rw [if_neg (by simpa using c3),if_neg c3,ob,if_neg (by simp),B7 (n:=(hd g).End+_) (by omega) (by omega)]
    by_cases c4:(hd g).End+((E7 (J9 x (hd g).Gen).1).1.length:Int)>256
    ·rw [if_pos (by simpa using c4),if_pos c4]
     show (T4 g keep).bind _=_
     rw [A7e h hk,ob]
     unfold openS
     by_cases c5:keep<((n - g.Used.length:Nat):Int)
     ·have hw:=h.openG (by omega)
      obtain ⟨k1,k2,k3,k4⟩:=hw.hd
      rw [if_pos c5]
      dsimp only
      simp only [Bool.not_true,Bool.not_false,Bool.false_eq_true,Bool.true_eq_false,if_false,if_true]
      rw [ha (openG g) hw.len.1 (by have:=hw.len.2; omega),ob,W4,ob]
      have l2:=Gj { Gen:=(hd (openG g)).Gen,Seq:=(J9 x (hd g).Gen).1.Seq,Body:=(J9 x (hd g).Gen).1.Body }
      have hi:D1 (openG g)=D1 g:=by unfold D1 openG; simp
      unfold frT
      cases c6:(E7 { Gen:=(hd (openG g)).Gen,Seq:=(J9 x (hd g).Gen).1.Seq,Body:=(J9 x (hd g).Gen).1.Body }).2
      ·rfl
      ·simp only [Bool.not_true,Bool.not_false,Bool.false_eq_true,Bool.true_eq_false,if_false,if_true]
       rw [B7 (n:=(hd (openG g)).End+_) (by omega) (by omega)]
       by_cases c7:(hd (openG g)).End+((E7 { Gen:=(hd (openG g)).Gen,Seq:=(J9 x (hd g).Gen).1.Seq,Body:=(J9 x (hd g).Gen).1.Body }).1.length:Int)>256
       ·rw [if_pos (by simpa using c7),if_pos c7]; rfl
       ·rw [if_neg (by simpa using c7),if_neg c7,ob,if_neg (by simp)]
        exact A3q hw (by rw [hi]; exact hm) ⟨hx,by omega⟩ hv hv0 (T:=(E7 { Gen:=(hd (openG g)).Gen,Seq:=(J9 x (hd g).Gen).1.Seq,Body:=(J9 x (hd g).Gen).1.Body }).1) (by omega)
     ·rw [if_neg c5]
      rfl
    ·rw [if_neg (by simpa using c4),if_neg c4]
     exact A3q h hm ⟨hx,by omega⟩ hv hv0 (T:=(E7 (J9 x (hd g).Gen).1).1) (by omega)
theorem A5o (n:Nat) (g:TLog) (x:TItem) (keep:Int):((appS n g x keep).2=g∧(appS n g x keep).1=false)∨((appS n g x keep).2=openG g∧(appS n g x keep).1=false∧keep<((n - g.Used.length:Nat):Int))∨(∃ T,appS n g x keep=(true,appG g x T)∧T=(E7 (J9 x (hd g).Gen).1).1∧(J9 x (hd g).Gen).2=true∧(E7 (J9 x (hd g).Gen).1).2=true∧(hd g).End+(T.length:Int)≤256) ∨
  (∃ T,appS n g x keep=(true,appG (openG g) x T)∧T=(frT (openG g) (J9 x (hd g).Gen).1).1∧(J9 x (hd g).Gen).2=true∧(frT (openG g) (J9 x (hd g).Gen).1).2=true∧(hd (openG g)).End+(T.length:Int)≤256∧keep<((n - g.Used.length:Nat):Int)):=by
 generalize hr:appS n g x keep=r
 unfold appS openS at hr
 dsimp only at hr
 split at hr
 ·subst hr; exact .inl ⟨rfl,rfl⟩
 ·rename_i a1
  split at hr
  ·subst hr; exact .inl ⟨rfl,rfl⟩
  ·rename_i a2
   split at hr
   ·subst hr; exact .inl ⟨rfl,rfl⟩
   ·split at hr
    ·by_cases c:keep<((n - g.Used.length:Nat):Int)
     ·rw [if_pos c] at hr
      dsimp only at hr
      rw [if_pos rfl] at hr
      split at hr
      ·subst hr; exact .inr (.inl ⟨rfl,rfl,c⟩)
      ·rename_i a5
       split at hr
       ·subst hr; exact .inr (.inl ⟨rfl,rfl,c⟩)
       ·rename_i a6
        subst hr
        exact .inr (.inr (.inr ⟨_,rfl,rfl,by simpa using a1,by simpa using a5,by omega,c⟩))
     ·rw [if_neg c] at hr
      dsimp only at hr
      rw [if_neg (by simp)] at hr
      subst hr; exact .inl ⟨rfl,rfl⟩
    ·rename_i a4
     subst hr
     exact .inr (.inr (.inl ⟨_,rfl,rfl,by simpa using a1,by simpa using a2,by omega⟩))
theorem A33 {s:TSeg}:∀ (l:List TSeg),s∈l→s.Items.length≤(l.map fun x=>x.Items.length).sum
 | [],h=>by cases h
 | x::l,h=>by
  rw [List.map_cons,List.sum_cons]
  rcases List.mem_cons.1 h with e | h
  ·rw [e]; omega
  ·have:=A33 l h; omega
theorem W.appS {n:Nat} {S0:Nat→List UInt8} {g:TLog} (h:W n S0 g) {x:TItem} (hx:x.Seq=g.NextSeq) (hr:RecD x.Rec) {keep:Int} (hk:0≤keep):W n S0 (appS n g x keep).2∧(D1 (V.appS n g x keep).2).length≤(D1 g).length+1:=by
 have hi:D1 (V.openG g)=D1 g:=by unfold D1 V.openG; simp
 rcases A5o n g x keep with ⟨e,_⟩ | ⟨e,_,c⟩ | ⟨T,e,_,_,_,c⟩ | ⟨T,e,_,_,_,c,c'⟩
 ·rw [e]; exact ⟨h,by omega⟩
 ·rw [e]; exact ⟨h.openG (by omega),by rw [hi]; omega⟩
 ·rw [e]
  have:=h.appG hx hr c
  exact ⟨this.1,by rw [this.2]; simp⟩
 ·rw [e]
  have:=(h.openG (by omega)).appG (x:=x) (T:=T) hx hr c
  exact ⟨this.1,by rw [this.2,hi]; simp⟩
theorem W.lgn {n:Nat} {S0:Nat→List UInt8} {g:TLog} (h:W n S0 g) (hm:(D1 g).length≤1000):LgN g:=by
 have hn:=h.rng
 have hl:=h.len
 have hw:=A64 h
 have ht:(D1 g).length=(g.Used.map fun x=>x.Items.length).sum:=by unfold D1; rw [List.length_flatMap]
 refine ⟨by omega,fun s hs=>⟨?_,fun y hy=>⟨(hw y (List.mem_flatMap.2 ⟨s,hs,hy⟩)).sz⟩⟩,by omega⟩
 have:s.Items.length≤(g.Used.map fun x=>x.Items.length).sum:=A33 _ hs
 omega
theorem A72 {n:Nat} {S0:Nat→List UInt8} {g:TLog} (h:W n S0 g) (hm:(D1 g).length<200) {x:TItem} (hx:x.Seq=g.NextSeq):Z9 g x=some true:=by
 have a1:=Ju (l:=D1 g) (k:=(D1 g).length) (by omega) (q:=fun _=>false) (step:=Ab x (D1 g)) (bad:=.inl false) (good:=.inr ()) (by
  intro i hi _
  have:=(h.its i _ (qG hi)).1
  have hs:=h.seq
  unfold Ab
  rw [if_pos (dlt hi),at?_nat hi,ob,if_neg (by simp; omega),ob,if_neg (by simp),if_neg (by simp),C5 (by omega)]) (by unfold Ab; simp)
 unfold Z9
 rw [A38 (h.lgn (by omega)),ob,a1]
 simp; omega
theorem A40 {n:Int} (h:0≤n) (h':n<128):(vt n).length=1:=by
 unfold vt
 rw [if_pos h,Z2 (by omega)]; rfl
theorem A7d {c:TCheck} (h1:0≤c.Stamp∧c.Stamp<128) (h2:0≤c.NextGen∧c.NextGen<128) (h3:0≤c.NextSeq∧c.NextSeq<128) (h4:0≤c.NextValid∧c.NextValid<128) (h5:c.Refs.length≤11) (h6:∀ r∈c.Refs,(0≤r.No∧r.No<128)∧0≤r.Gen∧r.Gen<128):(ctOut c).length≤64:=by
 have e1:=A40 h1.1 h1.2
 have e2:=A40 h2.1 h2.2
 have e3:=A40 h3.1 h3.2
 have e4:=A40 h4.1 h4.2
 have e5:=A40 (n:=(c.Refs.length:Int)) (by omega) (by omega)
 have key:∀ l:List TRef,(∀ r∈l,(0≤r.No∧r.No<128)∧0≤r.Gen∧r.Gen<128)→(l.flatMap refT).length=2*l.length:=by
  intro l
  induction l with
  | nil=>intro _; rfl
  | cons r l ih =>
   intro hl
   have hr:=hl r List.mem_cons_self
   have f1:=A40 hr.1.1 hr.1.2
   have f2:=A40 hr.2.1 hr.2.2
   rw [List.flatMap_cons,List.length_append,ih fun r hr=>hl r (List.mem_cons_of_mem _ hr)]
   unfold refT
   simp [f1,f2]; omega
 have hk:=key c.Refs h6
 unfold ctOut short ctBody ctHead
 have hs:=Ag
 simp only [List.length_append,hs,e1,e2,e3,e4,e5,hk]
 have e6:=A40 (n:=((1+1+1+1+1+2*c.Refs.length+4:Nat):Int)) (by omega) (by omega)
 rw [e6]; omega
theorem A1k {c:TCheck} (h:checkOk c=true) (hl:(ctOut c).length≤128):checkText c=(ctOut c,true):=by
 unfold checkText
 rw [if_pos h,if_neg (by omega)]
theorem Wv {d:TDisk} (h:C9 d=true) (hc:d.Cache=[]) {s:Nat} {T:List UInt8} (hT:T.length≤1000) (hs:s<d.Sectors.length) (hn:32*s+T.length≤32*d.Sectors.length):(writeB d s T).2=true∧flush (writeB d s T).1=poke d (32*s) T∧∃ j,Wst d (32*s) T j T.length (writeB d s T).1:=by
 have h100:=(K3.1 h).1.2
 obtain ⟨d1,j,e,hw⟩:=A0f h hc (T:=T) (s:=s) (t:=0) hT hs (by omega) (by omega)
 have e':E6 d (s:Int) 0 T=some (d1,true):=e
 rw [Mk h (by omega) (by omega)] at e'
 have:=Option.some.inj e'
 rw [this]
 exact ⟨rfl,hw.flush h,j,hw⟩
theorem A43 {d:TDisk} (h:C9 d=true) (hc:d.Cache=[]) (hd:8≤d.Sectors.length) {c:TCheck} (hk:checkOk c=true) (hl:(ctOut c).length≤128):writeC d c=(poke d (128*(c.Stamp.toNat%2)) (ctOut c),true):=by
 obtain ⟨h1,h2,_⟩:=Wv h hc (s:=4*(c.Stamp.toNat%2)) (T:=ctOut c) (by omega) (by omega) (by omega)
 unfold writeC
 rw [A1k hk hl]
 dsimp only
 rw [if_pos ⟨rfl,h⟩,if_pos h1,h2]
 congr 2; omega
theorem Qz {k:Nat} (h:5≤k∧k≤11):(open0 k).2=true∧(log1 k).Disk=poke (newDisk (8+k*8)) 256 headT:=by
 have hl:=Lu
 have:=Wv (A0p h) rfl (s:=8) (T:=headT) (by omega) (by simp [newDisk]; omega) (by simp [newDisk]; omega)
 exact ⟨this.1,this.2.1⟩
def first8 (k:Nat) (a:Nat):List UInt8:=rsec (fixd k).1 a
theorem Yr (k:Nat):checkOk (checkOf (log1 k))=true∧(ctOut (checkOf (log1 k))).length≤64:=by
 have e:checkOf (log1 k)={ Stamp:=1,NextGen:=2,NextSeq:=1,NextValid:=1,Refs:=[{ No:=0,Gen:=1 }] }:=rfl
 rw [e]
 refine ⟨by decide,A7d (by decide) (by decide) (by decide) (by decide) (by decide) ?_⟩
 intro r hr
 rw [List.mem_singleton] at hr
 subst hr; decide
theorem A22 {k:Nat} (h:5≤k∧k≤11):fixd k=(poke (log1 k).Disk 128 (ctOut (checkOf (log1 k))),true):=by
 have hd:=(Qz h).2
 have hc:=Yr k
 unfold fixd
 rw [A43 (Yb h) (by rw [hd]; rfl) (by rw [hd,Gp]; simp [newDisk]) hc.1 (by omega)]
 rfl
theorem Aae {k:Nat} (h:5≤k∧k≤11):∃ g,fmt (k:Int)=(g,true)∧W k (first8 k) g∧D1 g=[]:=by
 have ho:=Qz h
 have hf:=A22 h
 refine ⟨{ log1 k with Disk:=(fixd k).1,Stamp:=1 },?_,?_,rfl⟩
 ·unfold fmt fmtK
  rw [if_pos (by unfold inR; simp; omega),Int.toNat_natCast,if_pos (by rw [ho.1,hf]; rfl)]
 ·have hlen:(fixd k).1.Sectors.length=8+8*k:=by rw [hf]; simp only; rw [Gp,ho.2,Gp]; simp [newDisk,Nat.mul_comm]
  refine ⟨h,?_,?_,hlen,rfl,?_,by simp [log1]; omega,rfl,rfl,rfl,⟨by simp [log1],by simp [log1]⟩,?_,fun a _=>rfl⟩
  ·simp only; rw [hf]; exact Yf (Yb h) _ _
  ·simp only; rw [hf]; rfl
  ·intro j s hs
   simp only [log1] at hs
   cases j with
   | zero =>
    simp only [List.getElem?_cons_zero,qS] at hs
    subst hs
    have:=Lu
    refine ⟨rfl,rfl,by simp only; omega,by simp only; omega⟩
   | succ j=>simp at hs
  ·intro i x hx
   have:D1 { log1 k with Disk:=(fixd k).1,Stamp:=1 }=[]:=rfl
   rw [this] at hx
   simp at hx
theorem RecD.rs {r:TRec} (h:RecD r):RecS r:=⟨by have:=h.user; omega,by have:=h.name; omega,by have:=h.text; omega⟩
theorem Aab {Q:Nat→TLog→Prop} (q0:∀ (k:Nat) (g:TLog),5≤k∧k≤8→fmt (k:Int)=(g,true)→W k (first8 k) g→Q k g) (qs:∀ (k:Nat) (g:TLog) (x:TItem),W k (first8 k) g→(D1 g).length≤33→Q k g→x.Seq=g.NextSeq→RecD x.Rec→Q k (appS k g x 1).2)
  {b:List Int} {i0 h0:Int} (hi0:IOk b i0):Dr b (X7 ⟨b,i0,h0⟩) fun g=>∃ n,(5≤n∧n≤8)∧W n (first8 n) g∧(D1 g).length≤33∧Q n g:=by
 unfold X7
 refine Dr.bind (E3 hi0 (by omega) (by omega)) fun x i h hx hi=>?_
 obtain ⟨k,hk⟩:∃ k:Nat,w64 (5+x)=(k:Int):=⟨(5+x).toNat,by rw [B7 (by omega) (by omega)]; omega⟩
 have hk':5≤k∧k≤8:=by rw [B7 (by omega) (by omega)] at hk; omega
 obtain ⟨g0,e0,hw0,hit0⟩:=Aae (k:=k) (by omega)
 simp only
 rw [hk,A8k,e0,ob]
 have key:∃ r,iter (Y0 ⟨b,i0,h0⟩) (0,i,h,g0.Segs,g0.NextGen,g0.NextSeq,g0.Stamp,g0.NextValid,g0.Disk.Sectors,g0.Disk.Cache,g0.Used)=some r∧(IOk b r.1∧W k (first8 k) { Disk:={ Sectors:=r.2.2.2.2.2.2.2.1,Cache:=r.2.2.2.2.2.2.2.2.1 },Segs:=r.2.2.1,Used:=r.2.2.2.2.2.2.2.2.2,NextGen:=r.2.2.2.1,NextSeq:=r.2.2.2.2.1,Stamp:=r.2.2.2.2.2.1,NextValid:=r.2.2.2.2.2.2.1 }∧(D1 { Disk:={ Sectors:=r.2.2.2.2.2.2.2.1,Cache:=r.2.2.2.2.2.2.2.2.1 },Segs:=r.2.2.1,Used:=r.2.2.2.2.2.2.2.2.2,NextGen:=r.2.2.2.1,NextSeq:=r.2.2.2.2.1,Stamp:=r.2.2.2.2.2.1,NextValid:=r.2.2.2.2.2.2.1 }).length≤33∧Q k { Disk:={ Sectors:=r.2.2.2.2.2.2.2.1,Cache:=r.2.2.2.2.2.2.2.2.1 },Segs:=r.2.2.1,Used:=r.2.2.2.2.2.2.2.2.2,NextGen:=r.2.2.2.1,NextSeq:=r.2.2.2.2.1,Stamp:=r.2.2.2.2.2.1,NextValid:=r.2.2.2.2.2.2.1 }):=by
  refine Cl (fun s:Int×Int×Int×Int×Int×Int×Int×Int×(List (List UInt8))×(List TWrite)×(List TSeg)=>(0≤s.1∧s.1≤33)∧IOk b s.2.1∧∃ g:TLog,s.2.2.2=(g.Segs,g.NextGen,g.NextSeq,g.Stamp,g.NextValid,g.Disk.Sectors,g.Disk.Cache,g.Used)∧W k (first8 k) g∧((D1 g).length:Int)≤s.1∧Q k g) (fun s=>(34 - s.1).toNat) _ ?_ _ ⟨⟨by simp,by simp⟩,hi,g0,rfl,hw0,by rw [hit0]; simp,q0 k g0 hk' e0 hw0⟩
  rintro ⟨c,i,h',s⟩ ⟨⟨q0',q1⟩,hi,g,hs,hw,hc,hq⟩
  simp only at q0' q1 hi hs hc
  subst hs
  unfold Y0
  obtain ⟨n,i1,h1',e,hn,hi1⟩:=E3 (h:=h') hi (n:=34) (by omega) (by omega)
  simp only
  rw [e,ob]
  by_cases hk:c<n
  ·left
   rw [if_pos (by simpa using hk)]
   obtain ⟨r,i2,h2',e2,hr,hi2⟩:=Aal (h:=h1') hi1
   simp only
   rw [e2,ob]
   show ∃ s',(Z9 g { Seq:=g.NextSeq,Rec:=r }).bind _=_∧_
   rw [A72 hw (by omega) rfl,ob,if_pos rfl]
   have hok:=(A4p hr.ok).1
   have hseq:=hw.seq
   show ∃ s',(Q0 g { Seq:=g.NextSeq,Rec:=r } 1).bind _=_∧_
   rw [A4d hw (by omega) (by simp only; omega) (RecD.rs hr) (by simp only; have:=hr.valid; omega) (by simp only; omega) (by omega),ob]
   have hA:=hw.appS (x:={ Seq:=g.NextSeq,Rec:=r }) rfl hr (keep:=1) (by omega)
   refine ⟨_,rfl,⟨⟨?_,?_⟩,hi2,(appS k g { Seq:=g.NextSeq,Rec:=r } 1).2,rfl,hA.1,?_,qs k g _ hw (by omega) hq rfl hr⟩,?_⟩
   ·simp only; rw [B7 (by omega) (by omega)]; omega
   ·simp only; rw [B7 (by omega) (by omega)]; omega
   ·simp only; rw [B7 (by omega) (by omega)]; have:=hA.2; omega
   ·simp only; rw [B7 (by omega) (by omega)]; omega
  ·right
   rw [if_neg (by simpa using hk)]
   exact ⟨_,rfl,hi1,hw,by show (D1 g).length≤33; omega,hq⟩
 obtain ⟨r,e,hi1,hw,hl,hq⟩:=key
 have e':iter (Y0 ⟨b,i0,h0⟩) (0,i,h,g0.Segs,g0.NextGen,g0.NextSeq,g0.Stamp,g0.NextValid,g0.Disk.Sectors,g0.Disk.Cache,g0.Used)=some r:=e
 have fin:Dr b (some (({ Disk:={ Sectors:=r.2.2.2.2.2.2.2.1,Cache:=r.2.2.2.2.2.2.2.2.1 },Segs:=r.2.2.1,Used:=r.2.2.2.2.2.2.2.2.2,NextGen:=r.2.2.2.1,NextSeq:=r.2.2.2.2.1,Stamp:=r.2.2.2.2.2.1,NextValid:=r.2.2.2.2.2.2.1 }:TLog),({ mB:=b,mI:=r.1,mH:=r.2.1 }:TL01Cur))) (fun g=>∃ n,(5≤n∧n≤8)∧W n (first8 n) g∧(D1 g).length≤33∧Q n g):=Dr.ret hi1 ⟨k,hk',hw,hl,hq⟩
 refine (show Dr b (Option.bind _ _) _ from ?_)
 rw [e',ob]
 exact fin
theorem Aaj {b:List Int} {i0 h0:Int} (hi0:IOk b i0):Dr b (X7 ⟨b,i0,h0⟩) fun g=>∃ n,(5≤n∧n≤8)∧W n (first8 n) g∧(D1 g).length≤33:=(Aab (Q:=fun _ _=>True) (fun _ _ _ _ _=>trivial) (fun _ _ _ _ _ _ _ _=>trivial) hi0).mono fun _ ⟨n,a,b,c,_⟩=>⟨n,a,b,c⟩
def check0:TCheck:={ Stamp:=0,NextGen:=0,NextSeq:=0,NextValid:=0,Refs:=[] }
def goodC (t:List UInt8) (c:TCheck):Prop:=checkText c=(ctOut c,true)∧∃ r,t=ctOut c++r
theorem Ye {t:List UInt8} {c:TCheck} (h:goodC t c):checkOk c=true:=by
 have:=h.1
 unfold checkText at this
 split at this
 ·assumption
 ·exact absurd (congrArg Prod.snd this) (by simp)
theorem Uo {t:List UInt8} {c:TCheck} {e:Nat} (h2:(checkText c).2=true) (h:(checkText c).1=t.take e):goodC t c:=by
 have hk:checkText c=(ctOut c,true):=by
  unfold checkText at h2 ⊢
  split
  ·rw [if_pos (by assumption)] at h2
   split
   ·rw [if_pos (by assumption)] at h2; cases h2
   ·rfl
  ·rw [if_neg (by assumption)] at h2; cases h2
 refine ⟨hk,t.drop e,?_⟩
 rw [hk] at h
 rw [show ctOut c=t.take e from h,List.take_append_drop]
theorem A2a {t:List UInt8} {c:TCheck} (h:goodC t c):rs t=some (ctBody c++sealL (ctBody c),(ctOut c).length)∧us (ctBody c++sealL (ctBody c))=some (ctBody c):=by
 obtain ⟨r,hr⟩:=h.2
 have hl:=Hs (Ye h)
 refine ⟨?_,A7j (by omega)⟩
 rw [hr]
 exact A8u (by rw [List.length_append,Ag]; omega)
theorem A75 {t:List UInt8} {F G:Option (TCheck×Bool)} (f1:∃ r,F=some r∧(r.2=true→goodC t r.1)∧(r.2=false→r.1=check0)) (f2:∀ c,goodC t c→F=some (c,true))
  (g1:∃ r,G=some r∧(r.2=true→goodC t r.1)∧(r.2=false→r.1=check0)) (g2:∀ c,goodC t c→G=some (c,true)):F=G:=by
 obtain ⟨⟨rc,rb⟩,h1,h2,h3⟩:=f1
 obtain ⟨⟨sc,sb⟩,k1,k2,k3⟩:=g1
 cases rb with
 | true=>rw [h1,g2 rc (h2 rfl)]
 | false =>
  cases sb with
  | true=>rw [f2 sc (k2 rfl),k1]
  | false=>rw [h1,k1]; simp only at h3 k3; rw [h3 trivial,k3 trivial]
theorem Aaf {A B:List UInt8} {z:Int} (h:0≤z∧z≤1000000000):rvR (rv (A++(vt z++B)) A.length)=(z,((A++vt z).length:Int),true):=by
 obtain ⟨n,rfl⟩:∃ n:Nat,z=n:=⟨z.toNat,by omega⟩
 rw [A21 (n:=n) (r:=B) (by rw [List.drop_left]) (by omega)]
 simp [rvR]
theorem A7i {v:List UInt8×Bool} (hv:v.1.length≤8388608):∃ o:(TCheck×Bool) ⊕ List Int,iter (L4 v) (0,[])=some o∧(o=.inl (check0,false)∨∃ l,o=.inr l∧l.length≤v.1.length):=by
 refine Cl (fun s=>∃ a:Nat,s.1=(a:Int)∧a≤v.1.length∧s.2.length≤a) (fun s=>v.1.length - s.1.toNat) _ ?_ (0,[]) ⟨0,rfl,by omega,by simp⟩
 rintro ⟨_,l⟩ ⟨a,rfl,ha,hl⟩
 simp only at hl
 unfold L4
 by_cases h:a<v.1.length
 ·rw [if_pos (by simpa using h),Eo (t:=v.1) (by omega) a,ob]
  cases hr:rv v.1 a with
  | none=>exact .inr ⟨.inl (check0,false),rfl,.inl rfl⟩
  | some x =>
   obtain ⟨h1,h2,h3⟩:=Km hr
   refine .inl ⟨((x.2:Int),l++[(x.1:Int)]),?_,⟨x.2,rfl,h2,by simp <;> omega⟩,by simp only [Int.toNat_natCast]; omega⟩
   rw [show rvR (some x)=((x.1:Int),(x.2:Int),true) from rfl,if_neg (by simp),app?_ok (by simp <;> omega) (by simp <;> omega)]
   rfl
 ·refine .inr ⟨.inr l,?_,.inr ⟨l,rfl,by omega⟩⟩
  rw [if_neg (by simpa using h)]
theorem A5t {l:List Int} (hl:l.length≤8388608):∃ o,iter (L3 l) (5,[])=some o∧o.length≤l.length:=by
 refine Cl (fun s=>∃ j:Nat,s.1=((5+2*j:Nat):Int)∧s.2.length=j∧j≤l.length) (fun s=>l.length+10 - s.1.toNat) _ ?_ (5,[]) ⟨0,rfl,by simp,by omega⟩
 rintro ⟨_,m⟩ ⟨j,rfl,hm,hj⟩
 simp only at hm
 unfold L3
 have ew:w64 (((5+2*j:Nat):Int)+1)=((5+2*j+1:Nat):Int):=C5 (by omega)
 have ew2:w64 (((5+2*j:Nat):Int)+2)=((5+2*(j+1):Nat):Int):=by rw [B7 (by omega) (by omega)]; omega
 simp only [ew,ew2]
 by_cases h:5+2*j+1<l.length
 ·refine .inl ⟨(((5+2*(j+1):Nat):Int),m++[{ No:=l[5+2*j],Gen:=l[5+2*j+1] }]),?_,⟨j+1,rfl,by simp [hm],by omega⟩,by simp only [Int.toNat_natCast]; omega⟩
  simp only [dlt h,if_true,at?_nat h,at?_nat (show 5+2*j<l.length by omega),ob]
  rw [app?_ok (by simp <;> omega) (by simp <;> omega)]
  rfl
 ·refine .inr ⟨m,?_,by omega⟩
  rw [if_neg (by simp only [decide_eq_true_eq]; omega)]
theorem A5i {t:List UInt8} (ht:t.length≤8388608):∃ r,M9 t=some r∧(r.2=true→goodC t r.1)∧(r.2=false→r.1=check0):=by
 have fail:∃ r,some (check0,false)=some r∧(r.2=true→goodC t r.1)∧(r.2=false→r.1=check0):=⟨_,rfl,by simp,by simp⟩
 unfold M9
 rw [A6k ht,ob]
 cases h1:rs t with
 | none =>
  rw [show rsR none=([],0,false) from rfl,A3b (by simp),ob,if_pos (by simp)]
  exact fail
 | some x =>
  obtain ⟨b1,b2⟩:=A2u h1
  rw [show rsR (some x)=(x.1,(x.2:Int),true) from rfl]
  dsimp only
  rw [A3b (by omega),ob,if_neg (by simp)]
  cases h2:us x.1 with
  | none=>rw [show usR none=([],false) from rfl,if_pos (by simp)]; exact fail
  | some s =>
   have b3:=A8l h2
   rw [show usR (some s)=(s,true) from rfl,if_neg (by simp)]
   obtain ⟨o,h3,h4⟩:=A7i (v:=(s,true)) (by dsimp only; omega)
   rw [h3,ob]
   rcases h4 with rfl | ⟨l,rfl,hl⟩
   ·exact fail
   ·dsimp only at hl
    rw [Sum.elim_inr]
    by_cases h5:l.length<5
    ·rw [if_pos (by simp <;> omega)]; exact fail
    ·rw [if_neg (by simp <;> omega)]
     have a0:=at?_nat (l:=l) (i:=0) (by omega)
     have a1:=at?_nat (l:=l) (i:=1) (by omega)
     have a2:=at?_nat (l:=l) (i:=2) (by omega)
     have a3:=at?_nat (l:=l) (i:=3) (by omega)
     rw [show ((0:Nat):Int)=0 from rfl] at a0
     rw [show ((1:Nat):Int)=1 from rfl] at a1
     rw [show ((2:Nat):Int)=2 from rfl] at a2
     rw [show ((3:Nat):Int)=3 from rfl] at a3
     obtain ⟨o,h6,h7⟩:=A5t (l:=l) (by omega)
     rw [a0,ob,a1,ob,a2,ob,a3,ob,h6,ob,Fj (by simp only []; omega),ob]
     generalize hc:({ Stamp:=l[0],NextGen:=l[1],NextSeq:=l[2],NextValid:=l[3],Refs:=o }:TCheck)=c
     cases h8:(checkText c).2 with
     | false=>simp only [Bool.not_false,if_true,ob]; exact fail
     | true =>
      simp only [Bool.not_true,Bool.false_eq_true,if_false]
      rw [sub?_take b1,ob]
      by_cases h9:(checkText c).1=t.take x.2
      ·rw [if_neg (by simpa using h9),ob,if_neg (by simp)]
       exact ⟨_,rfl,fun _=>by simp only [hc]; exact Uo h8 h9,by simp⟩
      ·rw [if_pos (by simpa using h9),ob,if_pos rfl]
       exact fail
def nums (c:TCheck):List Int:=[c.Stamp,c.NextGen,c.NextSeq,c.NextValid,(c.Refs.length:Int)]++c.Refs.flatMap fun r=>[r.No,r.Gen]
theorem A1o (c:TCheck):ctBody c=(nums c).flatMap vt:=by
 unfold ctBody ctHead nums
 simp only [List.flatMap_append,List.flatMap_cons,List.flatMap_nil,List.append_nil,List.append_assoc]
 congr 5
 rw [List.flatMap_assoc]
 congr 1
 funext r
 simp [refT]
theorem A9c {c:TCheck} (h:checkOk c=true):∀ z∈nums c,0≤z∧z≤1000000000:=by
 obtain ⟨⟨h1,h2,h3,h4⟩,h5,h6⟩:=X8 h
 intro z hz
 unfold nums at hz
 simp only [List.mem_append,List.mem_cons,List.not_mem_nil,or_false,List.mem_flatMap] at hz
 rcases hz with (rfl | rfl | rfl | rfl | rfl) | ⟨r,hr,rfl | rfl⟩
 any_goals omega
 ·have:=h6 r hr; omega
 ·have:=h6 r hr; omega
theorem A6q (l:List TRef):(l.flatMap fun r=>[r.No,r.Gen]).length=2*l.length:=by
 induction l with
 | nil=>rfl
 | cons x l ih=>simp only [List.flatMap_cons,List.length_append,ih,List.length_cons,List.length_nil]; omega
theorem A8i (c:TCheck):(nums c).length=5+2*c.Refs.length:=by
 unfold nums
 rw [List.length_append,A6q]; rfl
theorem A1x:∀ (l:List TRef) (j:Nat) (h:j<l.length),(l.flatMap fun r=>[r.No,r.Gen])[2*j]?=some l[j].No∧(l.flatMap fun r=>[r.No,r.Gen])[2*j+1]?=some l[j].Gen
 | [],j,h=>by simp at h
 | x::l,0,_=>by simp
 | x::l,j+1,h=>by
  have:=A1x l j (by simpa using h)
  rw [show 2*(j+1)=2*j+1+1 by omega,show 2*j+1+1+1=(2*j+1)+1+1 by omega]
  simpa using this
theorem A5j {t:List UInt8} (ht:t.length≤8388608) {c:TCheck} (h:goodC t c):M9 t=some (c,true):=by
 have hk:=Ye h
 obtain ⟨h1,h2⟩:=A2a h
 have hb:=Hs hk
 have hrg:=A9c hk
 obtain ⟨_,h5,_⟩:=X8 hk
 obtain ⟨b1,b2⟩:=A2u h1
 have hnl:=A8i c
 have l1:iter (L4 (ctBody c,true)) (0,[])=some (.inr (nums c)):=by
  have:=K7 (step:=L4 (ctBody c,true)) (fun j=>((((nums c).take j).flatMap vt).length,(nums c).take j)) (nums c).length (r:=.inr (nums c)) ?_ ?_
  ·simpa using this
  ·intro j hj
   have hz:=hrg _ (List.getElem_mem hj)
   have hsp:ctBody c=((nums c).take j).flatMap vt++(vt (nums c)[j]++((nums c).drop (j+1)).flatMap vt):=by
    rw [A1o]
    conv=>lhs; rw [← List.take_append_drop j (nums c),List.drop_eq_getElem_cons hj,List.flatMap_append,List.flatMap_cons]
   have hlt:(((nums c).take j).flatMap vt).length<(ctBody c).length:=by
    have hv:0<(vt (nums c)[j]).length:=by
     obtain ⟨n,hn⟩:∃ n:Nat,(nums c)[j]=n:=⟨_,(Int.toNat_of_nonneg hz.1).symm⟩
     rw [hn,A3m,List.length_map]
     unfold vtl
     split <;> simp
    rw [hsp]
    simp only [List.length_append]
    omega
   have hrv:rvR (rv (ctBody c) (((nums c).take j).flatMap vt).length)=((nums c)[j],((((nums c).take j).flatMap vt++vt (nums c)[j]).length:Int),true):=by
    conv=>lhs; rw [hsp]
    exact Aaf hz
   have hnx:((nums c).take (j+1)).flatMap vt=((nums c).take j).flatMap vt++vt (nums c)[j]:=by
    rw [List.take_succ_eq_append_getElem hj,List.flatMap_append,List.flatMap_cons,List.flatMap_nil,List.append_nil]
   have htl:((nums c).take j).length≤30:=by rw [List.length_take]; omega
   rw [hnx,List.take_succ_eq_append_getElem hj]
   generalize hq:((nums c).take j).flatMap vt=q at hlt hrv
   generalize hm:(nums c).take j=m at htl
   generalize (nums c)[j]=z at hrv
   unfold L4
   dsimp only
   rw [if_pos (by simpa using hlt),Eo (t:=ctBody c) (by omega),ob,hrv,if_neg (by simp),app?_ok (by rw [List.length_singleton]; omega) (by rw [List.length_singleton]; omega)]
   rfl
  ·unfold L4
   simp [A1o]
 have l2:iter (L3 (nums c)) (5,[])=some c.Refs:=by
  have:=K7 (step:=L3 (nums c)) (fun j=>(((5+2*j:Nat):Int),c.Refs.take j)) c.Refs.length (r:=c.Refs) ?_ ?_
  ·simpa using this
  ·intro j hj
   unfold L3
   have ew:w64 (((5+2*j:Nat):Int)+1)=((5+2*j+1:Nat):Int):=C5 (by omega)
   have ew2:w64 (((5+2*j:Nat):Int)+2)=((5+2*(j+1):Nat):Int):=by rw [B7 (by omega) (by omega)]; omega
   obtain ⟨g1,g2⟩:=A1x c.Refs j hj
   have q1:at? (nums c) ((5+2*j:Nat):Int)=some c.Refs[j].No:=at?_eq (by
    unfold nums; rw [List.getElem?_append_right (by simp)]; simpa using g1)
   have q2:at? (nums c) ((5+2*j+1:Nat):Int)=some c.Refs[j].Gen:=at?_eq (by
    unfold nums; rw [List.getElem?_append_right (by simp <;> omega)]
    rw [show 5+2*j+1 - [c.Stamp,c.NextGen,c.NextSeq,c.NextValid,(c.Refs.length:Int)].length=2*j+1 by simp <;> omega]
    exact g2)
   have htl:(c.Refs.take j).length≤30:=by rw [List.length_take]; omega
   rw [List.take_succ_eq_append_getElem hj]
   generalize hm:c.Refs.take j=m at htl
   dsimp only
   rw [ew,if_pos (by simp only [decide_eq_true_eq]; omega),q1,ob,q2,ob,app?_ok (by rw [List.length_singleton]; omega) (by rw [List.length_singleton]; omega),ob,ew2]
  ·unfold L3
   have ew:w64 (((5+2*c.Refs.length:Nat):Int)+1)=((5+2*c.Refs.length+1:Nat):Int):=C5 (by omega)
   rw [ew,if_neg (by simp only [decide_eq_true_eq]; omega)]
   simp
 obtain ⟨r,hr⟩:=h.2
 have htk:t.take (ctOut c).length=ctOut c:=by rw [hr,List.take_left]
 unfold M9
 rw [A6k ht,ob,h1]
 rw [show rsR (some (ctBody c++sealL (ctBody c),(ctOut c).length))=(ctBody c++sealL (ctBody c),((ctOut c).length:Int),true) from rfl]
 dsimp only
 rw [A3b (by dsimp only at b2; omega),ob,if_neg (by simp),h2,show usR (some (ctBody c))=(ctBody c,true) from rfl,if_neg (by simp),l1,ob,Sum.elim_inr]
 rw [if_neg (by simp only [decide_eq_true_eq]; omega),show at? (nums c) 0=some c.Stamp from at?_eq (i:=0) (by simp [nums]),ob,show at? (nums c) 1=some c.NextGen from at?_eq (i:=1) (by simp [nums]),ob,show at? (nums c) 2=some c.NextSeq from at?_eq (i:=2) (by simp [nums]),ob,show at? (nums c) 3=some c.NextValid from at?_eq (i:=3) (by simp [nums]),ob,l2,ob]
 rw [show ({ Stamp:=c.Stamp,NextGen:=c.NextGen,NextSeq:=c.NextSeq,NextValid:=c.NextValid,Refs:=c.Refs }:TCheck)=c from rfl,Fj (by dsimp only; omega),ob,h.1]
 simp only [Bool.not_true,Bool.false_eq_true,if_false]
 rw [sub?_take b1,ob,htk,if_neg (by simp),ob]
 rfl
theorem A4o {s:List UInt8} (hs:s.length≤8388608) (a:Nat) (bad:Bool):D5 { mText:=s,mAt:=(a:Int),mBad:=bad }=some (if bad then (0,{ mText:=s,mAt:=(a:Int),mBad:=true }) else match rv s a with | some x=>((x.1:Int),{ mText:=s,mAt:=(x.2:Int),mBad:=false }) | none=>(0,{ mText:=s,mAt:=(a:Int),mBad:=true })):=by
 unfold D5
 dsimp only
 rw [Mw (t:=s) (by omega) a,ob]
 cases bad with
 | true=>rfl
 | false =>
  cases rv s a with
  | none=>rfl
  | some x=>rfl
theorem Aj {s:List UInt8} (hs:s.length≤8388608) (a:Nat) (bad:Bool):∃ (n:Int) (b:Nat) (bad':Bool),D5 { mText:=s,mAt:=(a:Int),mBad:=bad }=some (n,{ mText:=s,mAt:=(b:Int),mBad:=bad' }):=by
 rw [A4o hs]
 cases bad with
 | true=>exact ⟨0,a,true,rfl⟩
 | false =>
  cases rv s a with
  | none=>exact ⟨0,a,true,rfl⟩
  | some x=>exact ⟨x.1,x.2,false,rfl⟩
theorem A24 {A B:List UInt8} {z:Int} (hs:(A++(vt z++B)).length≤8388608) (h:0≤z∧z≤1000000000):D5 { mText:=A++(vt z++B),mAt:=(A.length:Int),mBad:=false }=some (z,{ mText:=A++(vt z++B),mAt:=((A++vt z).length:Int),mBad:=false }):=by
 obtain ⟨n,rfl⟩:∃ n:Nat,z=n:=⟨z.toNat,by omega⟩
 rw [A4o hs,A21 (n:=n) (r:=B) (by rw [List.drop_left]) (by omega)]
 simp
theorem A63 {s:List UInt8} (hs:s.length≤8388608) (v:Int×TL06Cur) (a:Nat) (bad:Bool):∃ (b:Nat) (bad':Bool) (l:List TRef),iter (K1 v) (0,s,(a:Int),bad,[])=some (s,(b:Int),bad',l)∧l.length≤20:=by
 have:=Cl (step:=K1 v) (fun st=>∃ (j b:Nat) (bad':Bool) (l:List TRef),st=((j:Int),s,(b:Int),bad',l)∧l.length=j∧j≤20) (fun st=>20 - st.1.toNat) (fun r=>∃ (b:Nat) (bad':Bool) (l:List TRef),r=(s,(b:Int),bad',l)∧l.length≤20) ?_ (0,s,(a:Int),bad,[]) ⟨0,a,bad,[],rfl,rfl,by omega⟩
 ·obtain ⟨r,h1,b,bad',l,h2,h3⟩:=this
  exact ⟨b,bad',l,by rw [h1,h2],h3⟩
 ·rintro _ ⟨j,b,bad',l,rfl,hl,hj⟩
  unfold K1
  dsimp only
  by_cases c:(decide ((j:Int)<v.1)&&(decide ((j:Int)<20)&&!bad'))=true
  ·simp only [Bool.and_eq_true,decide_eq_true_eq,Bool.not_eq_true'] at c
   obtain ⟨c1,c2,c3⟩:=c
   subst c3
   obtain ⟨n1,b1,d1,e1⟩:=Aj hs b false
   obtain ⟨n2,b2,d2,e2⟩:=Aj hs b1 d1
   refine .inl ⟨(((j+1:Nat):Int),s,(b2:Int),d2,l++[{ No:=n1,Gen:=n2 }]),?_,⟨j+1,b2,d2,_,rfl,by simp [hl],by omega⟩,by simp only [Int.toNat_natCast]; omega⟩
   rw [if_pos (by simpa using c1),if_pos (by simpa using c2),ob,if_pos (by simp),e1,ob]
   dsimp only
   rw [e2,ob]
   dsimp only
   rw [app?_ok (by rw [List.length_singleton]; omega) (by rw [List.length_singleton]; omega),ob,C5 (by omega)]
  ·refine .inr ⟨(s,(b:Int),bad',l),?_,b,bad',l,rfl,by omega⟩
   have:(if decide ((j:Int)<v.1)=true then (if decide ((j:Int)<20)=true then some (!bad') else some false) else some false)=some false:=by
    by_cases c1:(j:Int)<v.1 <;> by_cases c2:(j:Int)<20 <;> cases bad' <;> simp_all
   rw [this,ob,if_neg (by simp)]
theorem A5p {t:List UInt8} (ht:t.length≤8388608):∃ r,L7 t=some r∧(r.2=true→goodC t r.1)∧(r.2=false→r.1=check0):=by
 have fail:∃ r,some (check0,false)=some r∧(r.2=true→goodC t r.1)∧(r.2=false→r.1=check0):=⟨_,rfl,by simp,by simp⟩
 unfold L7
 rw [A6h ht,ob]
 cases h1:rs t with
 | none =>
  rw [show rsR none=([],0,false) from rfl,A2v (by simp),ob,if_pos (by simp)]
  exact fail
 | some x =>
  obtain ⟨b1,b2⟩:=A2u h1
  rw [show rsR (some x)=(x.1,(x.2:Int),true) from rfl]
  dsimp only
  rw [A2v (by omega),ob,if_neg (by simp)]
  cases h2:us x.1 with
  | none=>rw [show usR none=([],false) from rfl,if_pos (by simp)]; exact fail
  | some s =>
   have b3:=A8l h2
   rw [show usR (some s)=(s,true) from rfl,if_neg (by simp)]
   dsimp only
   have hs:s.length≤8388608:=by omega
   obtain ⟨n1,a1,d1,e1⟩:=Aj hs 0 false
   obtain ⟨n2,a2,d2,e2⟩:=Aj hs a1 d1
   obtain ⟨n3,a3,d3,e3⟩:=Aj hs a2 d2
   obtain ⟨n4,a4,d4,e4⟩:=Aj hs a3 d3
   obtain ⟨n5,a5,d5,e5⟩:=Aj hs a4 d4
   obtain ⟨a6,d6,l,e6,hl⟩:=A63 hs (n5,{ mText:=s,mAt:=(a5:Int),mBad:=d5 }) a5 d5
   rw [show ((0:Nat):Int)=0 from rfl] at e1
   rw [e1,ob]
   dsimp only
   rw [e2,ob]
   dsimp only
   rw [e3,ob]
   dsimp only
   rw [e4,ob]
   dsimp only
   rw [e5,ob]
   dsimp only
   rw [e6,ob]
   dsimp only
   rw [Ac (by dsimp only; omega),ob]
   generalize hc:({ Stamp:=n1,NextGen:=n2,NextSeq:=n3,NextValid:=n4,Refs:=l }:TCheck)=c
   cases d6 with
   | true=>exact fail
   | false =>
    rw [if_neg (by simp)]
    cases h8:(checkText c).2 with
    | false=>exact fail
    | true =>
     rw [if_neg (by simp),sub?_take b1,ob]
     by_cases h9:(checkText c).1=t.take x.2
     ·rw [if_neg (by simpa using h9),ob,if_neg (by simp)]
      exact ⟨_,rfl,fun _=>by first | exact Uo h8 h9 | (dsimp only; rw [hc]; exact Uo h8 h9),fun h=>absurd h (by simp)⟩
     ·rw [if_pos (by simpa using h9),ob,if_pos rfl]
      exact fail
theorem A56 {t:List UInt8} (ht:t.length≤8388608) {c:TCheck} (h:goodC t c):L7 t=some (c,true):=by
 have hk:=Ye h
 obtain ⟨h1,h2⟩:=A2a h
 have hb:=Hs hk
 obtain ⟨⟨r1,r2,r3,r4⟩,h5,h6⟩:=X8 hk
 obtain ⟨b1,b2⟩:=A2u h1
 have hs:(ctBody c).length≤8388608:=by omega
 have rd:∀ {A B:List UInt8} {z:Int},ctBody c=A++(vt z++B)→0≤z∧z≤1000000000→D5 { mText:=ctBody c,mAt:=(A.length:Int),mBad:=false }=some (z,{ mText:=ctBody c,mAt:=((A++vt z).length:Int),mBad:=false }):=by
  intro A B z he hz
  rw [he] at hs ⊢
  exact A24 hs hz
 have e1:=rd (A:=[]) (z:=c.Stamp) (B:=vt c.NextGen++(vt c.NextSeq++(vt c.NextValid++(vt c.Refs.length++c.Refs.flatMap refT)))) (by simp [ctBody,ctHead]) (by omega)
 have e2:=rd (A:=[]++vt c.Stamp) (z:=c.NextGen) (B:=vt c.NextSeq++(vt c.NextValid++(vt c.Refs.length++c.Refs.flatMap refT))) (by simp [ctBody,ctHead]) (by omega)
 have e3:=rd (A:=[]++vt c.Stamp++vt c.NextGen) (z:=c.NextSeq) (B:=vt c.NextValid++(vt c.Refs.length++c.Refs.flatMap refT)) (by simp [ctBody,ctHead]) (by omega)
 have e4:=rd (A:=[]++vt c.Stamp++vt c.NextGen++vt c.NextSeq) (z:=c.NextValid) (B:=vt c.Refs.length++c.Refs.flatMap refT) (by simp [ctBody,ctHead]) (by omega)
 have e5:=rd (A:=[]++vt c.Stamp++vt c.NextGen++vt c.NextSeq++vt c.NextValid) (z:=c.Refs.length) (B:=c.Refs.flatMap refT) (by simp [ctBody,ctHead]) (by omega)
 have hh:[]++vt c.Stamp++vt c.NextGen++vt c.NextSeq++vt c.NextValid++vt c.Refs.length=ctHead c:=by simp [ctHead]
 have e6:∀ v:TL06Cur,iter (K1 ((c.Refs.length:Int),v)) (0,ctBody c,((ctHead c).length:Int),false,[])=some (ctBody c,((ctBody c).length:Int),false,c.Refs):=by
  intro v
  have:=K7 (step:=K1 ((c.Refs.length:Int),v)) (fun j=>((j:Int),ctBody c,((ctHead c++(c.Refs.take j).flatMap refT).length:Int),false,c.Refs.take j)) c.Refs.length (r:=(ctBody c,((ctBody c).length:Int),false,c.Refs)) ?_ ?_
  ·simpa using this
  ·intro j hj
   have hr:=h6 _ (List.getElem_mem hj)
   have hsp:ctBody c=(ctHead c++(c.Refs.take j).flatMap refT)++(vt c.Refs[j].No++(vt c.Refs[j].Gen++(c.Refs.drop (j+1)).flatMap refT)):=by
    unfold ctBody
    conv=>lhs; rw [← List.take_append_drop j c.Refs,List.drop_eq_getElem_cons hj,List.flatMap_append,List.flatMap_cons]
    simp [refT]
   have g1:=rd hsp (by omega)
   have g2:=rd (A:=(ctHead c++(c.Refs.take j).flatMap refT)++vt c.Refs[j].No) (z:=c.Refs[j].Gen) (B:=(c.Refs.drop (j+1)).flatMap refT) (by rw [hsp]; simp) (by omega)
   have hnx:(c.Refs.take (j+1)).flatMap refT=(c.Refs.take j).flatMap refT++(vt c.Refs[j].No++vt c.Refs[j].Gen):=by
    rw [List.take_succ_eq_append_getElem hj,List.flatMap_append,List.flatMap_cons,List.flatMap_nil,List.append_nil]; rfl
   have htl:(c.Refs.take j).length≤30:=by rw [List.length_take]; omega
   unfold K1
   dsimp only
   rw [if_pos (by simpa using hj),if_pos (by simp <;> omega),ob,if_pos (by simp),g1,ob]
   dsimp only
   rw [g2,ob]
   dsimp only
   rw [app?_ok (by rw [List.length_singleton]; omega) (by rw [List.length_singleton]; omega),ob,C5 (by omega),hnx,List.take_succ_eq_append_getElem hj]
   simp only [List.append_assoc]
  ·unfold K1
   dsimp only
   rw [if_neg (by simp),ob,if_neg (by simp),List.take_length]
   rfl
 obtain ⟨r,hr⟩:=h.2
 have htk:t.take (ctOut c).length=ctOut c:=by rw [hr,List.take_left]
 unfold L7
 rw [A6h ht,ob,h1,show rsR (some (ctBody c++sealL (ctBody c),(ctOut c).length))=(ctBody c++sealL (ctBody c),((ctOut c).length:Int),true) from rfl]
 dsimp only
 rw [A2v (by dsimp only at b2; omega),ob,if_neg (by simp),h2,show usR (some (ctBody c))=(ctBody c,true) from rfl,if_neg (by simp)]
 dsimp only
 rw [show ((([]:List UInt8).length:Nat):Int)=0 from rfl] at e1
 rw [e1,ob]
 dsimp only
 rw [e2,ob]
 dsimp only
 rw [e3,ob]
 dsimp only
 rw [e4,ob]
 dsimp only
 rw [e5,ob]
 dsimp only
 rw [hh,e6,ob]
 dsimp only
 rw [show ({ Stamp:=c.Stamp,NextGen:=c.NextGen,NextSeq:=c.NextSeq,NextValid:=c.NextValid,Refs:=c.Refs }:TCheck)=c from rfl,Ac (by dsimp only; omega),ob,if_neg (by simp),h.1]
 dsimp only
 rw [if_neg (by simp),sub?_take b1,ob]
 dsimp only
 rw [htk,if_neg (by simp),ob]
 rfl
noncomputable def readC (t:List UInt8):TCheck×Bool:=(L7 t).getD (check0,false)
theorem A5k {t:List UInt8} (ht:t.length≤8388608):L7 t=some (readC t)∧M9 t=some (readC t)∧(readC t).1.Refs.length≤11:=by
 obtain ⟨r,h1,h2,h3⟩:=A5p ht
 have e:readC t=r:=by unfold readC; rw [h1]; rfl
 refine ⟨by rw [e,h1],?_,?_⟩
 ·rw [e,← h1]
  exact A75 (A5i ht) (fun c h=>A5j ht h) ⟨r,h1,h2,h3⟩ (fun c h=>A56 ht h)
 ·rw [e]
  cases hr:r.2 with
  | true=>have:=(X8 (Ye (h2 hr))).2.1; omega
  | false=>rw [h3 hr]; simp [check0]
theorem A30 {d:TDisk} (h:C9 d=true) (f:Nat):∀ m,f+m≤d.Sectors.length→(secT d f m).length=32*m
 | 0,_=>rfl
 | m+1,hm=>by
  have h1:=A30 h f m (by omega)
  have h2:=Kq h (a:=f+m) (by omega)
  rw [secT,List.length_append]; omega
theorem A4q {d:TDisk} (h:C9 d=true) (f:Nat):∀ m,f+m≤d.Sectors.length→∀ j,j<32*m→(secT d f m)[j]?=(rsec d (f+j / 32))[j%32]?
 | 0,_,j,hj=>by omega
 | m+1,hm,j,hj=>by
  have h1:=A30 h f m (by omega)
  rw [secT]
  by_cases c:j<32*m
  ·rw [List.getElem?_append_left (by omega)]
   exact A4q h f m (by omega) j c
  ·rw [List.getElem?_append_right (by omega),h1,show j / 32=m by omega,show j%32=j - 32*m by omega]
theorem A7t {d:TDisk} (h:C9 d=true) {b:Nat} {T:List UInt8} {a q:Nat} (ha:a<d.Sectors.length) (hq:q<32):(rsec (poke d b T) a)[q]?=if b≤32*a+q∧32*a+q<b+T.length then T[32*a+q - b]? else (rsec d a)[q]?:=by
 have h32:=Kq h ha
 rw [A3w ha,List.getElem?_map,List.getElem?_range hq,Option.map_some]
 split
 ·rw [List.getD_eq_getElem?_getD,qG (by omega)]; rfl
 ·rw [List.getD_eq_getElem?_getD,qG (by omega)]; rfl
theorem A53 {d:TDisk} {f n:Nat} (h:f+n≤d.Sectors.length):sectorT d f n=(secT d f n,true):=by unfold sectorT; rw [if_pos h]
theorem A5e:∀ n:Nat,n<128→1≤n→ofI (n:Int)≠0:=by decide
theorem A9r {n:Nat} (h:5≤n∧n≤11):C9 (poke (newDisk (8+n*8)) 256 headT)=true:=Yf (A0p h) _ _
def rsA (t:List UInt8) (a:Nat):Option (List UInt8×Nat):=match rv t a with
 | some x=>if x.1≤20000∧x.2+x.1≤t.length then some ((t.drop x.2).take x.1,x.2+x.1) else none
 | none=>none
theorem A6f {t:List UInt8} (ht:t.length≤8388608) (a:Nat):((if !(rvR (rv t a)).2.2 then some true else (if decide ((rvR (rv t a)).1>20000) then some true else (if decide ((rvR (rv t a)).1>(w64 ((t.length:Int) - (rvR (rv t a)).2.1))) then some true else some false))):Option Bool).bind (fun y2=>(if y2 then some (([]:List UInt8),(0:Int),false) else (sub? t (rvR (rv t a)).2.1 (w64 ((rvR (rv t a)).2.1+(rvR (rv t a)).1))).bind fun v3=>some (v3,w64 ((rvR (rv t a)).2.1+(rvR (rv t a)).1),true)))=some (rsR (rsA t a)):=by
 unfold rsA
 cases h:rv t a with
 | none=>rfl
 | some x =>
  obtain ⟨h1,h2,h3⟩:=Km h
  exact A6e ht h2 h3
theorem Ui {t:List UInt8} (ht:t.length≤8388608) (a:Nat):L6 t (a:Int)=some (rsR (rsA t a)):=by
 unfold L6
 rw [Mw (by omega) a,ob]
 exact A6f ht a
theorem Hm {t:List UInt8} (ht:t.length≤8388608) (a:Nat):G7 t (a:Int)=some (rsR (rsA t a)):=by
 unfold G7
 rw [Eo (by omega) a,ob]
 exact A6f ht a
theorem Mz {t:List UInt8} {a:Nat} {x:List UInt8×Nat} (h:rsA t a=some x):a<x.2∧x.2≤t.length∧x.1.length≤20000:=by
 unfold rsA at h
 split at h
 ·rename_i y hy
  obtain ⟨h1,h2,h3⟩:=Km hy
  split at h
  ·rename_i hc
   cases h
   refine ⟨by simp only; omega,hc.2,?_⟩
   simp only [List.length_take]
   omega
  ·cases h
 ·cases h
theorem Tr {t:List UInt8} {a:Nat} {x:Nat×Nat} (h:rv t a=some x):t.drop a=vt (x.1:Int)++t.drop x.2:=by
 unfold rv at h
 split at h
 ·rename_i y hy
  split at h
  ·rename_i hc
   cases h
   dsimp only
   rw [hc.2,← List.drop_drop,List.take_append_drop]
  ·cases h
 ·cases h
theorem A0c {t:List UInt8} {a:Nat} {x:List UInt8×Nat} (h:rsA t a=some x):t.drop a=short x.1++t.drop x.2:=by
 unfold rsA at h
 split at h
 ·rename_i y hy
  obtain ⟨h1,h2,h3⟩:=Km hy
  split at h
  ·rename_i hc
   cases h
   have hl:((t.drop y.2).take y.1).length=y.1:=by simp only [List.length_take,List.length_drop]; omega
   rw [Tr hy]
   unfold short
   dsimp only
   rw [hl,List.append_assoc,← List.drop_drop,List.take_append_drop]
  ·cases h
 ·cases h
theorem A55 {A B s:List UInt8} (h:s.length≤20000):rsA (A++(short s++B)) A.length=some (s,(A++short s).length):=by
 have hs:short s=vt (s.length:Int)++s:=rfl
 unfold rsA
 rw [A21 (n:=s.length) (r:=s++B) (by rw [List.drop_left,hs,List.append_assoc]) (by omega)]
 dsimp only
 have e1:(A++(short s++B)).drop (A.length+(vt (s.length:Int)).length)=s++B:=by
  rw [← List.drop_drop,List.drop_left,hs,List.append_assoc,List.drop_left]
 rw [if_pos ⟨h,by simp [hs]; omega⟩,e1,List.take_left]
 simp [hs,Nat.add_assoc]
def F0 (f:TFrame):List UInt8:=frameT f++sealL (frameT f)
def rfC (t:List UInt8) (a:Nat) (f:TFrame) (n:Nat):Option (TFrame×Nat):=if J0 f=true∧n+4≤t.length∧(t.take (n+4)).drop a=F0 f then some (f,n+4) else none
theorem A3n {t:List UInt8} {a:Nat} {f:TFrame} {n:Nat} (h1:J0 f=true) (h2:n+4≤t.length) (h3:(t.take (n+4)).drop a=F0 f):rfC t a f n=some (f,n+4):=if_pos ⟨h1,h2,h3⟩
theorem Pc {t:List UInt8} {a:Nat} {f:TFrame} {n:Nat} (h:¬ (J0 f=true∧n+4≤t.length∧(t.take (n+4)).drop a=F0 f)):rfC t a f n=none:=if_neg h
theorem sub?_td {t:List UInt8} {a n:Nat} (h1:a≤n) (h2:n≤t.length):sub? t (a:Int) (n:Int)=some ((t.take n).drop a):=by
 unfold sub?
 rw [if_pos (by omega),Int.toNat_natCast,Int.toNat_natCast]
def rf (t:List UInt8) (a:Nat):Option (TFrame×Nat):=match rv t a with
 | none=>none
 | some g=>match rv t g.2 with
  | none=>none
  | some s=>match rsA t s.2 with
   | none=>none
   | some b=>rfC t a { Gen:=(g.1:Int),Seq:=(s.1:Int),Body:=b.1 } b.2
def rfR (o:Option (TFrame×Nat)):TFrame×Int×Bool:=match o with
 | some x=>(x.1,(x.2:Int),true)
 | none=>(frame0,0,false)
theorem Gn:rvR none=(0,0,false):=rfl
theorem Gk (x:Nat×Nat):rvR (some x)=((x.1:Int),(x.2:Int),true):=rfl
theorem Yg:rsR none=([],0,false):=rfl
theorem Ls (x:List UInt8×Nat):rsR (some x)=(x.1,(x.2:Int),true):=rfl
theorem Aa7 {t:List UInt8} (ht:t.length≤8388608) (a:Nat):Gc t (a:Int)=some (rfR (rf t a)):=by
 unfold Gc rf
 rw [Mw (by omega) a,ob]
 cases h1:rv t a with
 | none =>
  rw [Gn]
  dsimp only
  rw [show (0:Int)=((0:Nat):Int) from rfl,Mw (by omega) 0,ob]
  have:∃ n:Nat,(rvR (rv t 0)).2.1=n:=by cases rv t 0 <;> exact ⟨_,rfl⟩
  obtain ⟨n,hn⟩:=this
  rw [hn,Ui ht,ob]
  rfl
 | some g =>
  obtain ⟨b1,b2,b3⟩:=Km h1
  rw [Gk]
  dsimp only
  rw [Mw (by omega) g.2,ob]
  cases h2:rv t g.2 with
  | none =>
   rw [Gn]
   dsimp only
   rw [show (0:Int)=((0:Nat):Int) from rfl,Ui ht,ob]
   rfl
  | some s =>
   obtain ⟨c1,c2,c3⟩:=Km h2
   rw [Gk]
   dsimp only
   rw [Ui ht,ob]
   cases h3:rsA t s.2 with
   | none=>rfl
   | some b =>
    obtain ⟨d1,d2,d3⟩:=Mz h3
    rw [Ls]
    dsimp only
    have e1:w64 ((t.length:Int) - 4)=(t.length:Int) - 4:=B7 (by omega) (by omega)
    have e2:w64 ((b.2:Int)+4)=((b.2+4:Nat):Int):=by rw [B7 (by omega) (by omega)]; omega
    rw [e1,e2,if_neg (by simp),if_neg (by simp),if_neg (by simp)]
    by_cases k1:b.2+4≤t.length
    ·rw [if_neg (by simp; omega),if_neg (by simp),ob,if_neg (by simp),W4,ob]
     unfold E7
     by_cases k2:J0 { Gen:=(g.1:Int),Seq:=(s.1:Int),Body:=b.1 }=true
     ·rw [if_pos k2,if_neg (by simp)]
      rw [sub?_td (by omega) k1,ob]
      by_cases k3:(t.take (b.2+4)).drop a=F0 { Gen:=(g.1:Int),Seq:=(s.1:Int),Body:=b.1 }
      ·rw [A3n k2 k1 k3,if_neg (by rw [k3]; simp [F0]),ob,if_neg (by simp)]
       rfl
      ·rw [Pc (fun h=>k3 h.2.2),if_pos (by simp only [Bool.not_eq_true',beq_eq_false_iff_ne,ne_eq]; exact fun h=>k3 h.symm),ob,if_pos rfl]
       rfl
     ·rw [if_neg k2,Pc (fun h=>k2 h.1),if_pos (by simp),ob,if_pos rfl]
      rfl
    ·rw [if_pos (by simp; omega),ob,if_pos rfl,Pc (fun h=>k1 h.2.1)]
     rfl
theorem A6m {t:List UInt8} (ht:t.length≤8388608) (a:Nat):V2 t (a:Int)=some (rfR (rf t a)):=by
 unfold V2 rf
 rw [Eo (by omega) a,ob]
 cases h1:rv t a with
 | none =>
  rw [Gn]
  dsimp only
  rw [show (0:Int)=((0:Nat):Int) from rfl,Eo (by omega) 0,ob]
  have:∃ n:Nat,(rvR (rv t 0)).2.1=n:=by cases rv t 0 <;> exact ⟨_,rfl⟩
  obtain ⟨n,hn⟩:=this
  rw [hn,Hm ht,ob]
  rfl
 | some g =>
  obtain ⟨b1,b2,b3⟩:=Km h1
  rw [Gk]
  dsimp only
  rw [Eo (by omega) g.2,ob]
  cases h2:rv t g.2 with
  | none =>
   rw [Gn]
   dsimp only
   rw [show (0:Int)=((0:Nat):Int) from rfl,Hm ht,ob]
   rfl
  | some s =>
   obtain ⟨c1,c2,c3⟩:=Km h2
   rw [Gk]
   dsimp only
   rw [Hm ht,ob]
   cases h3:rsA t s.2 with
   | none=>rfl
   | some b =>
    obtain ⟨d1,d2,d3⟩:=Mz h3
    rw [Ls]
    dsimp only
    have e1:w64 ((t.length:Int) - (b.2:Int))=(t.length:Int) - b.2:=B7 (by omega) (by omega)
    have e2:w64 ((b.2:Int)+4)=((b.2+4:Nat):Int):=by rw [B7 (by omega) (by omega)]; omega
    rw [e1,e2,if_neg (by simp),if_neg (by simp),if_neg (by simp),Kp,ob]
    by_cases k2:J0 { Gen:=(g.1:Int),Seq:=(s.1:Int),Body:=b.1 }=true
    ·rw [if_pos k2]
     by_cases k1:b.2+4≤t.length
     ·rw [if_neg (by simp; omega),ob,if_neg (by simp),Lz,ob]
      unfold E7
      rw [if_pos k2,sub?_td (by omega) k1,ob]
      by_cases k3:(t.take (b.2+4)).drop a=F0 { Gen:=(g.1:Int),Seq:=(s.1:Int),Body:=b.1 }
      ·rw [A3n k2 k1 k3,if_neg (by rw [k3]; simp [F0])]
       rfl
      ·rw [Pc (fun h=>k3 h.2.2),if_pos (by simp only [Bool.not_eq_true',beq_eq_false_iff_ne,ne_eq]; exact k3)]
       rfl
     ·rw [if_pos (by simp; omega),ob,if_pos rfl,Pc (fun h=>k1 h.2.1)]
      rfl
    ·rw [if_neg k2,ob,if_pos rfl,Pc (fun h=>k2 h.1)]
     rfl
theorem A5m (n:Int):1≤(vt n).length:=by
 unfold vt
 split
 ·unfold vtl
  split <;> simp
 ·simp
theorem A07 {t:List UInt8} {a:Nat} {x:TFrame×Nat} (h:rf t a=some x):a+8≤x.2∧x.2≤t.length∧J0 x.1=true:=by
 unfold rf at h
 split at h
 ·cases h
 rename_i g hg
 split at h
 ·cases h
 rename_i s hs
 split at h
 ·cases h
 rename_i b hb
 unfold rfC at h
 split at h
 ·rename_i hc
  obtain ⟨h1,h2,h3⟩:=hc
  cases h
  refine ⟨?_,h2,h1⟩
  have hl:=congrArg List.length h3
  rw [List.length_drop,List.length_take] at hl
  have hb2:=Ba h1
  have p1:=A5m (g.1:Int)
  have p2:=A5m (s.1:Int)
  have p3:=A5m ((b.1.length:Nat):Int)
  unfold F0 frameT at hl
  simp only [List.length_append,Ag] at hl
  dsimp only at hb2 ⊢
  omega
 ·cases h
def scanN (t:List UInt8) (gen:Int):Nat→Nat→List TFrame→List TFrame×Nat
 | 0,a,l=>(l,a)
 | n+1,a,l=>match rf t a with
  | some x=>if x.1.Gen=gen then scanN t gen n x.2 (l++[x.1]) else (l,a)
  | none=>(l,a)
theorem A9y {t:List UInt8} {a:Nat} (h:t.length<a):rf t a=none:=by
 unfold rf
 rw [A3c h]
theorem Vi {t:List UInt8} (ht:t.length≤8388608) {gen:Int} {step:Int×List TFrame→Option ((Int×List TFrame) ⊕ ((List TFrame×Int) ⊕ Empty))}
  (h1:∀ (a:Nat) (l:List TFrame),step ((a:Int),l)=match rf t a with
   | some x=>if x.1.Gen=gen then (app? 32 l [x.1]).bind fun v=>some (.inl ((x.2:Int),v)) else some (.inr (.inl (l,(a:Int))))
   | none=>some (.inr (.inl (l,(a:Int))))) :
  ∀ (n a:Nat) (l:List TFrame),t.length<a+n→8*l.length≤a→iter step ((a:Int),l)=some (.inl ((scanN t gen n a l).1,((scanN t gen n a l).2:Int)))
 | 0,a,l,hn,_=>by
  refine D6 ?_
  rw [h1,A9y (by omega)]; rfl
 | n+1,a,l,hn,hl=>by
  rw [scanN]
  cases hr:rf t a with
  | none =>
   refine D6 ?_
   rw [h1,hr]
  | some x =>
   obtain ⟨b1,b2,b3⟩:=A07 hr
   dsimp only
   by_cases hg:x.1.Gen=gen
   ·rw [if_pos hg,V0 (s':=((x.2:Int),l++[x.1]))]
    ·exact Vi ht h1 n x.2 _ (by omega) (by simp; omega)
    ·rw [h1,hr]
     dsimp only
     rw [if_pos hg,app?_ok (by simp; omega) (by simp; omega)]; rfl
   ·rw [if_neg hg]
    refine D6 ?_
    rw [h1,hr]
    dsimp only
    rw [if_neg hg]
theorem We {t:List UInt8} {gen:Int}:∀ (n a:Nat) (l:List TFrame),8*l.length≤a→a≤t.length→8*(scanN t gen n a l).1.length≤t.length∧(scanN t gen n a l).2≤t.length∧l.length≤(scanN t gen n a l).1.length
 | 0,a,l,h,h2=>by simp only [scanN]; omega
 | n+1,a,l,h,h2=>by
  rw [scanN]
  cases hr:rf t a with
  | none=>dsimp only; omega
  | some x =>
   obtain ⟨b1,b2,b3⟩:=A07 hr
   dsimp only
   by_cases hg:x.1.Gen=gen
   ·rw [if_pos hg]
    have:=We (t:=t) (gen:=gen) n x.2 (l++[x.1]) (by simp; omega) b2
    simp at this
    omega
   ·rw [if_neg hg]; dsimp only; omega
def scan (t:List UInt8) (gen:Int):List TFrame×Nat:=scanN t gen (t.length+1) 0 []
theorem Aap {t:List UInt8} (ht:t.length≤8388608) (gen:Int):Jd t gen=some ((scan t gen).1,((scan t gen).2:Int)):=by
 unfold Jd
 have:=Vi (t:=t) ht (gen:=gen) (step:=Eb t gen) ?_ (t.length+1) 0 [] (by omega) (by simp)
 ·rw [show ((0:Nat):Int)=0 from rfl] at this
  rw [this]; rfl
 ·intro a l
  unfold Eb
  rw [Aa7 ht,ob]
  cases rf t a with
  | none=>rfl
  | some x =>
   simp only [rfR]
   by_cases hg:x.1.Gen=gen
   ·rw [if_pos hg]
    simp [hg]
   ·rw [if_neg hg]
    simp [hg]
theorem A6w {t:List UInt8} (ht:t.length≤8388608) (gen:Int):Y5 t gen=some ((scan t gen).1,((scan t gen).2:Int)):=by
 unfold Y5
 have:=Vi (t:=t) ht (gen:=gen) (step:=Y8 t gen) ?_ (t.length+1) 0 [] (by omega) (by simp)
 ·rw [show ((0:Nat):Int)=0 from rfl] at this
  rw [this]; rfl
 ·intro a l
  unfold Y8
  rw [A6m ht,ob]
  cases rf t a with
  | none=>rfl
  | some x =>
   simp only [rfR]
   by_cases hg:x.1.Gen=gen
   ·rw [if_pos hg]
    simp [hg]
   ·rw [if_neg hg]
    simp [hg]
def segT (d:TDisk) (no:Int):List UInt8:=if inR no 0 10 then (sectorT d (8+8*no.toNat) 8).1 else []
theorem A0l {d:TDisk} (h:DkS d) (no:Int):(segT d no).length≤8388608:=by
 unfold segT
 split
 ·unfold sectorT
  split
  ·have:=Tf h (8+8*no.toNat) 8; dsimp only; omega
  ·simp
 ·simp
theorem A6b {no:Int} {k:Nat} (h:inR no 0 k=true):∃ n:Nat,no=n∧n≤k:=by
 unfold inR at h
 simp only [Bool.and_eq_true,decide_eq_true_eq] at h
 exact ⟨no.toNat,by omega,by omega⟩
theorem Aas {d:TDisk} (h:DkS d) (no:Int):Mp d no=some (segT d no):=by
 unfold Mp Q4 segT
 rw [K4,ob]
 cases hr:inR no 0 10 with
 | false=>rfl
 | true =>
  obtain ⟨n,rfl,hn⟩:=A6b (k:=10) hr
  have e1:w64 ((n:Int)*8)=(n:Int)*8:=B7 (by omega) (by omega)
  have e2:w64 (8+(n:Int)*8)=((8+8*n:Nat):Int):=by rw [B7 (by omega) (by omega)]; omega
  rw [if_pos rfl,ob,if_pos rfl,e1,e2,ob]
  have:=Xl h (f:=8+8*n) (n:=8) (by omega) (by omega) (by omega)
  rw [show ((8:Nat):Int)=8 from rfl] at this
  rw [this,ob,if_pos rfl,Int.toNat_natCast]
theorem A2c {d:TDisk} (h:DkS d) (no:Int):Aa d no=some (segT d no):=by
 unfold Aa X6 segT
 rw [P3,ob]
 cases hr:inR no 0 10 with
 | false=>rfl
 | true =>
  obtain ⟨n,rfl,hn⟩:=A6b (k:=10) hr
  have e1:w64 ((n:Int)*8)=(n:Int)*8:=B7 (by omega) (by omega)
  have e2:w64 (8+(n:Int)*8)=((8+8*n:Nat):Int):=by rw [B7 (by omega) (by omega)]; omega
  rw [if_pos rfl,ob,if_pos rfl,e1,e2,ob]
  have:=Xk h (f:=8+8*n) (n:=8) (by omega) (by omega) (by omega)
  rw [show ((8:Nat):Int)=8 from rfl] at this
  rw [this,ob,if_pos rfl,Int.toNat_natCast]
def segGen (t:List UInt8):Int:=match rf t 0 with
 | some x=>if x.1.Body=[115,101,103] then x.1.Gen else 0
 | none=>0
theorem Xc {d:TDisk} (h:DkS d) (no:Int):Bv d no=some (segGen (segT d no)):=by
 unfold Bv segGen
 rw [A2c h,ob]
 have:=A6m (A0l h no) 0
 rw [show ((0:Nat):Int)=0 from rfl] at this
 rw [this,ob]
 cases rf (segT d no) 0 with
 | none=>simp [rfR,frame0]
 | some x =>
  simp only [rfR]
  by_cases hb:x.1.Body=[115,101,103]
  ·rw [if_pos hb]; simp [hb]
  ·rw [if_neg hb]; simp [hb]
def segFr (t:List UInt8):List TFrame×Nat:=if segGen t=0 then ([],0) else ((scan t (segGen t)).1.drop 1,(scan t (segGen t)).2)
theorem A60 {t:List UInt8} (h:segGen t≠0):1≤(scan t (segGen t)).1.length:=by
 have key:∃ x,rf t 0=some x∧x.1.Gen=segGen t:=by
  unfold segGen at h ⊢
  cases hr:rf t 0 with
  | none=>rw [hr] at h; exact absurd rfl h
  | some x =>
   rw [hr] at h
   dsimp only at h ⊢
   by_cases hb:x.1.Body=[115,101,103]
   ·exact ⟨x,rfl,by rw [if_pos hb]⟩
   ·rw [if_neg hb] at h; exact absurd rfl h
 obtain ⟨x,hr,hg⟩:=key
 unfold scan
 rw [scanN,hr]
 dsimp only
 rw [if_pos hg]
 obtain ⟨b1,b2,_⟩:=A07 hr
 have:=(We (t:=t) (gen:=segGen t) t.length x.2 ([]++[x.1]) (by simp; omega) b2).2.2
 simpa using this
theorem A6t {t:List UInt8}:8*(segFr t).1.length≤t.length:=by
 unfold segFr
 split
 ·simp
 ·have:=(We (t:=t) (gen:=segGen t) (t.length+1) 0 [] (by simp) (by omega)).1
  unfold scan
  simp only [List.length_drop]
  omega
theorem A5f {d:TDisk} (h:DkS d) (no:Int):Ar d no=some ((segFr (segT d no)).1,((segFr (segT d no)).2:Int)):=by
 have hl:=A0l h no
 unfold Ar segFr
 rw [Xc h,ob]
 by_cases hg:segGen (segT d no)=0
 ·rw [if_pos (by simpa using hg),if_pos hg]; rfl
 ·have h1:=A60 hg
  rw [if_neg (by simpa using hg),if_neg hg,A2c h,ob,A6w hl,ob]
  have e:=sub?_tail (l:=(scan (segT d no) (segGen (segT d no))).1) (i:=1) h1
  rw [show ((1:Nat):Int)=1 from rfl] at e
  dsimp only
  rw [e,ob]
def rec0:TRec:={ Kind:=0,Valid:=0,Uid:=0,Next:=0,Flags:=0,User:=[],Name:=[],Text:=[] }
def goodR (t:List UInt8) (r:TRec):Prop:=recOk r=true∧t=recT r
theorem bt?_cons (c:UInt8) (s:List UInt8):bt? (c::s) 0=some c:=by simp [bt?]
theorem A78 (c:UInt8):ofI (IntKind.u8.wrap (w64 (c.toNat:Int)))=c:=by
 have:=c.toNat_lt
 rw [B7 (by omega) (by omega),Hg]
 have e:(c.toNat:Int)%256=c.toNat:=by omega
 rw [e,Vv]
theorem A1s {s:List UInt8} (hs:s.length≤8388608) (a:Nat) (bad:Bool):H8 { mText:=s,mAt:=(a:Int),mBad:=bad }=some (if bad then ([],{ mText:=s,mAt:=(a:Int),mBad:=true }) else match rsA s a with | some x=>(x.1,{ mText:=s,mAt:=(x.2:Int),mBad:=false }) | none=>([],{ mText:=s,mAt:=(a:Int),mBad:=true })):=by
 unfold H8
 dsimp only
 rw [Ui hs a,ob]
 cases bad with
 | true=>rfl
 | false =>
  cases rsA s a with
  | none=>rfl
  | some x=>rfl
theorem Qn {s:List UInt8} (hs:s.length≤8388608) (a:Nat) (bad:Bool):∃ (u:List UInt8) (b:Nat) (bad':Bool),H8 { mText:=s,mAt:=(a:Int),mBad:=bad }=some (u,{ mText:=s,mAt:=(b:Int),mBad:=bad' })∧u.length≤20000:=by
 rw [A1s hs]
 cases bad with
 | true=>exact ⟨[],a,true,rfl,by simp⟩
 | false =>
  cases h:rsA s a with
  | none=>exact ⟨[],a,true,rfl,by simp⟩
  | some x=>exact ⟨x.1,x.2,false,rfl,(Mz h).2.2⟩
theorem A52 {A B u:List UInt8} (hs:(A++(short u++B)).length≤8388608) (h:u.length≤20000):H8 { mText:=A++(short u++B),mAt:=(A.length:Int),mBad:=false }=some (u,{ mText:=A++(short u++B),mAt:=((A++short u).length:Int),mBad:=false }):=by
 rw [A1s hs,A55 h]
 rfl
theorem A7m {t:List UInt8} (ht:t.length≤8388608):∃ q,Ao t=some q∧(q.2=true→goodR t q.1)∧(q.2=false→q.1=rec0):=by
 have fail:∃ q,some (rec0,false)=some q∧(q.2=true→goodR t q.1)∧(q.2=false→q.1=rec0):=⟨_,rfl,by simp,by simp⟩
 unfold Ao
 cases t with
 | nil=>exact fail
 | cons c s =>
  rw [if_neg (by simp),bt?_cons,ob]
  obtain ⟨n1,a1,d1,e1⟩:=Aj ht 1 false
  rw [show ((1:Nat):Int)=1 from rfl] at e1
  obtain ⟨n2,a2,d2,e2⟩:=Aj ht a1 d1
  obtain ⟨n3,a3,d3,e3⟩:=Aj ht a2 d2
  obtain ⟨n4,a4,d4,e4⟩:=Aj ht a3 d3
  obtain ⟨u5,a5,d5,e5,l5⟩:=Qn ht a4 d4
  obtain ⟨u6,a6,d6,e6,l6⟩:=Qn ht a5 d5
  obtain ⟨u7,a7,d7,e7,l7⟩:=Qn ht a6 d6
  rw [e1,ob]
  dsimp only
  rw [e2,ob]
  dsimp only
  rw [e3,ob]
  dsimp only
  rw [e4,ob]
  dsimp only
  rw [e5,ob]
  dsimp only
  rw [e6,ob]
  dsimp only
  rw [e7,ob]
  dsimp only
  rw [Ko ⟨by dsimp only; omega,by dsimp only; omega,by dsimp only; omega⟩,ob]
  generalize hr:({ Kind:=w64 (c.toNat:Int),Valid:=n1,Uid:=n2,Next:=n3,Flags:=n4,User:=u5,Name:=u6,Text:=u7 }:TRec)=r
  cases d7 with
  | true=>exact fail
  | false =>
   rw [if_neg (by simp)]
   unfold recText
   by_cases hk:recOk r=true
   ·rw [if_pos hk,if_neg (by simp)]
    by_cases he:recT r=c::s
    ·rw [if_neg (by simp [he]),ob,if_neg (by simp)]
     exact ⟨_,rfl,fun _=>⟨hk,he.symm⟩,fun h=>absurd h (by simp)⟩
    ·rw [if_pos (by simp [he]),ob,if_pos rfl]
     exact fail
   ·rw [if_neg hk,if_pos (by simp),ob,if_pos rfl]
    exact fail
theorem A1w {t:List UInt8} (ht:t.length≤8388608) {r:TRec} (h:goodR t r):Ao t=some (r,true):=by
 obtain ⟨hk,hT⟩:=h
 obtain ⟨⟨v1,v2⟩,⟨u1,u2⟩,⟨n1,n2⟩,⟨f1,f2⟩,k1,k2⟩:=Vm hk
 obtain ⟨l1,l2,l3⟩:=Zj hk
 have rd:∀ {A B:List UInt8} {z:Int},t=A++(vt z++B)→0≤z∧z≤1000000000→D5 { mText:=t,mAt:=(A.length:Int),mBad:=false }=some (z,{ mText:=t,mAt:=((A++vt z).length:Int),mBad:=false }):=by
  intro A B z he hz
  rw [he] at ht ⊢
  exact A24 ht hz
 have rdS:∀ {A B u:List UInt8},t=A++(short u++B)→u.length≤20000→H8 { mText:=t,mAt:=(A.length:Int),mBad:=false }=some (u,{ mText:=t,mAt:=((A++short u).length:Int),mBad:=false }):=by
  intro A B u he hu
  rw [he] at ht ⊢
  exact A52 ht hu
 generalize hkb:[ofI (IntKind.u8.wrap r.Kind)]=kb
 have hT':t=kb++vt r.Valid++vt r.Uid++vt r.Next++vt r.Flags++short r.User++short r.Name++short r.Text:=by rw [hT,← hkb]; rfl
 have e1:=rd (A:=kb) (z:=r.Valid) (B:=vt r.Uid++(vt r.Next++(vt r.Flags++(short r.User++(short r.Name++short r.Text))))) (by rw [hT']; simp) (by omega)
 have e2:=rd (A:=kb++vt r.Valid) (z:=r.Uid) (B:=vt r.Next++(vt r.Flags++(short r.User++(short r.Name++short r.Text)))) (by rw [hT']; simp) (by omega)
 have e3:=rd (A:=kb++vt r.Valid++vt r.Uid) (z:=r.Next) (B:=vt r.Flags++(short r.User++(short r.Name++short r.Text))) (by rw [hT']; simp) (by omega)
 have e4:=rd (A:=kb++vt r.Valid++vt r.Uid++vt r.Next) (z:=r.Flags) (B:=short r.User++(short r.Name++short r.Text)) (by rw [hT']; simp) (by omega)
 have e5:=rdS (A:=kb++vt r.Valid++vt r.Uid++vt r.Next++vt r.Flags) (u:=r.User) (B:=short r.Name++short r.Text) (by rw [hT']; simp) (by omega)
 have e6:=rdS (A:=kb++vt r.Valid++vt r.Uid++vt r.Next++vt r.Flags++short r.User) (u:=r.Name) (B:=short r.Text) (by rw [hT']; simp) (by omega)
 have e7:=rdS (A:=kb++vt r.Valid++vt r.Uid++vt r.Next++vt r.Flags++short r.User++short r.Name) (u:=r.Text) (B:=[]) (by rw [hT']; simp) (by omega)
 have hkl:kb.length=1:=by rw [← hkb]; rfl
 rw [hkl] at e1
 have ht0:t=ofI (IntKind.u8.wrap r.Kind)::t.drop 1:=by rw [hT]; rfl
 have hb:bt? t 0=some (ofI (IntKind.u8.wrap r.Kind)):=by rw [ht0]; exact bt?_cons _ _
 have hkk:w64 ((ofI (IntKind.u8.wrap r.Kind)).toNat:Int)=r.Kind:=by
  have e:IntKind.u8.wrap r.Kind=((r.Kind.toNat:Nat):Int):=by rw [Hg]; omega
  rw [e,My (by omega),B7 (by omega) (by omega)]
  omega
 unfold Ao
 rw [if_neg (by rw [ht0]; simp),hb,ob,show (1:Int)=((1:Nat):Int) from rfl,e1,ob]
 dsimp only
 rw [e2,ob]
 dsimp only
 rw [e3,ob]
 dsimp only
 rw [e4,ob]
 dsimp only
 rw [e5,ob]
 dsimp only
 rw [e6,ob]
 dsimp only
 rw [e7,ob]
 dsimp only
 rw [hkk]
 have hR:({ Kind:=r.Kind,Valid:=r.Valid,Uid:=r.Uid,Next:=r.Next,Flags:=r.Flags,User:=r.User,Name:=r.Name,Text:=r.Text }:TRec)=r:=rfl
 rw [hR,Ko ⟨by first | omega | (dsimp only; omega),by first | omega | (dsimp only; omega),by first | omega | (dsimp only; omega)⟩,ob]
 unfold recText
 rw [if_pos hk,if_neg (by simp),if_neg (by simp),if_neg (by simp [hT]),ob,if_neg (by simp)]
theorem A6s {t:List UInt8} (ht:t.length≤8388608):∃ q,T1 t=some q∧(q.2=true→goodR t q.1)∧(q.2=false→q.1=rec0):=by
 have fail:∃ q,some (rec0,false)=some q∧(q.2=true→goodR t q.1)∧(q.2=false→q.1=rec0):=⟨_,rfl,by simp,by simp⟩
 unfold T1
 cases ht0:t with
 | nil=>rw [← ht0]; rw [ht0]; exact ⟨_,rfl,by simp,by simp [rec0]⟩
 | cons c s =>
  rw [← ht0]
  rw [if_neg (by rw [ht0]; simp)]
  have hb:bt? t 0=some c:=by rw [ht0]; exact bt?_cons _ _
  have hd:t.drop 1=s:=by rw [ht0]; rfl
  rw [hb,ob,show (1:Int)=((1:Nat):Int) from rfl,Eo (by omega) 1,ob]
  cases h1:rv t 1 with
  | none=>rw [Gn,if_pos (by simp)]; exact fail
  | some x1 =>
   rw [Gk,if_neg (by simp)]
   dsimp only
   rw [Eo (by omega) x1.2,ob]
   cases h2:rv t x1.2 with
   | none=>rw [Gn,if_pos (by simp)]; exact fail
   | some x2 =>
    rw [Gk,if_neg (by simp)]
    dsimp only
    rw [Eo (by omega) x2.2,ob]
    cases h3:rv t x2.2 with
    | none=>rw [Gn,if_pos (by simp)]; exact fail
    | some x3 =>
     rw [Gk,if_neg (by simp)]
     dsimp only
     rw [Eo (by omega) x3.2,ob]
     cases h4:rv t x3.2 with
     | none=>rw [Gn,if_pos (by simp)]; exact fail
     | some x4 =>
      rw [Gk,if_neg (by simp)]
      dsimp only
      rw [Hm ht x4.2,ob]
      cases h5:rsA t x4.2 with
      | none=>rw [Yg,if_pos (by simp)]; exact fail
      | some x5 =>
       rw [Ls,if_neg (by simp)]
       dsimp only
       rw [Hm ht x5.2,ob]
       cases h6:rsA t x5.2 with
       | none=>rw [Yg,if_pos (by simp)]; exact fail
       | some x6 =>
        rw [Ls,if_neg (by simp)]
        dsimp only
        rw [Hm ht x6.2,ob]
        cases h7:rsA t x6.2 with
        | none=>rw [Yg,if_pos (by simp)]; exact fail
        | some x7 =>
         rw [Ls,if_neg (by simp)]
         dsimp only
         have l5:=(Mz h5).2.2
         have l6:=(Mz h6).2.2
         have l7:=(Mz h7).2.2
         generalize hr:({ Kind:=w64 (c.toNat:Int),Valid:=(x1.1:Int),Uid:=(x2.1:Int),Next:=(x3.1:Int),Flags:=(x4.1:Int),User:=x5.1,Name:=x6.1,Text:=x7.1 }:TRec)=r
         by_cases hend:x7.2=t.length
         ·rw [if_neg (by simp [hend]),Qe (by rw [← hr]; exact ⟨by dsimp only; omega,by dsimp only; omega,by dsimp only; omega⟩),ob]
          by_cases hk:recOk r=true
          ·rw [if_pos hk,ob,if_neg (by simp)]
           refine ⟨_,rfl,fun _=>⟨hk,?_⟩,fun h=>absurd h (by simp)⟩
           have d1:=Tr h1
           rw [hd,Tr h2,Tr h3,Tr h4,A0c h5,A0c h6,A0c h7,hend,List.drop_length] at d1
           dsimp only
           rw [ht0,d1,← hr]
           unfold recT
           dsimp only
           rw [A78]
           simp
          ·rw [if_neg hk,ob,if_pos rfl]; exact fail
         ·rw [if_pos (by simp; omega),ob,if_pos rfl]; exact fail
theorem A6z {t:List UInt8} (ht:t.length≤8388608) {r:TRec} (h:goodR t r):T1 t=some (r,true):=by
 obtain ⟨hk,hT⟩:=h
 obtain ⟨⟨v1,v2⟩,⟨u1,u2⟩,⟨n1,n2⟩,⟨f1,f2⟩,k1,k2⟩:=Vm hk
 obtain ⟨l1,l2,l3⟩:=Zj hk
 have rd:∀ {A B:List UInt8} {z:Int},t=A++(vt z++B)→0≤z∧z≤1000000000→J2 t (A.length:Int)=some (z,((A++vt z).length:Int),true):=by
  intro A B z he hz
  rw [Eo (by omega),he,Aaf hz]
 have rdS:∀ {A B u:List UInt8},t=A++(short u++B)→u.length≤20000→G7 t (A.length:Int)=some (u,((A++short u).length:Int),true):=by
  intro A B u he hu
  rw [Hm ht,he,A55 hu]; rfl
 generalize hkb:[ofI (IntKind.u8.wrap r.Kind)]=kb
 have hT':t=kb++vt r.Valid++vt r.Uid++vt r.Next++vt r.Flags++short r.User++short r.Name++short r.Text:=by rw [hT,← hkb]; rfl
 have e1:=rd (A:=kb) (z:=r.Valid) (B:=vt r.Uid++(vt r.Next++(vt r.Flags++(short r.User++(short r.Name++short r.Text))))) (by rw [hT']; simp) (by omega)
 have e2:=rd (A:=kb++vt r.Valid) (z:=r.Uid) (B:=vt r.Next++(vt r.Flags++(short r.User++(short r.Name++short r.Text)))) (by rw [hT']; simp) (by omega)
 have e3:=rd (A:=kb++vt r.Valid++vt r.Uid) (z:=r.Next) (B:=vt r.Flags++(short r.User++(short r.Name++short r.Text))) (by rw [hT']; simp) (by omega)
 have e4:=rd (A:=kb++vt r.Valid++vt r.Uid++vt r.Next) (z:=r.Flags) (B:=short r.User++(short r.Name++short r.Text)) (by rw [hT']; simp) (by omega)
 have e5:=rdS (A:=kb++vt r.Valid++vt r.Uid++vt r.Next++vt r.Flags) (u:=r.User) (B:=short r.Name++short r.Text) (by rw [hT']; simp) (by omega)
 have e6:=rdS (A:=kb++vt r.Valid++vt r.Uid++vt r.Next++vt r.Flags++short r.User) (u:=r.Name) (B:=short r.Text) (by rw [hT']; simp) (by omega)
 have e7:=rdS (A:=kb++vt r.Valid++vt r.Uid++vt r.Next++vt r.Flags++short r.User++short r.Name) (u:=r.Text) (B:=[]) (by rw [hT']; simp) (by omega)
 have hkl:kb.length=1:=by rw [← hkb]; rfl
 rw [hkl] at e1
 have ht0:t=ofI (IntKind.u8.wrap r.Kind)::t.drop 1:=by rw [hT]; rfl
 have hb:bt? t 0=some (ofI (IntKind.u8.wrap r.Kind)):=by rw [ht0]; exact bt?_cons _ _
 have hkk:w64 ((ofI (IntKind.u8.wrap r.Kind)).toNat:Int)=r.Kind:=by
  have e:IntKind.u8.wrap r.Kind=((r.Kind.toNat:Nat):Int):=by rw [Hg]; omega
  rw [e,My (by omega),B7 (by omega) (by omega)]
  omega
 unfold T1
 rw [if_neg (by rw [ht0]; simp),hb,ob,show (1:Int)=((1:Nat):Int) from rfl,e1,ob,if_neg (by simp)]
 dsimp only
 rw [e2,ob,if_neg (by simp)]
 dsimp only
 rw [e3,ob,if_neg (by simp)]
 dsimp only
 rw [e4,ob,if_neg (by simp)]
 dsimp only
 rw [e5,ob,if_neg (by simp)]
 dsimp only
 rw [e6,ob,if_neg (by simp)]
 dsimp only
 rw [e7,ob,if_neg (by simp)]
 dsimp only
 rw [hkk]
 have hR:({ Kind:=r.Kind,Valid:=r.Valid,Uid:=r.Uid,Next:=r.Next,Flags:=r.Flags,User:=r.User,Name:=r.Name,Text:=r.Text }:TRec)=r:=rfl
 have hend:(kb++vt r.Valid++vt r.Uid++vt r.Next++vt r.Flags++short r.User++short r.Name++short r.Text).length=t.length:=by rw [← hT']
 rw [hR,hend,if_neg (by simp),Qe ⟨by first | omega | (dsimp only; omega),by first | omega | (dsimp only; omega),by first | omega | (dsimp only; omega)⟩,ob,if_pos hk,ob,if_neg (by simp)]
noncomputable def readR (t:List UInt8):TRec×Bool:=(Ao t).getD (rec0,false)
theorem A4z {t:List UInt8} (ht:t.length≤8388608):Ao t=some (readR t)∧T1 t=some (readR t)∧((readR t).2=true→goodR t (readR t).1):=by
 obtain ⟨⟨sc,sb⟩,k1,k2,k3⟩:=A7m ht
 have e:readR t=(sc,sb):=by unfold readR; rw [k1]; rfl
 obtain ⟨⟨rc,rb⟩,h1,h2,h3⟩:=A6s ht
 refine ⟨by rw [e,k1],?_,by rw [e]; exact k2⟩
 rw [e]
 cases rb with
 | true =>
  have:=A1w ht (h2 rfl)
  rw [k1] at this; cases this
  exact h1
 | false =>
  cases sb with
  | true=>exact A6z ht (k2 rfl)
  | false =>
   simp only at h3 k3
   rw [h1,h3 trivial,k3 trivial]
def itemZ:TItem:={ Seq:=0,Rec:=rec0 }
noncomputable def frameItem (f:TFrame):TItem×Bool:=if (readR f.Body).2=true∧J0 f=true then ({ Seq:=f.Seq,Rec:=(readR f.Body).1 },true) else (itemZ,false)
theorem Yv {f:TFrame} (hb:f.Body.length≤8388608):Z6 f=some (frameItem f):=by
 unfold Z6 frameItem
 rw [(A4z hb).2.1,ob,Kp]
 cases J0 f <;> cases (readR f.Body).2 <;> simp [itemZ,rec0]
theorem A6u {d:TDisk} (h:DkS d) (no:Int):(segFr (segT d no)).1.length≤1048576:=by
 have h1:=A6t (t:=segT d no)
 have h2:=A0l h no
 omega
theorem A1g {f:TFrame} (h:J0 f=true):E7 f=(F0 f,true):=by unfold E7; rw [if_pos h]; rfl
theorem Aad {A B:List UInt8} {f:TFrame} (h:J0 f=true):rf (A++(F0 f++B)) A.length=some (f,(A++F0 f).length):=by
 obtain ⟨⟨g1,g2⟩,⟨s1,s2⟩,b1,b2⟩:=Ba h
 obtain ⟨gn,hg⟩:∃ n:Nat,f.Gen=n:=⟨f.Gen.toNat,by omega⟩
 obtain ⟨sn,hs⟩:∃ n:Nat,f.Seq=n:=⟨f.Seq.toNat,by omega⟩
 have hF:F0 f=vt f.Gen++(vt f.Seq++(short f.Body++sealL (frameT f))):=by
  unfold F0
  generalize sealL (frameT f)=S
  unfold frameT short
  simp only [List.append_assoc]
 unfold rf
 rw [A21 (n:=gn) (r:=vt f.Seq++(short f.Body++sealL (frameT f))++B) (by rw [List.drop_left,hF,← hg]; simp only [List.append_assoc]) (by omega)]
 dsimp only
 have e2:rv (A++(F0 f++B)) (A.length+(vt (gn:Int)).length)=some (sn,A.length+(vt (gn:Int)).length+(vt (sn:Int)).length):=by
  refine A21 (r:=short f.Body++sealL (frameT f)++B) ?_ (by omega)
  rw [← List.drop_drop,List.drop_left,hF,← hg,← hs]
  simp only [List.append_assoc,List.drop_left]
 rw [e2]
 dsimp only
 have e3:rsA (A++(F0 f++B)) (A.length+(vt (gn:Int)).length+(vt (sn:Int)).length)=some (f.Body,A.length+(vt (gn:Int)).length+(vt (sn:Int)).length+(short f.Body).length):=by
  have:=A55 (A:=A++vt f.Gen++vt f.Seq) (B:=sealL (frameT f)++B) (s:=f.Body) (by omega)
  rw [hF]
  simp only [List.append_assoc,List.length_append] at this ⊢
  rw [← hg,← hs,Nat.add_assoc,this]
  congr 2; omega
 rw [e3]
 dsimp only
 have hf:({ Gen:=(gn:Int),Seq:=(sn:Int),Body:=f.Body }:TFrame)=f:=by rw [← hg,← hs]
 have hl:A.length+(vt (gn:Int)).length+(vt (sn:Int)).length+(short f.Body).length+4=(A++F0 f).length:=by
  rw [hF,← hg,← hs]
  simp only [List.length_append,Ag]; omega
 rw [hf,A3n h (by rw [hl]; simp) (by rw [hl,← List.append_assoc,List.take_left,List.drop_left]),hl]
theorem A9k {t:List UInt8} {a:Nat} {x:TFrame×Nat} (h:rf t a=some x):t.drop a=F0 x.1++t.drop x.2:=by
 have hb:=A07 h
 unfold rf at h
 split at h
 ·cases h
 ·split at h
  ·cases h
  ·split at h
   ·cases h
   ·rename_i b hb'
    unfold rfC at h
    split at h
    ·rename_i hc
     cases h
     rw [← hc.2.2]
     rw [← List.take_append_drop (b.2+4 - a) (t.drop a)]
     congr 1
     ·rw [List.drop_take]
     ·rw [List.drop_drop]; congr 1; simp only at hb; omega
    ·cases h
theorem A9o {t:List UInt8} {a:Nat} (hz:∀ b,t[a]?=some b→b=0):rf t a=none:=by
 cases h:rf t a with
 | none=>rfl
 | some x =>
  exfalso
  have hb:=A07 h
  obtain ⟨⟨g1,g2⟩,_⟩:=Ba hb.2.2
  have ht:=A9k h
  have h0:t[a]?=(t.drop a)[0]?:=by rw [List.getElem?_drop]; rfl
  rw [ht] at h0
  have e:∃ c r,vt x.1.Gen=c::r∧c≠0:=by
   unfold vt
   rw [if_pos (by omega)]
   by_cases hs:x.1.Gen.toNat≤127
   ·rw [Z2 hs]
    exact ⟨_,_,rfl,A5e _ (by omega) (by omega)⟩
   ·rw [Mx (by omega)]
    refine ⟨_,_,rfl,?_⟩
    have:∀ m:Nat,m<128→ofI ((m+128:Nat):Int)≠0:=by decide
    exact this _ (Nat.mod_lt _ (by omega))
  obtain ⟨c,r,e1,e2⟩:=e
  have hF:F0 x.1=vt x.1.Gen++(vt x.1.Seq++vt x.1.Body.length++x.1.Body++sealL (frameT x.1)):=by
   unfold F0
   generalize sealL (frameT x.1)=S
   unfold frameT
   simp only [List.append_assoc]
  rw [hF,e1] at h0
  exact e2 (hz c (by rw [h0]; rfl))
theorem A1u {gen:Int} {Z:List UInt8} (hz:∀ b,Z[0]?=some b→b=0):∀ (F:List TFrame) (A:List UInt8) (n:Nat) (l:List TFrame),F.length<n→(∀ f∈F,J0 f=true∧f.Gen=gen)→scanN (A++(F.flatMap F0++Z)) gen n A.length l=(l++F,(A++F.flatMap F0).length)
 | [],A,0,l,hn,_=>by simp at hn
 | [],A,n+1,l,hn,_=>by
  rw [scanN,A9o]
  ·simp
  ·intro b hb
   refine hz b ?_
   rw [← hb,List.getElem?_append_right (Nat.le_refl _),Nat.sub_self]; rfl
 | f::F,A,0,l,hn,_=>by simp at hn
 | f::F,A,n+1,l,hn,h=>by
  have hf:=h f List.mem_cons_self
  have e:A++((f::F).flatMap F0++Z)=A++(F0 f++(F.flatMap F0++Z)):=by simp
  rw [e,scanN,Aad hf.1]
  dsimp only
  rw [if_pos hf.2]
  have ih:=A1u hz F (A++F0 f) n (l++[f]) (by simp at hn; omega) (fun g hg=>h g (List.mem_cons_of_mem _ hg))
  rw [List.append_assoc] at ih
  rw [ih]
  simp
def itF (x:TItem) (gen:Int):TFrame:={ Gen:=gen,Seq:=x.Seq,Body:=recT x.Rec }
def segF (s:TSeg):List TFrame:=hdF s.Gen::s.Items.map fun x=>itF x s.Gen
def segB (s:TSeg):List UInt8:=(segF s).flatMap F0
theorem A35 {x:TItem} {gen:Int} (h:J0 (itF x gen)=true) (hr:recOk x.Rec=true):frameItem (itF x gen)=(x,true):=by
 have hb:=(Ba h).2.2.2
 have e:readR (itF x gen).Body=(x.Rec,true):=by
  have h1:=A1w (t:=recT x.Rec) (r:=x.Rec) (by unfold itF at hb; simp only at hb; omega) ⟨hr,rfl⟩
  unfold readR itF
  rw [h1]; rfl
 unfold frameItem
 rw [e,if_pos ⟨rfl,h⟩]; rfl
theorem A7p {s:TSeg} {t:List UInt8} {Z:List UInt8} (ht:t=segB s++Z) (hz:∀ b,Z[0]?=some b→b=0) (hg:1≤s.Gen∧s.Gen≤1000000000) (hi:∀ x∈s.Items,J0 (itF x s.Gen)=true∧recOk x.Rec=true):segGen t=s.Gen∧segFr t=(s.Items.map fun x=>itF x s.Gen,(segB s).length):=by
 have hh:J0 (hdF s.Gen)=true:=by unfold J0 hdF inR; simp; omega
 have e0:t=[]++(F0 (hdF s.Gen)++((s.Items.map fun x=>itF x s.Gen).flatMap F0++Z)):=by
  rw [ht]; unfold segB segF; simp
 have e1:rf t 0=some (hdF s.Gen,([]++F0 (hdF s.Gen)).length):=by
  rw [e0]; exact Aad (A:=[]) hh
 have hG:segGen t=s.Gen:=by
  unfold segGen
  rw [e1]
  simp [hdF]
 have hF:∀ f∈segF s,J0 f=true∧f.Gen=s.Gen:=by
  intro f hf
  rcases List.mem_cons.1 hf with e | hf
  ·rw [e]; exact ⟨hh,rfl⟩
  ·obtain ⟨x,hx,rfl⟩:=List.mem_map.1 hf
   exact ⟨(hi x hx).1,rfl⟩
 have hlen:∀ l:List TFrame,(∀ f∈l,J0 f=true∧f.Gen=s.Gen)→l.length≤(l.flatMap F0).length:=by
  intro l
  induction l with
  | nil=>intro _; simp
  | cons f l ih =>
   intro h
   have:=ih fun g hg=>h g (List.mem_cons_of_mem _ hg)
   have h4:4≤(F0 f).length:=by unfold F0; rw [List.length_append,Ag]; omega
   rw [List.flatMap_cons,List.length_append,List.length_cons]; omega
 have hl:=hlen _ hF
 have hs:scan t s.Gen=(segF s,(segB s).length):=by
  unfold scan
  have:=A1u hz (segF s) [] (t.length+1) [] (by rw [ht,List.length_append]; unfold segB; omega) hF
  rw [ht]
  rw [ht] at this
  exact this
 refine ⟨hG,?_⟩
 unfold segFr
 rw [hG,if_neg (by omega),hs]
 simp [segF]
def byteAt (d:TDisk) (p:Nat):Option UInt8:=(rsec d (p / 32))[p%32]?
theorem A1r {d:TDisk} (h:C9 d=true) {b:Nat} {T:List UInt8} {p:Nat} (hp:p<32*d.Sectors.length):byteAt (poke d b T) p=if b≤p∧p<b+T.length then T[p - b]? else byteAt d p:=by
 unfold byteAt
 rw [A7t h (by omega) (by omega)]
 by_cases c:b≤p∧p<b+T.length
 ·rw [if_pos c,if_pos (by omega)]; congr 1; omega
 ·rw [if_neg c,if_neg (by omega)]
def segAt (g:TLog) (j:Nat):List UInt8:=match g.Used[j]? with | some s=>segB s | none=>[]
structure Z (n:Nat) (g:TLog):Prop where
 ends:∀ (j:Nat) (s:TSeg),g.Used[j]?=some s→s.End=((segB s).length:Int)
 good:∀ (j:Nat) (s:TSeg),g.Used[j]?=some s→∀ x∈s.Items,J0 (itF x s.Gen)=true∧recOk x.Rec=true
 bytes:∀ j,j<n→∀ i,i<256→byteAt g.Disk (256*(j+1)+i)=some ((segAt g j).getD i 0)
theorem A9i {gen:Int} (h:1≤gen∧gen≤1000000000):hdT gen=F0 (hdF gen):=by
 have hh:J0 (hdF gen)=true:=by unfold J0 hdF inR; simp; omega
 unfold hdT
 rw [A1g hh]
theorem A8x {n:Nat} {S0:Nat→List UInt8} {g:TLog} (hw:W n S0 g) (hz:Z n g) {j:Nat} {s:TSeg} (hj:g.Used[j]?=some s):segT g.Disk (j:Int)=segB s++List.replicate (256 - (segB s).length) 0:=by
 have hn:=hw.rng
 have hs:=hw.sec
 have hl:=hw.len
 have hjl:=(qI hj).1
 have hu:=hw.used j s hj
 have he:=hz.ends j s hj
 unfold segT
 rw [if_pos (by unfold inR; simp; omega),Int.toNat_natCast,A53 (by omega)]
 refine List.ext_getElem? fun i=>?_
 have h32:=A30 hw.ok (8+8*j) 8 (by omega)
 by_cases c:i<256
 ·rw [A4q hw.ok (8+8*j) 8 (by omega) i (by omega)]
  have hb:=hz.bytes j (by omega) i c
  unfold byteAt at hb
  rw [show (256*(j+1)+i) / 32=8+8*j+i / 32 by omega,show (256*(j+1)+i)%32=i%32 by omega] at hb
  rw [hb]
  have h0:segAt g j=segB s:=by unfold segAt; rw [hj]
  rw [h0]
  by_cases c1:i<(segB s).length
  ·rw [List.getElem?_append_left c1,List.getD_eq_getElem?_getD,qG c1]; rfl
  ·rw [List.getElem?_append_right (by omega),List.getElem?_replicate,if_pos (by omega),List.getD_eq_getElem?_getD,List.getElem?_eq_none (by omega)]; rfl
 ·rw [List.getElem?_eq_none (by show (secT g.Disk (8+8*j) 8).length≤i; omega),List.getElem?_eq_none (by simp; omega)]
theorem A92 {n:Nat} {S0:Nat→List UInt8} {g:TLog} (hw:W n S0 g) (hz:Z n g) {j:Nat} {s:TSeg} (hj:g.Used[j]?=some s):segGen (segT g.Disk (j:Int))=s.Gen∧segFr (segT g.Disk (j:Int))=(s.Items.map fun x=>itF x s.Gen,(segB s).length):=by
 have hn:=hw.rng
 have hl:=hw.len
 have hjl:=(qI hj).1
 have hu:=hw.used j s hj
 refine A7p (A8x hw hz hj) ?_ (by omega) (hz.good j s hj)
 intro b hb
 rw [List.getElem?_replicate] at hb
 split at hb
 ·cases hb; rfl
 ·cases hb
theorem W.itemsOk {n:Nat} {S0:Nat→List UInt8} {g:TLog} (h:W n S0 g) (hm:(D1 g).length≤100):itemsOk (D1 g)=true:=by
 refine A4h.2 ⟨by omega,?_,?_⟩
 ·intro x hx
  obtain ⟨i,hi⟩:=List.getElem?_of_mem hx
  have hl:=(qI hi).1
  have:=h.its i x hi
  exact ⟨by omega,this.2.1.ok⟩
 ·intro x hx y hy e
  obtain ⟨i,hi⟩:=List.getElem?_of_mem hx
  obtain ⟨j,hj⟩:=List.getElem?_of_mem hy
  have h1:=(h.its i x hi).1
  have h2:=(h.its j y hj).1
  have:i=j:=by omega
  subst this
  rw [hi] at hj; exact Option.some.inj hj
theorem W.szI {n:Nat} {S0:Nat→List UInt8} {g:TLog} (h:W n S0 g) (hm:(D1 g).length≤100):SzI (D1 g):=⟨by omega,fun y hy=>⟨(A64 h y hy).sz⟩⟩
theorem A9m {g:TLog} {j:Nat} {s:TSeg} (hj:g.Used[j]?=some s) {x:TItem} (hx:x∈s.Items):x∈D1 g:=List.mem_flatMap.2 ⟨s,qM hj,hx⟩
theorem W.below {n:Nat} {S0:Nat→List UInt8} {g:TLog} (h:W n S0 g) {x:TItem} (hx:x∈D1 g):x.Seq<g.NextSeq∧x.Rec.Valid<g.NextValid∧1≤x.Seq:=by
 obtain ⟨i,hi⟩:=List.getElem?_of_mem hx
 have hl:=(qI hi).1
 have:=h.its i x hi
 have hs:=h.seq
 exact ⟨by omega,this.2.2,by omega⟩
theorem A88 {n:Nat} {S0:Nat→List UInt8} {g:TLog} (h:W n S0 g):w64 (Int.tdiv (w64 ((g.Disk.Sectors.length:Int) - 8)) 8)=(n:Int):=by
 have hn:=h.rng
 have hs:=h.sec
 rw [B7 (n:=(g.Disk.Sectors.length:Int) - 8) (by omega) (by omega),Int.tdiv_eq_ediv_of_nonneg (by omega),B7 (by omega) (by omega)]
 omega
theorem A4k {n:Nat} {S0:Nat→List UInt8} {g:TLog} (hw:W n S0 g) (hz:Z n g) {j:Nat} {s:TSeg} (hj:g.Used[j]?=some s):Ca g.Disk s=some true:=by
 have hD:=DkS.ofOk hw.ok
 have hu:=hw.used j s hj
 obtain ⟨r1,r2⟩:=A92 hw hz hj
 have hgood:=hz.good j s hj
 have hlen:=A4r hw.len.1
 unfold Ca
 rw [A5f hD,ob,Xc hD,ob,hu.1,r1,r2]
 dsimp only
 rw [if_neg (by simp),if_neg (by rw [hu.2.1]; simp; omega),if_neg (by rw [hz.ends j s hj]; simp),if_neg (by simp),ob,if_neg (by simp)]
 have hcnt:=A6u hD (j:Int)
 rw [r2] at hcnt
 simp only [List.length_map] at hcnt
 rw [Pe (n:=s.Items.length) hcnt]
 ·rfl
 ·intro i hi
  have hx:=hgood _ (List.getElem_mem hi)
  have hb:=(Ba hx.1).2.2.2
  unfold El
  simp only [List.length_map]
  rw [if_pos (dlt hi),at?_nat (by simpa using hi),ob,List.getElem_map,Yv (by omega),ob,A35 hx.1 hx.2]
  simp [at?_nat hi,C5 (show i<9223372036854775807 by omega)]
 ·unfold El
  simp
theorem A5b {n:Nat} {S0:Nat→List UInt8} {g:TLog} (hw:W n S0 g) (hz:Z n g) (hm:(D1 g).length≤100):Fi g=some true:=by
 have hD:=DkS.ofOk hw.ok
 have hn:=hw.rng
 have hl:=hw.len
 have hs:=hw.sec
 have a1:inR (n:Int) 5 11=true:=Y4.2 (by omega)
 have a2:inR (g.Used.length:Int) 1 (n:Int)=true:=Y4.2 (by omega)
 have a3:inR g.NextGen 1 1000000000=true:=Y4.2 (by rw [hw.gen]; omega)
 have a4:inR g.NextSeq 1 1000000000=true:=Y4.2 (by rw [hw.seq]; omega)
 have a5:inR g.NextValid 1 1000000000=true:=Y4.2 (by have:=hw.valid; omega)
 have a6:inR g.Stamp 1 1000000000=true:=Y4.2 (by rw [hw.stamp]; omega)
 unfold Fi Gg
 simp only [P3]
 rw [Gr hD,hw.ok,ob,if_pos rfl,if_neg (by rw [hw.cache]; simp),if_neg (by rw [hw.segs]; simp; omega),A88 hw,ob,a1,if_pos rfl,ob,if_neg (by rw [hw.segs]; simp),hw.segs,a2,ob,if_pos rfl,ob,if_neg (by simp),a3,a4,a5,a6]
 simp only [ob,if_true,Bool.false_eq_true,if_false]
 rw [Pe (n:=g.Used.length) (by omega)]
 ·simp only [ob,Sum.elim_inr]
  rw [A2o (hw.lgn (by omega)),ob,A2x (hw.szI hm),hw.itemsOk hm]; rfl
 ·intro i hi
  have hgi:=qG hi
  have hu:=hw.used i _ hgi
  have hon:=A4k hw hz hgi
  have hk:E4 (g.Used.take i) g.Used[i]=some false:=by
   rw [Fd (q:=fun y=>y.No==g.Used[i].No) (by simp; omega) (fun y _=>rfl)]
   congr 1
   rw [List.any_eq_false]
   intro y hy
   obtain ⟨k,hk⟩:=List.getElem?_of_mem hy
   have hki:k<i:=by
    have:=(qI hk).1
    simp at this; omega
   rw [List.getElem?_take_of_lt hki] at hk
   have:=hw.used k y hk
   simp; omega
  have hit:E1 g.Used[i].Items g=some false:=by
   have hlen:=A33 g.Used (List.getElem_mem hi)
   have ht:(D1 g).length=(g.Used.map fun x=>x.Items.length).sum:=by unfold D1; rw [List.length_flatMap]
   rw [Et (q:=fun y=>decide (y.Seq≥g.NextSeq)||decide (y.Rec.Valid≥g.NextValid)) (by omega) (fun y _=>by
    unfold V3
    cases decide (y.Seq≥g.NextSeq) <;> rfl)]
   congr 1
   rw [List.any_eq_false]
   intro y hy
   have:=hw.below (A9m hgi hy)
   simp; omega
  have b1:inR g.Used[i].No 0 (w64 (g.Segs - 1))=true:=by rw [hw.segs,B7 (by omega) (by omega)]; exact Y4.2 (by omega)
  unfold Fp
  simp only [P3]
  rw [if_pos (dlt hi),at?_nat hi,ob,b1,ob,if_pos rfl,if_neg (by rw [hw.gen]; simp; omega)]
  have hsub:=sub?_take (l:=g.Used) (i:=i) (by omega)
  by_cases c:i=0
  ·subst c
   rw [if_neg (by simp),hon,ob,if_pos rfl,ob,if_neg (by simp),hsub,ob,hk,ob,if_neg (by simp),hit,ob,if_neg (by simp)]
   rfl
  ·have hu':=hw.used (i - 1) _ (qG (by omega))
   rw [if_pos (by simp; omega),B7 (by omega) (by omega),show (i:Int) - 1=((i - 1:Nat):Int) by omega,at?_nat (by omega),ob,if_neg (by simp; omega),hon,ob,if_pos rfl,ob,if_neg (by simp),hsub,ob,hk,ob,if_neg (by simp),hit,ob,if_neg (by simp),C5 (by omega)]
 ·unfold Fp
  simp
theorem A8v:headT=hdT 1:=rfl
theorem Aaw {k:Nat} {g:TLog} (h:5≤k∧k≤8) (e:fmt (k:Int)=(g,true)):Z k g:=by
 have h':5≤k∧k≤11:=by omega
 have ho:=Qz h'
 have hf:=A22 h'
 have hg:g={ log1 k with Disk:=(fixd k).1,Stamp:=1 }:=by
  unfold fmt fmtK at e
  rw [if_pos (by unfold inR; simp; omega),Int.toNat_natCast,if_pos (by rw [ho.1,hf]; rfl)] at e
  exact (congrArg Prod.fst e).symm
 have hT:headT=F0 (hdF 1):=by rw [A8v]; exact A9i (by omega)
 have hl:=Lu
 have hc:=(Yr k).2
 have hnd:(newDisk (8+k*8)).Sectors.length=8+k*8:=by simp [newDisk]
 have hused:∀ (j:Nat) (s:TSeg),g.Used[j]?=some s→j=0∧s={ No:=0,Gen:=1,End:=(headT.length:Int),Items:=[] }:=by
  intro j s hs
  rw [hg] at hs
  simp only [log1] at hs
  cases j with
  | zero=>simp only [List.getElem?_cons_zero,qS] at hs; exact ⟨rfl,hs.symm⟩
  | succ j=>simp at hs
 have hB:∀ e,segB { No:=0,Gen:=1,End:=e,Items:=[] }=headT:=by
  intro e; rw [hT]; unfold segB segF; simp
 refine ⟨?_,?_,?_⟩
 ·intro j s hs
  rw [(hused j s hs).2,hB]
 ·intro j s hs
  rw [(hused j s hs).2]; simp
 ·intro j hj i hi
  have hd:g.Disk=poke (poke (newDisk (8+k*8)) 256 headT) 128 (ctOut (checkOf (log1 k))):=by
   rw [hg]; simp only; rw [hf,ho.2]
  rw [hd,A1r (A9r h') (by rw [Gp,hnd]; omega),if_neg (by omega),A1r (A0p h') (by rw [hnd]; omega)]
  have hseg:segAt g j=if j=0 then headT else []:=by
   unfold segAt
   rw [hg]
   simp only [log1]
   cases j with
   | zero=>simp only [List.getElem?_cons_zero,if_pos]; exact hB _
   | succ j=>simp
  have hzero:byteAt (newDisk (8+k*8)) (256*(j+1)+i)=some 0:=by
   unfold byteAt
   rw [A2f rfl]
   have:((newDisk (8+k*8)).Sectors[(256*(j+1)+i) / 32]?).getD []=zero32:=by
    simp only [newDisk]
    rw [List.getElem?_replicate,if_pos (by omega)]; rfl
   rw [this]
   unfold zero32
   rw [List.getElem?_replicate,if_pos (by omega)]
  rw [hseg]
  by_cases c:j=0
  ·subst c
   rw [if_pos rfl]
   by_cases c2:i<headT.length
   ·rw [if_pos (by omega),List.getD_eq_getElem?_getD,qG c2,qG (by omega)]
    simp only [Option.getD_some,qS]
    congr 1; omega
   ·rw [if_neg (by omega),hzero,List.getD_eq_getElem?_getD,List.getElem?_eq_none (by omega)]; rfl
  ·rw [if_neg c,if_neg (by omega),hzero]; rfl
theorem A0d {l:List (List UInt8)} (h:l.length≤1048576):Z3 l l=some true:=by
 unfold Z3
 rw [if_neg (by simp),Pe (n:=l.length) h]
 ·rfl
 ·intro i hi
  unfold Be
  simp only [dlt hi,if_true,at?_nat hi,ob,C5 (show i<9223372036854775807 by omega),beq_self_eq_true,Bool.not_true,Bool.false_eq_true,if_false]
 ·unfold Be; simp
theorem A3s {n:Nat} {S0:Nat→List UInt8} {g:TLog} (h:W n S0 g):(checkOf g).Refs.length≤1048576:=by
 have:=h.len; have:=h.rng
 unfold checkOf; simp; omega
theorem A7g {d:TDisk} (h:DkS d):Bu d d=some true:=by
 have hc:=h.cache.1
 unfold Bu
 rw [A0d h.sec.1,ob,if_pos rfl,if_neg (by simp),ob,if_neg (by simp),Pe (n:=d.Cache.length) hc]
 ·rfl
 ·intro i hi
  unfold Cf
  simp [at?_nat hi,hi,C5 (show i<9223372036854775807 by omega)]
 ·unfold Cf; simp
theorem Xz (c:TCheck):(checkText c).1.length≤1000:=by
 unfold checkText
 split
 ·split
  ·simp
  ·dsimp only; omega
 ·simp
def DrP {α β:Type} (b:List Int) (o:Option (α×TL01Cur×List β×Int×Int)) (g:α→List β) (P:α→Prop):Prop:=∃ r i h l lo hi,o=some (r,⟨b,i,h⟩,l,lo,hi)∧sub? l lo hi=some (g r)∧P r∧IOk b i
theorem DrP.bind {α β γ:Type} {b:List Int} {o:Option (γ×TL01Cur)} {P:γ→Prop} {f:γ×TL01Cur→Option (α×TL01Cur×List β×Int×Int)} {g:α→List β} {Q:α→Prop} (h:Dr b o P) (k:∀ r i h,P r→IOk b i→DrP b (f (r,⟨b,i,h⟩)) g Q):DrP b (o.bind f) g Q:=by
 obtain ⟨r,i,h',rfl,hp,hi⟩:=h
 exact k r i h' hp hi
theorem sub?_all {α:Type} {l:List α}:sub? l 0 (l.length:Int)=some l:=by
 have:=sub?_take (l:=l) (i:=l.length) (by omega)
 simpa using this
theorem DrP.ret {α β:Type} {b:List Int} {r:α} {i h:Int} {l:List β} {lo hi':Int} {g:α→List β} {Q:α→Prop} (hi:IOk b i) (hs:sub? l lo hi'=some (g r)) (hq:Q r):DrP b (some (r,(⟨b,i,h⟩:TL01Cur),l,lo,hi')) g Q:=⟨r,i,h,l,lo,hi',rfl,hs,hq,hi⟩
theorem A8g {b:List Int} {i h:Int} (hi:IOk b i):Dr b (Y2 ⟨b,i,h⟩) fun f=>f.Body.length≤20:=by
 unfold Y2
 refine Dr.bind (E3 hi (by omega) (by omega)) fun g i h hg hi=>Dr.bind (E3 hi (by omega) (by omega)) fun q i h hq hi=>Dr.bind (E3 hi (by omega) (by omega)) fun n i h hn hi=>?_
 dsimp only
 rw [B7 (n:=1+n) (by omega) (by omega)]
 obtain ⟨m,hm⟩:∃ m:Nat,1+n=m:=⟨(1+n).toNat,by omega⟩
 rw [hm]
 exact Dr.bind (Ry hi (n:=m) (by omega)) fun t i h ht hi=>Dr.ret hi (by show t.length≤20; omega)
theorem A8f {b:List Int} {i0 h0:Int} (hi:IOk b i0):Dr b (Z0 ⟨b,i0,h0⟩) fun d=>C9 d=true:=by
 unfold Z0
 refine Dr.bind (E3 hi (by omega) (by omega)) fun n i h hn hi=>?_
 dsimp only
 rw [B7 (n:=1+n) (by omega) (by omega)]
 obtain ⟨m,hm⟩:∃ m:Nat,1+n=m:=⟨(1+n).toNat,by omega⟩
 rw [hm,Kr (by omega) (by omega),ob]
 dsimp only
 have key:∀ c0:TL01Cur,c0.mB=b→∃ r,iter (Bb c0) (0,i,h,(newDisk m).Sectors,(newDisk m).Cache)=some r∧(IOk b r.1∧C9 { Sectors:=r.2.2.1,Cache:=r.2.2.2 }=true):=by
  rintro ⟨cb,ci,ch⟩ hc
  simp only at hc
  subst hc
  refine Cl (fun s:Int×Int×Int×List (List UInt8)×List TWrite=>(0≤s.1∧s.1≤9)∧IOk cb s.2.1∧C9 { Sectors:=s.2.2.2.1,Cache:=s.2.2.2.2 }=true) (fun s=>(9 - s.1).toNat) _ ?_ _ ⟨⟨by simp,by simp⟩,hi,Qo (by omega) (by omega)⟩
  rintro ⟨k,i,h,se,ca⟩ ⟨⟨h0,h1⟩,hi,hd⟩
  simp only at h0 h1 hi hd
  have hs:=K3.1 hd
  unfold Bb
  dsimp only
  obtain ⟨x,i1,h1',e1,hx,hi1⟩:=E3 (h:=h) hi (n:=9) (by omega) (by omega)
  rw [e1,ob]
  dsimp only
  by_cases c:k<x
  ·left
   rw [if_pos (by simpa using c)]
   obtain ⟨at',i2,h2,e2,ha,hi2⟩:=E3 (h:=h1') hi1 (n:=(se.length:Int)) (by have:=hs.1; simp only at this; omega) (by have:=hs.1; simp only at this; omega)
   rw [e2,ob]
   dsimp only
   obtain ⟨off,i3,h3,e3,ho,hi3⟩:=E3 (h:=h2) hi2 (n:=40) (by omega) (by omega)
   rw [e3,ob]
   dsimp only
   obtain ⟨len,i4,h4,e4,hl,hi4⟩:=E3 (h:=h3) hi3 (n:=50) (by omega) (by omega)
   rw [e4,ob]
   dsimp only
   obtain ⟨len,rfl⟩:∃ n:Nat,len=n:=⟨len.toNat,by omega⟩
   obtain ⟨off,rfl⟩:∃ n:Nat,off=n:=⟨off.toNat,by omega⟩
   obtain ⟨t,i5,h5,e5,ht,hi5⟩:=Ry (h:=h4) hi4 (n:=len) (by omega)
   rw [e5,ob]
   dsimp only
   obtain ⟨d1,o,e6,hd1⟩:=Pu hd (s:=at') (t:=off) (T:=t) (by have:=hs.1; simp only at this; omega) (by omega) (by omega)
   rw [e6,ob]
   dsimp only
   obtain ⟨q,i7,h7,e7,_,hi7⟩:=Aa1 (h:=h5) hi5 (n:=4) (by omega) (by omega)
   rw [e7,ob]
   dsimp only
   have hk:w64 (k+1)=k+1:=B7 (by omega) (by omega)
   cases q
   ·rw [if_neg (by simp)]
    exact ⟨_,rfl,⟨⟨by simp only; omega,by simp only; omega⟩,hi7,hd1⟩,by simp only; omega⟩
   ·rw [if_pos rfl,Hx (DkS.ofOk hd1),ob]
    exact ⟨_,rfl,⟨⟨by simp only; omega,by simp only; omega⟩,hi7,Ts hd1⟩,by simp only; omega⟩
  ·right
   rw [if_neg (by simpa using c)]
   exact ⟨_,rfl,hi1,hd⟩
 obtain ⟨r,e,hr1,hr2⟩:=key ⟨b,i0,h0⟩ rfl
 rw [e,ob]
 exact Dr.ret hr1 hr2
theorem Vn {d:TDisk} (h:C9 d=true) {no:Int} (hno:0≤no∧no≤10) {T:List UInt8} (hT:T.length≤1000):∃ d1 o,D8 d no 0 T=some (d1,o)∧C9 d1=true:=by
 unfold D8
 have first:∃ y,((B9 no 0 10).bind fun v2=>(if v2 then (B9 0 0 256).bind fun v3=>(if v3 then (if decide ((T.length:Int)>(w64 (256 - 0))) then some true else some false) else some true) else some true):Option Bool)=some y:=by
  rw [K4,ob]
  split
  ·rw [K4,ob]
   split
   ·split <;> exact ⟨_,rfl⟩
   ·exact ⟨_,rfl⟩
  ·exact ⟨_,rfl⟩
 obtain ⟨y,e⟩:=first
 rw [e,ob]
 cases y
 ·rw [if_neg (by simp)]
  unfold Q4
  rw [K4,ob,if_pos (by unfold inR; simp; omega),ob,B7 (n:=no*8) (by omega) (by omega),B7 (by omega) (by omega)]
  obtain ⟨d1,o,e1,h1⟩:=Pu h (s:=8+no*8) (t:=0) (T:=T) (by omega) (by omega) hT
  rw [show (0:Int)=((0:Nat):Int) from rfl,e1,ob]
  exact ⟨_,_,rfl,h1⟩
 ·rw [if_pos rfl,P0 (DkS.ofOk h),ob]
  exact ⟨_,_,rfl,h⟩
theorem A89 {b:List Int} {i0 h0:Int} (hi:IOk b i0):Dr b (Az ⟨b,i0,h0⟩) fun d=>C9 d=true:=by
 unfold Az
 refine Dr.bind (E3 hi (by omega) (by omega)) fun n i h hn hi=>?_
 dsimp only
 rw [B7 (n:=5+n) (by omega) (by omega),B7 (n:=(5+n)*8) (by omega) (by omega),B7 (by omega) (by omega)]
 obtain ⟨m,hm⟩:∃ m:Nat,8+(5+n)*8=m:=⟨(8+(5+n)*8).toNat,by omega⟩
 rw [hm,Kr (by omega) (by omega),ob]
 dsimp only
 have key:∀ c0:TL01Cur,c0.mB=b→∃ r,iter (Bi c0) (0,i,h,(newDisk m).Sectors,(newDisk m).Cache)=some r∧(IOk b r.1∧C9 { Sectors:=r.2.2.1,Cache:=r.2.2.2 }=true):=by
  rintro ⟨cb,ci,ch⟩ hc
  simp only at hc
  subst hc
  refine Cl (fun s:Int×Int×Int×List (List UInt8)×List TWrite=>(0≤s.1∧s.1≤4)∧IOk cb s.2.1∧C9 { Sectors:=s.2.2.2.1,Cache:=s.2.2.2.2 }=true) (fun s=>(4 - s.1).toNat) _ ?_ _ ⟨⟨by simp,by simp⟩,hi,Qo (by omega) (by omega)⟩
  rintro ⟨k,i,h,se,ca⟩ ⟨⟨h0,h1⟩,hi,hd⟩
  simp only at h0 h1 hi hd
  unfold Bi
  dsimp only
  obtain ⟨x,i1,h1',e1,hx,hi1⟩:=E3 (h:=h) hi (n:=4) (by omega) (by omega)
  rw [e1,ob]
  dsimp only
  by_cases c:k<x
  ·left
   rw [if_pos (by simpa using c)]
   obtain ⟨seg,i2,h2,e2,hg,hi2⟩:=E3 (h:=h1') hi1 (n:=5) (by omega) (by omega)
   rw [e2,ob,W4,ob]
   dsimp only
   have hf0:=Gj { Gen:=w64 (1+k),Seq:=1,Body:=[115,101,103] }
   generalize (E7 { Gen:=w64 (1+k),Seq:=1,Body:=[115,101,103] }).1=T0 at hf0
   have inner:∃ r,iter (Bg ⟨cb,ci,ch⟩ (k,i,h,se,ca)) (T0,0,i2,h2)=some r∧(r.1.length≤1000∧IOk cb r.2.1):=by
    refine Cl (fun s:List UInt8×Int×Int×Int=>(0≤s.2.1∧s.2.1≤3)∧(s.1.length:Int)≤217*(s.2.1+1)∧IOk cb s.2.2.1) (fun s=>(4 - s.2.1).toNat) _ ?_ _ ⟨⟨by simp,by simp⟩,by simp; omega,hi2⟩
    rintro ⟨t,j,i,h⟩ ⟨⟨j0,j1⟩,ht,hi⟩
    simp only at j0 j1 ht hi
    unfold Bg
    dsimp only
    obtain ⟨y,i3,h3,e3,hy,hi3⟩:=E3 (h:=h) hi (n:=4) (by omega) (by omega)
    rw [e3,ob]
    dsimp only
    by_cases cc:j<y
    ·left
     rw [if_pos (by simpa using cc)]
     obtain ⟨f,i4,h4,e4,hf,hi4⟩:=A8g (h:=h3) hi3
     rw [e4,ob,W4,ob]
     have hl:=Gj { Gen:=w64 (1+k),Seq:=f.Seq,Body:=f.Body }
     dsimp only
     rw [cat?_ok (by omega),ob]
     have hk:w64 (j+1)=j+1:=B7 (by omega) (by omega)
     exact ⟨_,rfl,⟨⟨by simp only; omega,by simp only; omega⟩,by simp only [List.length_append]; omega,hi4⟩,by simp only; omega⟩
    ·right
     rw [if_neg (by simpa using cc)]
     exact ⟨_,rfl,by show t.length≤1000; omega,hi3⟩
   obtain ⟨⟨t,i3,h3⟩,e3,ht,hi3⟩:=inner
   simp only at ht hi3
   rw [e3,ob]
   dsimp only
   obtain ⟨d1,o,e4,hd1⟩:=Vn hd (no:=seg) (T:=t) (by omega) ht
   rw [e4,ob]
   dsimp only
   rw [Hx (DkS.ofOk hd1),ob]
   have hk:w64 (k+1)=k+1:=B7 (by omega) (by omega)
   exact ⟨_,rfl,⟨⟨by simp only; omega,by simp only; omega⟩,hi3,Ts hd1⟩,by simp only; omega⟩
  ·right
   rw [if_neg (by simpa using c)]
   exact ⟨_,rfl,hi1,hd⟩
 obtain ⟨r,e,hr1,hr2⟩:=key ⟨b,i0,h0⟩ rfl
 rw [e,ob]
 exact Dr.ret hr1 hr2
theorem A4b {α:Type} {l:List α} {i:Int} {x y:α} (h:y∈set' l i x):y∈l∨y=x:=by
 unfold set' at h
 exact List.mem_or_eq_of_mem_set h
theorem DkS.sect {d:TDisk} (h:DkS d) {s:List (List UInt8)} (h1:s.length≤1048576) (h2:∀ y∈s,y.length≤1048576):DkS { Sectors:=s,Cache:=d.Cache }:=⟨⟨h1,h2⟩,h.cache⟩
theorem A6j {b:List Int} {i h:Int} (hi:IOk b i):DrP b (X5 ⟨b,i,h⟩) TDisk.Sectors DkS:=by
 unfold X5
 refine DrP.bind (E3 hi (by omega) (by omega)) fun k i h hk hi=>DrP.bind (E3 hi (by omega) (by omega)) fun x ix jx hx hi=>DrP.bind (A8f hi) fun d i h hd hi=>?_
 have hD:=DkS.ofOk hd
 have hs:=K3.1 hd
 dsimp only
 rw [P0 hD,ob]
 have ht3:=tmodB (x:=x) (n:=3) hx.1 (by omega)
 have ht9:=tmodB (x:=x) (n:=9) hx.1 (by omega)
 have hlong:∀ c:Int,∃ t,L2 (w64 (31+Int.tmod x 3)) c=some t∧t.length≤33:=by
  intro c
  rw [B7 (by omega) (by omega)]
  obtain ⟨m,hm⟩:∃ m:Nat,31+Int.tmod x 3=m:=⟨(31+Int.tmod x 3).toNat,by omega⟩
  rw [hm,A29 (by omega)]
  exact ⟨_,rfl,by simp; omega⟩
 by_cases k0:(k==0)=true
 ·rw [if_pos k0]
  have hr:rem? x (d.Sectors.length:Int)=some (Int.tmod x (d.Sectors.length:Int)):=by unfold rem?; rw [if_neg (by omega)]
  have hb:=tmodB (x:=x) (n:=(d.Sectors.length:Int)) hx.1 (by omega)
  obtain ⟨t,e,ht⟩:=hlong 97
  obtain ⟨y,e2,_⟩:=at?_in (l:=d.Sectors) hb
  rw [hr,ob,e,ob,e2,ob,ob]
  refine DrP.ret hi sub?_all (hD.sect (by simp [set']; omega) fun y hy=>?_)
  rcases A4b hy with hy | rfl
  ·exact hD.sec.2 y hy
  ·omega
 rw [if_neg k0]
 by_cases k1:(k==1)=true
 ·rw [if_pos k1]
  obtain ⟨t,e,ht⟩:=hlong 98
  rw [e,ob,app?_ok (by simp; omega) (by simp; omega),ob]
  refine DrP.ret hi sub?_all ⟨hD.sec,by simp; omega,fun y hy=>?_⟩
  rcases List.mem_append.1 hy with hy | hy
  ·exact hD.cache.2 y hy
  ·rw [List.mem_singleton] at hy; subst hy; show t.length≤_; omega
 rw [if_neg k1]
 by_cases k2:(k==2)=true
 ·rw [if_pos k2]
  have hw:w64 (59+Int.tmod x 3)=59+Int.tmod x 3:=B7 (by omega) (by omega)
  have key:∃ r,iter (Cg (x,⟨b,ix,jx⟩)) d.Cache=some r∧(r.length≤100∧∀ y∈r,y.Text.length≤1048576):=by
   refine Cl (fun s:List TWrite=>s.length≤100∧∀ y∈s,y.Text.length≤1048576) (fun s=>100 - s.length) _ ?_ _ ⟨by omega,hD.cache.2⟩
   rintro s ⟨h1,h2⟩
   unfold Cg
   dsimp only
   rw [hw]
   by_cases c:(s.length:Int)<59+Int.tmod x 3
   ·left
    rw [if_pos (by simpa using c),A1v,ob,app?_ok (by simp; omega) (by simp; omega),ob]
    refine ⟨_,rfl,⟨by simp; omega,fun y hy=>?_⟩,by simp; omega⟩
    rcases List.mem_append.1 hy with hy | hy
    ·exact h2 y hy
    ·rw [List.mem_singleton] at hy; subst hy; show zero32.length≤_; simp [zero32]
   ·right
    rw [if_neg (by simpa using c)]
    exact ⟨_,rfl,h1,h2⟩
  obtain ⟨r,e,hr1,hr2⟩:=key
  rw [e,ob]
  exact DrP.ret hi sub?_all ⟨hD.sec,by show r.length≤_; omega,hr2⟩
 rw [if_neg k2]
 by_cases k3:(k==3)=true
 ·rw [if_pos k3]
  have hz:sub? d.Sectors 0 0=some []:=by
   have:=sub?_take (l:=d.Sectors) (i:=0) (by omega)
   simpa using this
  rw [hz,ob]
  exact DrP.ret hi hz (hD.sect (by simp) (by simp))
 rw [if_neg k3]
 exact DrP.ret hi sub?_all hD
theorem A9h {b:List Int} {i h:Int} (hi:IOk b i):DrP b (Bt ⟨b,i,h⟩) TDisk.Sectors DkS:=by
 unfold Bt
 refine DrP.bind (E3 hi (by omega) (by omega)) fun k i h hk hi=>DrP.bind (E3 hi (by omega) (by omega)) fun x ix jx hx hi=>DrP.bind (A89 hi) fun d i h hd hi=>?_
 have hD:=DkS.ofOk hd
 have hs:=K3.1 hd
 dsimp only
 rw [P0 hD,ob]
 by_cases k0:(k==0)=true
 ·rw [if_pos k0]
  have hr:rem? x (d.Sectors.length:Int)=some (Int.tmod x (d.Sectors.length:Int)):=by unfold rem?; rw [if_neg (by omega)]
  have hb:=tmodB (x:=x) (n:=(d.Sectors.length:Int)) hx.1 (by omega)
  rw [hr,ob]
  obtain ⟨m,hm⟩:∃ m:Nat,Int.tmod x (d.Sectors.length:Int)=m:=⟨(Int.tmod x (d.Sectors.length:Int)).toNat,by omega⟩
  rw [hm] at hb ⊢
  have hz:=sub?_take (l:=d.Sectors) (i:=m) (by omega)
  rw [hz,ob]
  exact DrP.ret hi hz (hD.sect (by simp; omega) fun y hy=>hD.sec.2 y (List.mem_of_mem_take hy))
 rw [if_neg k0]
 by_cases k1:(k==1)=true
 ·rw [if_pos k1]
  have ht:=tmodB (x:=x) (n:=30) hx.1 (by omega)
  rw [B7 (n:=8+Int.tmod x 30) (by omega) (by omega)]
  by_cases c:8+Int.tmod x 30<(d.Sectors.length:Int)
  ·rw [if_pos (by simpa using c)]
   have e:=A29 (n:=32) (by omega) (IntKind.u8.wrap x)
   have e':L2 32 (IntKind.u8.wrap x)=some ((List.replicate 32 (IntKind.u8.wrap x)).map ofI):=e
   obtain ⟨y,e2,_⟩:=at?_in (l:=d.Sectors) (i:=8+Int.tmod x 30) (by omega)
   rw [e',ob,e2,ob,ob]
   refine DrP.ret hi sub?_all (hD.sect (by simp [set']; omega) fun y hy=>?_)
   rcases A4b hy with hy | rfl
   ·exact hD.sec.2 y hy
   ·simp
  ·rw [if_neg (by simpa using c)]
   exact DrP.ret hi sub?_all hD
 rw [if_neg k1]
 by_cases k2:(k==2)=true
 ·rw [if_pos k2]
  obtain ⟨r,i1,h1,l,lo,hi',e,hs2,hr,hi1⟩:=A6j (h:=h) hi
  rw [Hi e hs2,ob]
  exact ⟨r,i1,h1,l,lo,hi',rfl,hs2,hr,hi1⟩
 rw [if_neg k2]
 exact DrP.ret hi sub?_all hD
theorem Ze {b:List Int} {i h:Int} (hi:IOk b i):DrP b (P8 ⟨b,i,h⟩) TCheck.Refs fun c=>c.Refs.length≤1000:=by
 unfold P8
 refine DrP.bind (Aaj hi) fun g i h hg hi=>?_
 obtain ⟨n,_,hw,_⟩:=hg
 have hl:=A3s hw
 have hu:1≤g.Used.length∧g.Used.length≤11:=by have:=hw.len; have:=hw.rng; omega
 have hrl:(checkOf g).Refs.length=g.Used.length:=by simp [checkOf]
 dsimp only
 rw [Uf (by omega),ob]
 refine DrP.bind (E3 hi (by omega) (by omega)) fun k i h hk hi=>?_
 dsimp only
 by_cases k0:(k==0)=true
 ·rw [if_pos k0]
  exact DrP.bind (Qf hi (by simp) (by simp)) fun v i h _ hi=>DrP.ret hi sub?_all (by show (checkOf g).Refs.length≤1000; omega)
 rw [if_neg k0]
 by_cases k1:(k==1)=true
 ·rw [if_pos k1]
  exact DrP.bind (Qf hi (by simp) (by simp)) fun v i h _ hi=>DrP.ret hi sub?_all (by show (checkOf g).Refs.length≤1000; omega)
 rw [if_neg k1]
 by_cases k2:(k==2)=true
 ·rw [if_pos k2]
  refine DrP.bind (E3 hi (by omega) (by omega)) fun u i h _ hi=>DrP.bind (E3 hi (by omega) (by omega)) fun v i h _ hi=>?_
  dsimp only
  rw [app?_ok (by simp; omega) (by simp; omega),ob]
  exact DrP.ret hi sub?_all (by simp; omega)
 rw [if_neg k2]
 by_cases k3:(k==3)=true
 ·rw [if_pos k3]
  have hz:=sub?_from (l:=(checkOf g).Refs) (n:=1) (by omega)
  have hz':sub? (checkOf g).Refs 1 ((checkOf g).Refs.length:Int)=some ((checkOf g).Refs.drop 1):=hz
  rw [hz',ob]
  exact DrP.ret hi hz' (by simp; omega)
 rw [if_neg k3]
 exact DrP.ret hi sub?_all (by omega)
theorem A0t {b:List Int} (hb:b.length≤1048576):∃ c,T2 b=some c∧c.Refs.length≤1000:=by
 obtain ⟨h,e⟩:=A62 hb
 obtain ⟨c,i,h',l,lo,hi,e1,hs,hc,_⟩:=Ze (h:=h) (iok0 hb)
 unfold T2
 rw [e,ob]
 dsimp only
 rw [Hi e1 hs,ob]
 exact ⟨c,rfl,hc⟩
theorem A09 {b:List Int} (hb:b.length≤1048576):∃ t,R8 b=some t∧t.length≤2000:=by
 obtain ⟨h,e⟩:=A62 hb
 obtain ⟨k,i,h,e0,_,hi⟩:=E3 (h:=h) (iok0 hb) (n:=4) (by omega) (by omega)
 obtain ⟨c,i,h',l,lo,hh,e1,hs,hc,hi⟩:=Ze (h:=h) hi
 unfold R8
 rw [e,ob]
 dsimp only
 rw [e0,ob]
 dsimp only
 rw [Hi e1 hs,ob]
 dsimp only
 rw [Ac (by omega),ob]
 have ht:(checkText c).1.length≤1000:=Xz c
 by_cases k0:(k==0)=true
 ·rw [if_pos k0]
  obtain ⟨t,_,_,e2,ht2,_⟩:=A7w (h:=h') hi ht
  rw [e2,ob]
  exact ⟨t,rfl,ht2⟩
 ·rw [if_neg k0,cat?_ok (by simp; omega),ob]
  exact ⟨_,rfl,by simp; omega⟩
theorem Xx {b:List Int} (hb:b.length≤1048576):∃ d c,Q5 b=some (d,c)∧DkS d∧c.Refs.length≤1000:=by
 obtain ⟨h,e⟩:=A62 hb
 obtain ⟨k,i,h,e0,_,hi⟩:=E3 (h:=h) (iok0 hb) (n:=6) (by omega) (by omega)
 obtain ⟨c,i,h',l,lo,hh,e1,hs,hc,hi⟩:=Ze (h:=h) hi
 unfold Q5
 rw [e,ob]
 dsimp only
 rw [e0,ob]
 dsimp only
 rw [Hi e1 hs,ob]
 dsimp only
 by_cases k0:(k==0)=true
 ·rw [if_pos k0]
  obtain ⟨d,_,_,_,_,_,e2,hs2,hd,_⟩:=A6j (h:=h') hi
  rw [Hi e2 hs2,ob]
  exact ⟨d,c,rfl,hd,hc⟩
 ·rw [if_neg k0]
  obtain ⟨d,_,_,_,_,_,e2,hs2,hd,_⟩:=A9h (h:=h') hi
  rw [Hi e2 hs2,ob]
  exact ⟨d,c,rfl,hd,hc⟩
theorem Ti {x:List Int} (_w:x.length≤maxLen∧∀ a∈x,(Lit.int .u8 a).wf=true):Y6 x=some true:=by
 unfold Y6
 by_cases hb:(x.length:Int)>1048576
 ·rw [A9q hb]; rfl
 rw [Aah hb,ob,if_neg (by simp)]
 have hx:x.length≤1048576:=by omega
 obtain ⟨c,e1,hc⟩:=A0t hx
 obtain ⟨u,e2,hu⟩:=A09 hx
 obtain ⟨d,c',e3,hd,hc'⟩:=Xx hx
 obtain ⟨r1,r2,r3⟩:=A5k (t:=u) (by omega)
 obtain ⟨g,f1,hw,hi⟩:=Aae (k:=6) (by omega)
 have hz:=Aaw (by omega) f1
 have f2:fmt (4:Int)=(zlog,false):=rfl
 have q1:M2 6=some (g,true):=by
  have:=A3z (6:Int)
  rw [this]; exact congrArg some f1
 have q2:M2 4=some (zlog,false):=by rw [A3z,f2]
 have hD:DkS (writeC d c').1:=by
  rcases A2z d c' with h | h
  ·rw [h]; exact hd
  ·exact DkS.ofOk h
 rw [e1,ob,Fj (by omega),ob,Ac (by omega),ob,e2,ob,r2,ob,r1,ob,Ac (by omega),ob,ob,e3,ob]
 dsimp only
 rw [Mc hd (by omega),ob,Wy hd (by omega),ob,q1,ob,q2,ob]
 dsimp only
 rw [if_pos (by simp),if_pos (by simp),if_pos (by simp),if_pos (by simp),if_pos (by simp),A7g hD,ob,if_pos rfl,Uh (by omega),ob,Rq (by omega),ob,if_pos (by simp),if_pos rfl,if_pos (by simp),A5b hw hz (by rw [hi]; simp),ob,if_pos rfl,hw.stamp]
 rfl
end Go.Proofs.YtldndhdohlfpgaaGreat.V
