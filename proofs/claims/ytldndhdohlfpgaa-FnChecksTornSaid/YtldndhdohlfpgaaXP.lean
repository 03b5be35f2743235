/- The pure part. -/
import Derived.Test.YtldndhdohlfpgaaXT
namespace Go.Proofs.Ytldndhdohlfpgaa.V
open Go Go.Proofs Go.RowKit
set_option maxRecDepth 100000
theorem ob {α β : Type} (a : α) (f : α → Option β) : (some a).bind f = f a:=rfl
theorem iter_range {σ ρ : Type} {step : σ → Option (σ ⊕ ρ)} (st : Nat → σ) (n : Nat) {r : ρ} (hs : ∀ i,i < n → step (st i) = some (.inl (st (i + 1)))) (he : step (st n) = some (.inr r)) : iter step (st 0) = some r:=by
 have key : ∀ d i,i + d = n → iter step (st i) = some r:=by
  intro d
  induction d with
  | zero => intro i hi; have : i = n := by omega
            subst this; exact iter_done he
  | succ d ih=>intro i hi; rw [iter_next (hs i (by omega))]; exact ih (i + 1) (by omega)
 exact key n 0 (by omega)
theorem w64_id {n : Int} (h : -9223372036854775808 ≤ n) (h' : n < 9223372036854775808) : w64 n = n:=by
 unfold w64 IntKind.wrap
 simp [IntKind.bits,IntKind.signed]
 omega
theorem w64_nat {n : Nat} (h : n < 9223372036854775808) : w64 (n : Int) = n:=w64_id (by omega) (by omega)
theorem w64_succ {n : Nat} (h : n < 9223372036854775807) : w64 ((n : Int) + 1) = ((n + 1 : Nat) : Int):=by rw [w64_id (by omega) (by omega)]; omega
theorem u8_wrap (n : Int) : IntKind.u8.wrap n = n % 256:=by
 unfold IntKind.wrap
 simp [IntKind.bits,IntKind.signed]
theorem u32_wrap (n : Int) : IntKind.u32.wrap n = n % 4294967296:=by
 unfold IntKind.wrap
 simp [IntKind.bits,IntKind.signed]
theorem at?_nat {α : Type} {l : List α} {i : Nat} (h : i < l.length) : at? l (i : Int) = some l[i]:=by
 unfold at?
 rw [if_pos ⟨by omega,by omega⟩]
 simp [h]
theorem bt?_nat {s : List UInt8} {i : Nat} (h : i < s.length) : bt? s (i : Int) = some s[i]:=by
 unfold bt?
 rw [if_pos (by omega)]
 simp [h]
theorem cat?_ok {s t : List UInt8} (h : s.length + t.length ≤ 4611686018427387904) : cat? s t = some (s ++ t):=by unfold cat?; rw [if_pos h]
theorem app?_ok {α : Type} {byt : Nat} {l m : List α} (h : l.length + m.length ≤ 1099511627776) (h2 : (l.length + m.length) * byt ≤ 140737488355328) : app? byt l m = some (l ++ m):=by unfold app?; rw [if_pos ⟨h,h2⟩]
theorem andv127 {n : Nat} (h' : n < 9223372036854775808) : andv .i64 n 127 = ((n % 128 : Nat) : Int):=by
 show IntKind.i64.wrap ((BitVec.ofInt 64 (n : Int) &&& BitVec.ofInt 64 127).toNat : Int) = _
 have e1 : BitVec.ofInt 64 (n : Int) = BitVec.ofNat 64 n:=by simp
 have e2 : BitVec.ofInt 64 (127 : Int) = BitVec.ofNat 64 127:=by simp
 rw [e1,e2]
 have e3 : (BitVec.ofNat 64 n &&& BitVec.ofNat 64 127).toNat = n % 128:=by
  rw [BitVec.toNat_and]
  simp only [BitVec.toNat_ofNat]
  rw [Nat.mod_eq_of_lt (a:=n) (by omega)]
  exact Nat.and_two_pow_sub_one_eq_mod n 7
 rw [e3]
 exact w64_nat (by omega)
theorem orv128 {n : Nat} (h : n < 128) : orv .i64 n 128 = ((n + 128 : Nat) : Int):=by
 show IntKind.i64.wrap ((BitVec.ofInt 64 (n : Int) ||| BitVec.ofInt 64 128).toNat : Int) = _
 have e1 : BitVec.ofInt 64 (n : Int) = BitVec.ofNat 64 n:=by simp
 have e2 : BitVec.ofInt 64 (128 : Int) = BitVec.ofNat 64 128:=by simp
 rw [e1,e2]
 have e3 : (BitVec.ofNat 64 n ||| BitVec.ofNat 64 128).toNat = n + 128:=by
  rw [BitVec.toNat_or]
  simp only [BitVec.toNat_ofNat]
  rw [Nat.mod_eq_of_lt (a:=n) (by omega)]
  have:=Nat.two_pow_add_eq_or_of_lt (i:=7) (b:=n) (by omega) 1
  rw [Nat.or_comm] at this
  simp at this ⊢
  omega
 rw [e3]
 exact w64_nat (by omega)
theorem andv1 {n : Nat} (h' : n < 4294967296) : andv .u32 n 1 = ((n % 2 : Nat) : Int):=by
 show IntKind.u32.wrap ((BitVec.ofInt 32 (n : Int) &&& BitVec.ofInt 32 1).toNat : Int) = _
 have e1 : BitVec.ofInt 32 (n : Int) = BitVec.ofNat 32 n:=by simp
 have e2 : BitVec.ofInt 32 (1 : Int) = BitVec.ofNat 32 1:=by simp
 rw [e1,e2]
 have e3 : (BitVec.ofNat 32 n &&& BitVec.ofNat 32 1).toNat = n % 2:=by
  rw [BitVec.toNat_and]
  simp only [BitVec.toNat_ofNat]
  rw [Nat.mod_eq_of_lt (a:=n) (by omega)]
  exact Nat.and_two_pow_sub_one_eq_mod n 1
 rw [e3,u32_wrap]
 omega
theorem shrv7 (n : Int) : shrv .i64 n 7 = n / 128:=by
 unfold shrv
 rw [Int.fdiv_eq_ediv_of_nonneg _ (by decide)]
 rfl
theorem shrv1 (n : Int) : shrv .u32 n 1 = n / 2:=by
 unfold shrv
 rw [Int.fdiv_eq_ediv_of_nonneg _ (by decide)]
 rfl
def vtl (n : Nat) : List Int:=if h : 127 < n then ((n % 128 + 128 : Nat) : Int) :: vtl (n / 128) else [(n : Int)]
 termination_by n
 decreasing_by omega
theorem vtl_big {n : Nat} (h : 127 < n) : vtl n = ((n % 128 + 128 : Nat) : Int) :: vtl (n / 128):=by rw [vtl,dif_pos h]
theorem vtl_small {n : Nat} (h : n ≤ 127) : vtl n = [(n : Int)]:=by rw [vtl,dif_neg (by omega)]
theorem vtl_len : ∀ (k n : Nat),n < 128 ^ k → (vtl n).length ≤ k + 1
 | 0,n,h=>by rw [vtl_small (by simp at h; omega)]; simp
 | k + 1,n,h=>by
  by_cases hb : 127 < n
  ·rw [vtl_big hb]
   have:=vtl_len k (n / 128) (by rw [Nat.pow_succ] at h; exact Nat.div_lt_of_lt_mul (by rw [Nat.mul_comm]; exact h))
   simp; omega
  ·rw [vtl_small (by omega)]; simp
theorem vtl_len10 {n : Nat} (h : n < 9223372036854775808) : (vtl n).length ≤ 11:=vtl_len 10 n (Nat.lt_trans h (by decide))
theorem var_loop {step : Int × List Int → Option ((Int × List Int) ⊕ (Int × List Int))}
  (hbig : ∀ (n : Nat) out,127 < n → n < 9223372036854775808 → out.length ≤ 1000 → step ((n : Int),out) = some (.inl (((n / 128 : Nat) : Int),out ++ [((n % 128 + 128 : Nat) : Int)])))
  (hsmall : ∀ (n : Int) out,n ≤ 127 → step (n,out) = some (.inr (n,out))) :
  ∀ (n : Nat) (out : List Int),n < 9223372036854775808 → out.length + 11 ≤ 1000 → ∃ (m : Nat) (o : List Int),iter step ((n : Int),out) = some ((m : Int),o) ∧ m ≤ 127 ∧ o ++ [(m : Int)] = out ++ vtl n ∧ o.length ≤ 1000:=by
 have key : ∀ (k n : Nat) (out : List Int),n < 128 ^ k → n < 9223372036854775808 → out.length + k ≤ 1000 → ∃ (m : Nat) (o : List Int),iter step ((n : Int),out) = some ((m : Int),o) ∧ m ≤ 127 ∧ o ++ [(m : Int)] = out ++ vtl n ∧ o.length ≤ 1000:=by
  intro k
  induction k with
  | zero =>
   intro n out hk hn ho
   have h1 : n ≤ 127:=by simp at hk; omega
   exact ⟨n,out,iter_done (hsmall n out (by omega)),h1,by rw [vtl_small h1],by omega⟩
  | succ k ih =>
   intro n out hk hn ho
   by_cases hb : 127 < n
   ·obtain ⟨m,o,h1,h2,h3,h4⟩:=ih (n / 128) (out ++ [((n % 128 + 128 : Nat) : Int)]) (by rw [Nat.pow_succ] at hk; exact Nat.div_lt_of_lt_mul (by rw [Nat.mul_comm]; exact hk)) (by omega) (by simp; omega)
    refine ⟨m,o,?_,h2,?_,h4⟩
    ·rw [iter_next (hbig n out hb hn (by omega))]; exact h1
    ·rw [h3,vtl_big hb]; simp
   ·exact ⟨n,out,iter_done (hsmall n out (by omega)),by omega,by rw [vtl_small (by omega)],by omega⟩
 intro n out hn ho
 exact key 11 n out (Nat.lt_trans hn (by decide)) hn ho
def vt (n : Int) : List UInt8:=if 0 ≤ n then (vtl n.toNat).map ofI else [ofI (n % 256)]
theorem spec_var {n : Int} (h : -9223372036854775808 ≤ n) (h' : n < 9223372036854775808) : F_spec_l01Var n = some (vt n):=by
 have hsmall : ∀ (n : Int) out,n ≤ 127 → S_spec_l01Var_1 (n,out) = some (.inr (n,out)):=by
  intro n out hn
  unfold S_spec_l01Var_1
  simp [show ¬ n > 127 by omega]
 unfold F_spec_l01Var vt
 by_cases h0 : 0 ≤ n
 ·obtain ⟨m,rfl⟩ : ∃ m : Nat,n = m:=⟨n.toNat,by omega⟩
  obtain ⟨m',o,h1,h2,h3,h4⟩:=var_loop (step:=S_spec_l01Var_1) (by
   intro n out hb hn ho
   unfold S_spec_l01Var_1
   have e1 : w64 (Int.tmod (n : Int) 128 + 128) = ((n % 128 + 128 : Nat) : Int):=by
    rw [Int.tmod_eq_emod_of_nonneg (by omega),w64_id (by omega) (by omega)]; omega
   have e2 : w64 (Int.tdiv (n : Int) 128) = ((n / 128 : Nat) : Int):=by
    rw [Int.tdiv_eq_ediv_of_nonneg (by omega),w64_id (by omega) (by omega)]; omega
   have e3 : IntKind.u8.wrap ((n % 128 + 128 : Nat) : Int) = ((n % 128 + 128 : Nat) : Int):=by rw [u8_wrap]; omega
   simp only [show decide ((n : Int) > 127) = true from by simp; omega,if_true,e1,e2,e3]
   rw [app?_ok (by simp; omega) (by simp; omega)]
   rfl) hsmall m [] (by omega) (by simp)
  rw [if_pos h0,h1]
  simp only [ob]
  rw [app?_ok (by simp; omega) (by simp; omega)]
  simp only [ob,u8_wrap]
  rw [show ((m' : Int) % 256) = m' by omega,h3]
  simp
 ·rw [if_neg h0,iter_done (hsmall n [] (by omega))]
  simp only [ob]
  rw [app?_ok (by simp) (by simp)]
  simp [u8_wrap]
theorem impl_var {n : Int} (h : -9223372036854775808 ≤ n) (h' : n < 9223372036854775808) : F_impl_varText n = some (vt n):=by
 have hsmall : ∀ (n : Int) out,n ≤ 127 → S_impl_varText_1 (n,out) = some (.inr (n,out)):=by
  intro n out hn
  unfold S_impl_varText_1
  simp [show ¬ n > 127 by omega]
 unfold F_impl_varText vt
 by_cases h0 : 0 ≤ n
 ·obtain ⟨m,rfl⟩ : ∃ m : Nat,n = m:=⟨n.toNat,by omega⟩
  obtain ⟨m',o,h1,h2,h3,h4⟩:=var_loop (step:=S_impl_varText_1) (by
   intro n out hb hn ho
   unfold S_impl_varText_1
   have e1 : orv .i64 (andv .i64 (n : Int) 127) 128 = ((n % 128 + 128 : Nat) : Int):=by
    rw [andv127 hn,orv128 (by omega)]
   have e2 : shrv .i64 (n : Int) 7 = ((n / 128 : Nat) : Int):=by rw [shrv7]; omega
   have e3 : IntKind.u8.wrap ((n % 128 + 128 : Nat) : Int) = ((n % 128 + 128 : Nat) : Int):=by rw [u8_wrap]; omega
   simp only [show decide ((n : Int) > 127) = true from by simp; omega,if_true,e1,e2,e3]
   rw [app?_ok (by simp; omega) (by simp; omega)]
   rfl) hsmall m [] (by omega) (by simp)
  rw [if_pos h0,h1]
  simp only [ob]
  rw [app?_ok (by simp; omega) (by simp; omega)]
  simp only [ob,u8_wrap]
  rw [show ((m' : Int) % 256) = m' by omega,h3]
  simp
 ·rw [if_neg h0,iter_done (hsmall n [] (by omega))]
  simp only [ob]
  rw [app?_ok (by simp) (by simp)]
  simp [u8_wrap]
theorem vt_len {n : Int} (h' : n < 9223372036854775808) : (vt n).length ≤ 11:=by
 unfold vt
 split
 ·simp; exact vtl_len10 (by omega)
 ·simp
def sumBit (n : Nat) : Nat:=if n % 2 = 1 then (xorv .u32 ((n / 2 : Nat) : Int) 3558460437).toNat else n / 2
theorem xorv_range (x y : Int) : 0 ≤ xorv .u32 x y ∧ xorv .u32 x y < 4294967296:=by
 unfold xorv
 rw [u32_wrap]
 omega
theorem sumBit_lt {n : Nat} (h : n < 4294967296) : sumBit n < 4294967296:=by
 unfold sumBit
 have:=xorv_range ((n / 2 : Nat) : Int) 3558460437
 split <;> omega
def iterK {α : Type} (f : α → α) : Nat → α → α
 | 0,a=>a
 | k + 1,a=>f (iterK f k a)
theorem iterK_lt (k : Nat) {n : Nat} (h : n < 4294967296) : iterK sumBit k n < 4294967296:=by
 induction k with
 | zero=>exact h
 | succ k ih=>exact sumBit_lt ih
theorem spec_sum2 {n : Nat} (h : n < 4294967296) : iter S_spec_SumMore_2 ((n : Int),0) = some ((iterK sumBit 8 n : Nat) : Int):=by
 refine iter_range (fun k=>(((iterK sumBit k n : Nat) : Int),(k : Int))) 8 ?_ ?_
 ·intro k hk
  have hl:=iterK_lt k h
  unfold S_spec_SumMore_2
  have e0 : w64 ((k : Int) + 1) = ((k + 1 : Nat) : Int):=w64_succ (by omega)
  generalize hm : iterK sumBit k n = m at hl
  have e1 : IntKind.u32.wrap (Int.tdiv (m : Int) 2) = ((m / 2 : Nat) : Int):=by
   rw [u32_wrap,Int.tdiv_eq_ediv_of_nonneg (by omega)]; omega
  have e2 : Int.tmod (m : Int) 2 = ((m % 2 : Nat) : Int):=by rw [Int.tmod_eq_emod_of_nonneg (by omega)]; omega
  simp only [show decide ((k : Int) < 8) = true from by simp; omega,if_true,e0,e1,e2]
  have e3 : iterK sumBit (k + 1) n = sumBit m:=by simp [iterK,hm]
  rw [e3]
  unfold sumBit
  by_cases hb : m % 2 = 1
  ·have:=xorv_range ((m / 2 : Nat) : Int) 3558460437
   simp only [hb,if_true]
   rw [if_pos (by simp)]
   congr 3
  ·rw [if_neg (by simp; omega),if_neg hb]
 ·unfold S_spec_SumMore_2
  simp
theorem impl_sum2 {n : Nat} (h : n < 4294967296) : iter S_impl_SumMore_2 ((n : Int),0) = some ((iterK sumBit 8 n : Nat) : Int):=by
 refine iter_range (fun k=>(((iterK sumBit k n : Nat) : Int),(k : Int))) 8 ?_ ?_
 ·intro k hk
  have hl:=iterK_lt k h
  unfold S_impl_SumMore_2
  have e0 : w64 ((k : Int) + 1) = ((k + 1 : Nat) : Int):=w64_succ (by omega)
  generalize hm : iterK sumBit k n = m at hl
  have e1 : shrv .u32 (m : Int) 1 = ((m / 2 : Nat) : Int):=by rw [shrv1]; omega
  have e2 : andv .u32 (m : Int) 1 = ((m % 2 : Nat) : Int):=andv1 hl
  simp only [show decide ((k : Int) < 8) = true from by simp; omega,if_true,e0,e1,e2]
  have e3 : iterK sumBit (k + 1) n = sumBit m:=by simp [iterK,hm]
  rw [e3]
  unfold sumBit
  by_cases hb : m % 2 = 1
  ·have:=xorv_range ((m / 2 : Nat) : Int) 3558460437
   simp only [hb,if_true]
   rw [if_pos (by simp)]
   congr 3
  ·rw [if_neg (by simp; omega),if_neg hb]
 ·unfold S_impl_SumMore_2
  simp
def sumB (n : Nat) (c : UInt8) : Nat:=iterK sumBit 8 (xorv .u32 (n : Int) (c.toNat : Int)).toNat
def sumL (n : Nat) (s : List UInt8) : Nat:=s.foldl sumB n
theorem sum_loop {step : List UInt8 → Int × Int → Option ((Int × Int) ⊕ Int)} {s : List UInt8} (hs : s.length < 9223372036854775807) {n : Nat}
  (h1 : ∀ (m i : Nat) (h : i < s.length),step s ((m : Int),(i : Int)) = some (.inl ((sumB m s[i] : Nat),((i + 1 : Nat) : Int))))
  (h2 : ∀ m : Nat,step s ((m : Int),(s.length : Int)) = some (.inr (m : Int))) : iter (step s) ((n : Int),0) = some ((sumL n s : Nat) : Int):=by
 refine iter_range (fun i=>(((sumL n (s.take i) : Nat) : Int),(i : Int))) s.length ?_ ?_
 ·intro i hi
  have e : sumL n (s.take (i + 1)) = sumB (sumL n (s.take i)) s[i]:=by
   unfold sumL
   rw [List.take_succ_eq_append_getElem hi,List.foldl_append]
   rfl
  rw [h1 _ i hi,e]
 ·rw [List.take_length]; exact h2 _
theorem u8_u32 (c : UInt8) : IntKind.u32.wrap (c.toNat : Int) = c.toNat:=by
 rw [u32_wrap]
 have:=c.toNat_lt
 omega
theorem spec_sum {s : List UInt8} (hs : s.length < 9223372036854775807) (n : Nat) : F_spec_SumMore (n : Int) s = some ((sumL n s : Nat) : Int):=by
 unfold F_spec_SumMore
 rw [sum_loop (step:=S_spec_SumMore_1) hs]
 ·rfl
 ·intro m i hi
  unfold S_spec_SumMore_1
  simp only [show decide ((i : Int) < (s.length : Int)) = true from by simp; omega,if_true,bt?_nat hi,ob,u8_u32,w64_succ (show i < 9223372036854775807 by omega)]
  have hx:=xorv_range (m : Int) ((s[i]).toNat : Int)
  have : xorv .u32 (m : Int) ((s[i]).toNat : Int) = ((xorv .u32 (m : Int) ((s[i]).toNat : Int)).toNat : Int):=by omega
  rw [this,spec_sum2 (by omega)]
  rfl
 ·intro m
  unfold S_spec_SumMore_1
  simp
theorem impl_sum {s : List UInt8} (hs : s.length < 9223372036854775807) (n : Nat) : F_impl_SumMore (n : Int) s = some ((sumL n s : Nat) : Int):=by
 unfold F_impl_SumMore
 rw [sum_loop (step:=S_impl_SumMore_1) hs]
 ·rfl
 ·intro m i hi
  unfold S_impl_SumMore_1
  simp only [show decide ((i : Int) < (s.length : Int)) = true from by simp; omega,if_true,bt?_nat hi,ob,u8_u32,w64_succ (show i < 9223372036854775807 by omega)]
  have hx:=xorv_range (m : Int) ((s[i]).toNat : Int)
  have : xorv .u32 (m : Int) ((s[i]).toNat : Int) = ((xorv .u32 (m : Int) ((s[i]).toNat : Int)).toNat : Int):=by omega
  rw [this,impl_sum2 (by omega)]
  rfl
 ·intro m
  unfold S_impl_SumMore_1
  simp
def four (n : Int) : List UInt8:=[IntKind.u8.wrap (shrv .u32 n 24),IntKind.u8.wrap (shrv .u32 n 16),IntKind.u8.wrap (shrv .u32 n 8),IntKind.u8.wrap n].map ofI
def sealL (s : List UInt8) : List UInt8:=four (sumL 4294967295 s : Nat)
theorem sealL_len (s : List UInt8) : (sealL s).length = 4:=rfl
theorem spec_sumOf {s : List UInt8} (hs : s.length < 9223372036854775807) : F_spec_SumOf s = some ((sumL 4294967295 s : Nat) : Int):=by
 unfold F_spec_SumOf
 have:=spec_sum hs 4294967295
 rw [show (4294967295 : Int) = ((4294967295 : Nat) : Int) from rfl,this]; rfl
theorem impl_sumOf {s : List UInt8} (hs : s.length < 9223372036854775807) : F_impl_SumOf s = some ((sumL 4294967295 s : Nat) : Int):=by
 unfold F_impl_SumOf
 have:=impl_sum hs 4294967295
 rw [show (4294967295 : Int) = ((4294967295 : Nat) : Int) from rfl,this]; rfl
theorem spec_four (n : Int) : F_spec_l02Four n = some (four n):=rfl
theorem impl_seal {s : List UInt8} (hs : s.length < 9223372036854775807) : F_impl_seal s = some (sealL s):=by
 unfold F_impl_seal
 rw [impl_sumOf hs]; rfl
def sealed (s : List UInt8) : List UInt8 × Bool:=if 20000 < s.length then ([],false) else (s ++ sealL s,true)
theorem spec_sealed {s : List UInt8} (hs : s.length < 9223372036854775807) : F_spec_Sealed s = some (sealed s):=by
 unfold F_spec_Sealed sealed
 by_cases h : 20000 < s.length
 ·rw [if_pos (by simp; omega),if_pos h]
 ·rw [if_neg (by simp; omega),if_neg h,spec_sumOf hs]
  simp only [ob,spec_four]
  rw [cat?_ok (by show s.length + 4 ≤ _; omega)]
  rfl
def inR (n lo hi : Int) : Bool:=decide (lo ≤ n) && decide (n ≤ hi)
theorem spec_in (n lo hi : Int) : F_spec_l01In n lo hi = some (inR n lo hi):=by
 unfold F_spec_l01In inR
 by_cases h : lo ≤ n <;> simp [h]
theorem impl_in (n lo hi : Int) : F_impl_in n lo hi = some (inR n lo hi):=by
 unfold F_impl_in inR
 by_cases h : lo ≤ n <;> simp [h]
def lowB (c : UInt8) : Bool:=decide (97 ≤ c.toNat) && decide (c.toNat ≤ 122)
def wordOk (s : List UInt8) : Bool:=s.all lowB && inR s.length 1 8
theorem iter_all {σ ρ : Type} {step : σ → Option (σ ⊕ ρ)} (st : Nat → σ) (n : Nat) (p : Nat → Bool) {bad good : ρ} (h1 : ∀ i,i < n → p i = true → step (st i) = some (.inl (st (i + 1)))) (h2 : ∀ i,i < n → p i = false → step (st i) = some (.inr bad)) (he : step (st n) = some (.inr good)) :
  iter step (st 0) = some (if (List.range n).all p then good else bad):=by
 have key : ∀ d i,i + d = n → iter step (st i) = some (if ((List.range n).drop i).all p then good else bad):=by
  intro d
  induction d with
  | zero =>
   intro i hi
   have : i = n:=by omega
   subst this
   rw [iter_done he,List.drop_eq_nil_of_le (by simp)]; simp
  | succ d ih =>
   intro i hi
   have hd : (List.range n).drop i = i :: (List.range n).drop (i + 1):=by
    rw [List.drop_eq_getElem_cons (by simp; omega)]; simp
   rw [hd]
   cases hp : p i with
   | true=>rw [iter_next (h1 i (by omega) hp),ih (i + 1) (by omega)]; simp [hp]
   | false=>rw [iter_done (h2 i (by omega) hp)]; simp [hp]
 simpa using key n 0 (by omega)
theorem all_range {α : Type} (l : List α) (p : α → Bool) : (List.range l.length).all (fun i=>match l[i]? with | some x=>p x | none=>true) = l.all p:=by
 rw [Bool.eq_iff_iff,List.all_eq_true,List.all_eq_true]
 constructor
 ·intro h x hx
  obtain ⟨i,hi⟩:=List.getElem?_of_mem hx
  have:=h i (List.mem_range.2 (List.getElem?_eq_some_iff.1 hi).1)
  simpa [hi] using this
 ·intro h i hi
  have hi':=List.mem_range.1 hi
  rw [List.getElem?_eq_getElem hi']
  exact h _ (List.getElem_mem hi')
theorem spec_word {s : List UInt8} (hs : s.length < 9223372036854775807) : F_spec_WordOk s = some (wordOk s):=by
 have hl : iter (S_spec_WordOk_1 s) 0 = some (if s.all lowB then .inr () else .inl false):=by
  rw [← all_range]
  refine iter_all (fun i=>(i : Int)) s.length _ ?_ ?_ ?_
  ·intro i hi hp
   rw [List.getElem?_eq_getElem hi] at hp
   simp only [lowB,Bool.and_eq_true,decide_eq_true_eq] at hp
   unfold S_spec_WordOk_1
   simp only [show decide ((i : Int) < (s.length : Int)) = true from by simp; omega,if_true,bt?_nat hi,ob]
   rw [if_neg (by simp; omega),if_neg (by simp; omega)]
   simp [w64_succ (show i < 9223372036854775807 by omega)]
  ·intro i hi hp
   rw [List.getElem?_eq_getElem hi] at hp
   simp only [lowB,Bool.and_eq_false_iff,decide_eq_false_iff_not] at hp
   unfold S_spec_WordOk_1
   simp only [show decide ((i : Int) < (s.length : Int)) = true from by simp; omega,if_true,bt?_nat hi,ob]
   by_cases h : (s[i]).toNat < 97
   ·rw [if_pos (by simp; omega)]; rfl
   ·rw [if_neg (by simp; omega),if_pos (by simp; omega)]; rfl
  ·unfold S_spec_WordOk_1
   simp
 unfold F_spec_WordOk
 rw [hl]
 unfold wordOk
 cases s.all lowB <;> simp [spec_in]
theorem set'_nat {α : Type} {l : List α} {i : Nat} {x : α} : set' l (i : Int) x = l.set i x:=by simp [set']
theorem at?_eq {α : Type} {l : List α} {i : Nat} {x : α} (h : l[i]? = some x) : at? l (i : Int) = some x:=by
 obtain ⟨h1,rfl⟩:=List.getElem?_eq_some_iff.1 h
 exact at?_nat h1
theorem dlt {i : Nat} {n : Nat} (h : i < n) : decide ((i : Int) < (n : Int)) = true:=by simpa using h
theorem to_loop {α : Type} {l : List α} {z : α} {step : Int × List α → Option ((Int × List α) ⊕ List α)} (hl : l.length < 9223372036854775807)
  (h1 : ∀ (i : Nat) (h : i < l.length) (m : List α),m.length = l.length → step ((i : Int),m) = some (.inl (((i + 1 : Nat) : Int),m.set i l[i])))
  (h2 : ∀ m : List α,step ((l.length : Int),m) = some (.inr m)) : iter step (0,List.replicate l.length z) = some l:=by
 have:=iter_range (step:=step) (fun i=>((i : Int),l.take i ++ List.replicate (l.length - i) z)) l.length (r:=l) ?_ ?_
 ·simpa using this
 ·intro i hi
  rw [h1 i hi _ (by simp; omega)]
  have e : (l.take i ++ List.replicate (l.length - i) z).set i l[i] = l.take (i + 1) ++ List.replicate (l.length - (i + 1)) z:=by
   have e1 : l.length - i = (l.length - (i + 1)) + 1:=by omega
   have e2 : (l.take i).length = i:=by simp; omega
   rw [e1,List.replicate_succ,List.set_append_right _ _ (by omega),e2,Nat.sub_self,List.set_cons_zero,List.take_succ_eq_append_getElem hi,List.append_assoc]
   rfl
  rw [e]
 ·simp [h2]
theorem mk?_ok {α : Type} {byt : Nat} {z : α} {n : Nat} (h : n ≤ 1099511627776) (h2 : n * byt ≤ 140737488355328) : mk? byt z (n : Int) = some (List.replicate n z):=by
 unfold mk?
 have h3 : ((n * byt : Nat) : Int) ≤ 140737488355328:=by omega
 rw [if_pos ⟨by omega,by rw [Int.mul_comm]; rw [Int.natCast_mul] at h3; exact h3,by omega⟩]; simp
theorem any_loop {α ρ : Type} {l : List α} {k : Nat} (hk : k ≤ l.length) {q : α → Bool} {step : Int → Option (Int ⊕ ρ)} {bad good : ρ} (h1 : ∀ (i : Nat) (h : i < l.length),i < k → step (i : Int) = if q l[i] then some (.inr bad) else some (.inl ((i + 1 : Nat) : Int))) (h2 : step (k : Int) = some (.inr good)) : iter step 0 = some (if (l.take k).any q then bad else good):=by
 have key : ∀ d i,i + d = k → iter step (i : Int) = some (if ((l.take k).drop i).any q then bad else good):=by
  intro d
  induction d with
  | zero => intro i hi; have : i = k := by omega
            subst this; rw [iter_done h2,List.drop_eq_nil_of_le (by simp; omega)]; simp
  | succ d ih =>
   intro i hi
   have hd : (l.take k).drop i = l[i] :: (l.take k).drop (i + 1):=by
    rw [List.drop_eq_getElem_cons (by simp; omega)]; simp
   rw [hd,List.any_cons]
   have hs:=h1 i (by omega) (by omega)
   cases hq : q l[i] with
   | true=>rw [hq] at hs; rw [iter_done hs]; simp
   | false=>rw [hq] at hs; rw [iter_next hs,ih (i + 1) (by omega)]; simp
 simpa using key k 0 (by omega)
theorem idx_loop {α : Type} {l : List α} {q : α → Bool} {step : Int → Option (Int ⊕ (Int ⊕ Unit))} (h1 : ∀ (i : Nat) (h : i < l.length),step (i : Int) = if q l[i] then some (.inr (.inl (i : Int))) else some (.inl ((i + 1 : Nat) : Int))) (h2 : step (l.length : Int) = some (.inr (.inr ()))) : iter step 0 = some (match l.findIdx? q with | some i=>.inl (i : Int) | none=>.inr ()):=by
 have key : ∀ d i,i + d = l.length → iter step (i : Int) = some (match (l.drop i).findIdx? q with | some j=>.inl ((i + j : Nat) : Int) | none=>.inr ()):=by
  intro d
  induction d with
  | zero => intro i hi; have : i = l.length := by omega
            subst this; rw [iter_done h2,List.drop_eq_nil_of_le (by simp)]; simp
  | succ d ih =>
   intro i hi
   have hs:=h1 i (by omega)
   rw [List.drop_eq_getElem_cons (by omega),List.findIdx?_cons]
   cases hq : q l[i] with
   | true=>rw [hq] at hs; rw [iter_done hs]; simp
   | false =>
    rw [hq] at hs; rw [iter_next hs,ih (i + 1) (by omega)]
    cases (l.drop (i + 1)).findIdx? q with
    | none=>simp
    | some j=>simp; omega
 have:=key l.length 0 (by omega)
 simp only [List.drop_zero,Nat.zero_add] at this
 exact this
def idxI : Option Nat → Int
 | some i=>i
 | none=>-1
theorem idx_any {α : Type} {l : List α} {q : α → Bool} : decide (idxI (l.findIdx? q) ≥ 0) = l.any q:=by
 rw [← List.findIdx?_isSome]
 cases l.findIdx? q <;> simp [idxI]
theorem sub?_take {α : Type} {l : List α} {i : Nat} (h : i ≤ l.length) : sub? l 0 (i : Int) = some (l.take i):=by
 unfold sub?
 simp
 omega
structure Sz_TRec (x : TRec) : Prop where
 sUser : x.User.length ≤ 1048576
 sName : x.Name.length ≤ 1048576
 sText : x.Text.length ≤ 1048576
structure Sz_TItem (x : TItem) : Prop where
 sRec : Sz_TRec x.Rec
theorem p_slices_IndexFunc_Ref_CheckOk_1 {x0 : List TRef} {x1 : TRef} {q : TRef → Bool} (hl : x0.length ≤ 9223372036854775806) (hq : ∀ y ∈ x0,F_impl_CheckOk_1_w y x1 = some (q y)) : F_slices_IndexFunc_Ref_CheckOk_1 x0 x1 = some (idxI (x0.findIdx? q)):=by
 unfold F_slices_IndexFunc_Ref_CheckOk_1
 rw [idx_loop (l:=x0) (q:=q) ?_ ?_]
 ·cases x0.findIdx? q <;> rfl
 ·intro i hi
  unfold S_slices_IndexFunc_Ref_CheckOk_1_1
  simp only [dlt hi,if_true,at?_nat hi,ob,hq _ (List.getElem_mem hi),w64_succ (show i < 9223372036854775807 by omega)]
 ·unfold S_slices_IndexFunc_Ref_CheckOk_1_1
  simp
theorem p_slices_ContainsFunc_Ref_CheckOk_1 {x0 : List TRef} {x1 : TRef} {q : TRef → Bool} (hl : x0.length ≤ 9223372036854775806) (hq : ∀ y ∈ x0,F_impl_CheckOk_1_w y x1 = some (q y)) : F_slices_ContainsFunc_Ref_CheckOk_1 x0 x1 = some (x0.any q):=by
 unfold F_slices_ContainsFunc_Ref_CheckOk_1
 rw [p_slices_IndexFunc_Ref_CheckOk_1 hl hq,ob,idx_any]
theorem p_slices_IndexFunc_string_DiskOk_1 {x0 : List (List UInt8)} {q : (List UInt8) → Bool} (hl : x0.length ≤ 9223372036854775806) (hq : ∀ y ∈ x0,F_impl_DiskOk_1 y = some (q y)) : F_slices_IndexFunc_string_DiskOk_1 x0 = some (idxI (x0.findIdx? q)):=by
 unfold F_slices_IndexFunc_string_DiskOk_1
 rw [idx_loop (l:=x0) (q:=q) ?_ ?_]
 ·cases x0.findIdx? q <;> rfl
 ·intro i hi
  unfold S_slices_IndexFunc_string_DiskOk_1_1
  simp only [dlt hi,if_true,at?_nat hi,ob,hq _ (List.getElem_mem hi),w64_succ (show i < 9223372036854775807 by omega)]
 ·unfold S_slices_IndexFunc_string_DiskOk_1_1
  simp
theorem p_slices_ContainsFunc_string_DiskOk_1 {x0 : List (List UInt8)} {q : (List UInt8) → Bool} (hl : x0.length ≤ 9223372036854775806) (hq : ∀ y ∈ x0,F_impl_DiskOk_1 y = some (q y)) : F_slices_ContainsFunc_string_DiskOk_1 x0 = some (x0.any q):=by
 unfold F_slices_ContainsFunc_string_DiskOk_1
 rw [p_slices_IndexFunc_string_DiskOk_1 hl hq,ob,idx_any]
theorem p_slices_IndexFunc_Write_DiskOk_2 {x0 : List TWrite} {x1 : TDisk} {q : TWrite → Bool} (hl : x0.length ≤ 9223372036854775806) (hq : ∀ y ∈ x0,F_impl_DiskOk_2_w y x1 = some (q y)) : F_slices_IndexFunc_Write_DiskOk_2 x0 x1 = some (idxI (x0.findIdx? q)):=by
 unfold F_slices_IndexFunc_Write_DiskOk_2
 rw [idx_loop (l:=x0) (q:=q) ?_ ?_]
 ·cases x0.findIdx? q <;> rfl
 ·intro i hi
  unfold S_slices_IndexFunc_Write_DiskOk_2_1
  simp only [dlt hi,if_true,at?_nat hi,ob,hq _ (List.getElem_mem hi),w64_succ (show i < 9223372036854775807 by omega)]
 ·unfold S_slices_IndexFunc_Write_DiskOk_2_1
  simp
theorem p_slices_ContainsFunc_Write_DiskOk_2 {x0 : List TWrite} {x1 : TDisk} {q : TWrite → Bool} (hl : x0.length ≤ 9223372036854775806) (hq : ∀ y ∈ x0,F_impl_DiskOk_2_w y x1 = some (q y)) : F_slices_ContainsFunc_Write_DiskOk_2 x0 x1 = some (x0.any q):=by
 unfold F_slices_ContainsFunc_Write_DiskOk_2
 rw [p_slices_IndexFunc_Write_DiskOk_2 hl hq,ob,idx_any]
def hit (a : Int) (l : List TWrite) : Option TWrite:=l.foldl (fun o w=>if w.At == a then some w else o) none
theorem hit_append (a : Int) (l : List TWrite) (w : TWrite) : hit a (l ++ [w]) = if w.At == a then some w else hit a l:=by
 unfold hit
 rw [List.foldl_append]; rfl
theorem hit_mem {a : Int} {l : List TWrite} {w : TWrite} (h : hit a l = some w) : w ∈ l:=by
 have key : ∀ (l : List TWrite) (o : Option TWrite),l.foldl (fun o w=>if w.At == a then some w else o) o = some w → w ∈ l ∨ o = some w:=by
  intro l
  induction l with
  | nil=>intro o h; exact .inr h
  | cons x l ih =>
   intro o h
   rcases ih _ h with h1 | h1
   ·exact .inl (List.mem_cons_of_mem _ h1)
   ·dsimp only at h1
    split at h1
    ·cases h1; exact .inl List.mem_cons_self
    ·exact .inr h1
 rcases key l none h with h1 | h1
 ·exact h1
 ·cases h1
def secV (o : Option TWrite) (z : List UInt8) : List UInt8:=match o with | some w=>w.Text | none=>z
def rsec (d : TDisk) (a : Nat) : List UInt8:=secV (hit (a : Int) d.Cache) ((d.Sectors[a]?).getD [])
structure DkS (d : TDisk) : Prop where
 sec : d.Sectors.length ≤ 1048576 ∧ ∀ y ∈ d.Sectors,y.length ≤ 1048576
 cache : d.Cache.length ≤ 1048576 ∧ ∀ y ∈ d.Cache,y.Text.length ≤ 1048576
theorem rsec_len {d : TDisk} (h : DkS d) (a : Nat) : (rsec d a).length ≤ 1048576:=by
 unfold rsec secV
 split
 ·rename_i w hw; exact h.cache.2 w (hit_mem hw)
 ·by_cases ha : a < d.Sectors.length
  ·rw [List.getElem?_eq_getElem ha]; exact h.sec.2 _ (List.getElem_mem ha)
  ·rw [List.getElem?_eq_none (by omega)]; simp
def readS (d : TDisk) (x : Int) : List UInt8 × Bool:=if inR x 0 ((d.Sectors.length : Int) - 1) then (rsec d x.toNat,true) else ([],false)
theorem spec_readSector {d : TDisk} (h : DkS d) (x : Int) : F_spec_ReadSector d x = some (readS d x):=by
 have hs:=h.sec.1
 have hc:=h.cache.1
 unfold F_spec_ReadSector readS
 rw [w64_id (n:=(d.Sectors.length : Int) - 1) (by omega) (by omega),spec_in,ob]
 cases hr : inR x 0 ((d.Sectors.length : Int) - 1) with
 | false=>rfl
 | true =>
  unfold inR at hr
  simp only [Bool.and_eq_true,decide_eq_true_eq] at hr
  obtain ⟨a,rfl⟩ : ∃ a : Nat,x = a:=⟨x.toNat,by omega⟩
  have ha : a < d.Sectors.length:=by omega
  have key : ∀ n : Nat,n ≤ d.Cache.length → iter (S_spec_ReadSector_1 d (a : Int)) ((n : Int) - 1) = some (match hit (a : Int) (d.Cache.take n) with | some w=>.inl (w.Text,true) | none=>.inr ()):=by
   intro n
   induction n with
   | zero =>
    intro _
    refine iter_done ?_
    unfold S_spec_ReadSector_1
    simp [hit]
   | succ n ih =>
    intro hn
    have hn' : n < d.Cache.length:=by omega
    have e0 : (((n + 1 : Nat) : Int) - 1) = (n : Int):=by omega
    rw [e0,List.take_succ_eq_append_getElem hn',hit_append]
    by_cases c : d.Cache[n].At = (a : Int)
    ·refine iter_done ?_
     unfold S_spec_ReadSector_1
     rw [if_pos (by simp),at?_nat hn',ob,if_pos (by simpa using c),if_pos (by simpa using c)]
     rfl
    ·rw [iter_next (s':=((n : Int) - 1)),ih (by omega),if_neg (by simpa using c)]
     unfold S_spec_ReadSector_1
     rw [if_pos (by simp),at?_nat hn',ob,if_neg (by simpa using c),w64_id (by omega) (by omega)]
  rw [if_pos rfl,w64_id (n:=(d.Cache.length : Int) - 1) (by omega) (by omega),key _ (Nat.le_refl _),List.take_length,Int.toNat_natCast]
  unfold rsec secV
  cases hit (a : Int) d.Cache with
  | some w=>rfl
  | none=>simp [at?_nat ha,ha]
theorem impl_readSector {d : TDisk} (h : DkS d) (x : Int) : F_impl_ReadSector d x = some (readS d x):=by
 have hs:=h.sec.1
 have hc:=h.cache.1
 unfold F_impl_ReadSector readS
 rw [w64_id (n:=(d.Sectors.length : Int) - 1) (by omega) (by omega),impl_in,ob]
 cases hr : inR x 0 ((d.Sectors.length : Int) - 1) with
 | false=>rfl
 | true =>
  unfold inR at hr
  simp only [Bool.and_eq_true,decide_eq_true_eq] at hr
  obtain ⟨a,rfl⟩ : ∃ a : Nat,x = a:=⟨x.toNat,by omega⟩
  have ha : a < d.Sectors.length:=by omega
  have key:=iter_range (step:=S_impl_ReadSector_1 d (a : Int)) (fun i=>(secV (hit (a : Int) (d.Cache.take i)) d.Sectors[a],(i : Int))) d.Cache.length (r:=secV (hit (a : Int) d.Cache) d.Sectors[a]) ?_ ?_
  ·rw [if_pos rfl,at?_nat ha,ob]
   rw [show ((secV (hit (a : Int) (d.Cache.take 0)) d.Sectors[a],((0 : Nat) : Int)) : List UInt8 × Int) = (d.Sectors[a],0) from rfl] at key
   rw [key,ob,if_pos rfl,Int.toNat_natCast]
   unfold rsec
   rw [List.getElem?_eq_getElem ha]; rfl
  ·intro i hi
   rw [List.take_succ_eq_append_getElem hi,hit_append]
   unfold S_impl_ReadSector_1
   rw [if_pos (dlt hi),at?_nat hi,ob]
   by_cases c : d.Cache[i].At = (a : Int)
   ·rw [if_pos (by simpa using c),if_pos (by simpa using c),w64_succ (by omega)]; rfl
   ·rw [if_neg (by simpa using c),if_neg (by simpa using c),w64_succ (by omega)]
  ·unfold S_impl_ReadSector_1
   rw [List.take_length]; simp
def secT (d : TDisk) (f : Nat) : Nat → List UInt8
 | 0=>[]
 | i + 1=>secT d f i ++ rsec d (f + i)
theorem secT_len {d : TDisk} (h : DkS d) (f : Nat) : ∀ n,(secT d f n).length ≤ 1048576 * n
 | 0=>by simp [secT]
 | n + 1=>by
  have h1:=secT_len h f n
  have h2:=rsec_len h (f + n)
  rw [secT,List.length_append]; omega
def sectorT (d : TDisk) (f n : Nat) : List UInt8 × Bool:=if f + n ≤ d.Sectors.length then (secT d f n,true) else ([],false)
theorem readS_in {d : TDisk} {a : Nat} (h : a < d.Sectors.length) : readS d (a : Int) = (rsec d a,true):=by
 unfold readS
 rw [if_pos (by unfold inR; simp; omega)]; rfl
theorem readS_out {d : TDisk} {a : Nat} (h : d.Sectors.length ≤ a) : readS d (a : Int) = ([],false):=by
 unfold readS
 rw [if_neg (by unfold inR; simp; omega)]
theorem sector_loop {d : TDisk} (h : DkS d) {f n : Nat} (h0 : 0 < n) {step : List UInt8 × Int → Option ((List UInt8 × Int) ⊕ ((List UInt8 × Bool) ⊕ List UInt8))}
  (h1 : ∀ (i : Nat) (o : List UInt8),i < n → f + i < d.Sectors.length → o.length ≤ 1048576 * i → step (o,(i : Int)) = some (.inl (o ++ rsec d (f + i),((i + 1 : Nat) : Int))))
  (h2 : ∀ (i : Nat) (o : List UInt8),i < n → d.Sectors.length ≤ f + i → step (o,(i : Int)) = some (.inr (.inl ([],false))))
  (h3 : ∀ o,step (o,(n : Int)) = some (.inr (.inr o))) : (iter step ([],0)).bind (Sum.elim (fun r=>some r) (fun y=>some (y,true))) = some (sectorT d f n):=by
 unfold sectorT
 by_cases c : f + n ≤ d.Sectors.length
 ·have:=iter_range (step:=step) (fun i=>(secT d f i,(i : Int))) n (r:=.inr (secT d f n)) ?_ (h3 _)
  ·rw [show ((secT d f 0,((0 : Nat) : Int)) : List UInt8 × Int) = ([],0) from rfl] at this
   rw [this,if_pos c]; rfl
  ·intro i hi
   rw [h1 i _ hi (by omega) (secT_len h f i)]; rfl
 ·have:=iter_range (step:=step) (fun i=>(secT d f i,(i : Int))) (d.Sectors.length - f) (r:=.inl ([],false)) ?_ (h2 _ _ (by omega) (by omega))
  ·rw [show ((secT d f 0,((0 : Nat) : Int)) : List UInt8 × Int) = ([],0) from rfl] at this
   rw [this,if_neg c]; rfl
  ·intro i hi
   rw [h1 i _ (by omega) (by omega) (secT_len h f i)]; rfl
theorem spec_sectorText {d : TDisk} (h : DkS d) {f n : Nat} (hf : f ≤ 1000) (h0 : 0 < n) (hn : n ≤ 100) : F_spec_SectorText d (f : Int) (n : Int) = some (sectorT d f n):=by
 unfold F_spec_SectorText
 rw [spec_in,ob,if_pos (by unfold inR; simp; omega)]
 have e : ∀ i : Nat,i < n → w64 ((f : Int) + (i : Int)) = ((f + i : Nat) : Int):=fun i hi=>by rw [w64_id (by omega) (by omega)]; omega
 refine sector_loop h h0 ?_ ?_ ?_
 ·intro i o hi hb ho
  have hr:=rsec_len h (f + i)
  unfold S_spec_SectorText_1
  rw [if_pos (by simpa using hi),if_neg (by simp),if_neg (by simp; omega),ob,if_neg (by simp),e i hi,spec_readSector h,ob,readS_in hb]
  dsimp only
  rw [if_neg (by simp),cat?_ok (by omega),ob,w64_succ (by omega)]
 ·intro i o hi hb
  unfold S_spec_SectorText_1
  rw [if_pos (by simpa using hi),if_neg (by simp)]
  by_cases c : (f : Int) > (d.Sectors.length : Int)
  ·rw [if_pos (by simpa using c),ob,if_pos rfl]
  ·rw [if_neg (by simpa using c),ob,if_neg (by simp),e i hi,spec_readSector h,ob,readS_out hb]
   rfl
 ·intro o
  unfold S_spec_SectorText_1
  simp
theorem impl_sectorText {d : TDisk} (h : DkS d) {f n : Nat} (hf : f ≤ 1000) (h0 : 0 < n) (hn : n ≤ 100) : F_impl_SectorText d (f : Int) (n : Int) = some (sectorT d f n):=by
 unfold F_impl_SectorText
 rw [impl_in,ob,if_pos (by unfold inR; simp; omega)]
 have e : ∀ i : Nat,i < n → w64 ((f : Int) + (i : Int)) = ((f + i : Nat) : Int):=fun i hi=>by rw [w64_id (by omega) (by omega)]; omega
 refine sector_loop h h0 ?_ ?_ ?_
 ·intro i o hi hb ho
  have hr:=rsec_len h (f + i)
  unfold S_impl_SectorText_1
  rw [if_pos (by simpa using hi),e i hi,impl_readSector h,ob,readS_in hb]
  dsimp only
  rw [if_neg (by simp),cat?_ok (by omega),ob,w64_succ (by omega)]
 ·intro i o hi hb
  unfold S_impl_SectorText_1
  rw [if_pos (by simpa using hi),e i hi,impl_readSector h,ob,readS_out hb]
  rfl
 ·intro o
  unfold S_impl_SectorText_1
  simp
theorem spec_copy {d : TDisk} (h : DkS d) : F_spec_l03Copy d = some d:=by
 have h1:=h.sec.1
 have h2:=h.cache.1
 unfold F_spec_l03Copy
 rw [app?_ok (by simp; omega) (by simp; omega),ob,app?_ok (by simp; omega) (by simp; omega),ob]
 rfl
theorem impl_copy {d : TDisk} (h : DkS d) : F_impl_cloneDisk d = some d:=by
 have h1:=h.sec.1
 have h2:=h.cache.1
 unfold F_impl_cloneDisk F_slices_Clone_string F_slices_Clone_Write
 rw [app?_ok (by simp; omega) (by simp; omega),ob,app?_ok (by simp; omega) (by simp; omega),ob]
 rfl
def wOk (n : Nat) (w : TWrite) : Bool:=inR w.At 0 ((n : Int) - 1) && w.Text.length == 32
def diskOk (d : TDisk) : Bool:=inR (d.Sectors.length : Int) 1 100 && (decide (d.Cache.length ≤ 60) && (d.Sectors.all (fun s=>s.length == 32) && d.Cache.all (wOk d.Sectors.length)))
theorem diskOk_iff {d : TDisk} : diskOk d = true ↔ (1 ≤ d.Sectors.length ∧ d.Sectors.length ≤ 100) ∧ d.Cache.length ≤ 60 ∧ (∀ s ∈ d.Sectors,s.length = 32) ∧ ∀ w ∈ d.Cache,(0 ≤ w.At ∧ w.At ≤ (d.Sectors.length : Int) - 1) ∧ w.Text.length = 32:=by
 unfold diskOk wOk inR
 simp only [Bool.and_eq_true,decide_eq_true_eq,List.all_eq_true,beq_iff_eq]
 constructor
 ·rintro ⟨h1,h2,h3,h4⟩
  exact ⟨by omega,h2,h3,h4⟩
 ·rintro ⟨h1,h2,h3,h4⟩
  exact ⟨by omega,h2,h3,h4⟩
theorem any_not_all {α : Type} (l : List α) (p : α → Bool) : l.any (fun x=>!p x) = !(l.all p):=by
 rw [List.all_eq_not_any_not,Bool.not_not]
theorem spec_diskOk {d : TDisk} (h : DkS d) : F_spec_DiskOk d = some (diskOk d):=by
 have h1:=h.sec.1
 have h2:=h.cache.1
 have a1:=any_loop (l:=d.Sectors) (k:=d.Sectors.length) (by omega) (q:=fun s=>!(s.length == 32)) (step:=S_spec_DiskOk_1 d) (bad:=.inl false) (good:=.inr ()) (by
  intro i hi _
  unfold S_spec_DiskOk_1
  simp only [dlt hi,if_true,at?_nat hi,ob,w64_succ (show i < 9223372036854775807 by omega)]
  by_cases c : d.Sectors[i].length = 32
  ·rw [if_neg (by simp [c]),if_neg (by simp [c])]
  ·rw [if_pos (by simp; omega),if_pos (by simpa using c)]) (by unfold S_spec_DiskOk_1; simp)
 have a2:=any_loop (l:=d.Cache) (k:=d.Cache.length) (by omega) (q:=fun w=>!(wOk d.Sectors.length w)) (step:=S_spec_DiskOk_2 d) (bad:=.inl false) (good:=.inr ()) (by
  intro i hi _
  unfold S_spec_DiskOk_2 wOk
  simp only [dlt hi,if_true,at?_nat hi,ob,spec_in,w64_id (n:=(d.Sectors.length : Int) - 1) (by omega) (by omega),w64_succ (show i < 9223372036854775807 by omega)]
  cases inR d.Cache[i].At 0 ((d.Sectors.length : Int) - 1)
  ·simp
  ·by_cases c : d.Cache[i].Text.length = 32
   ·simp [c]
   ·have c' : ¬ ((d.Cache[i].Text.length : Int) = 32):=by omega
    simp [c,c']) (by unfold S_spec_DiskOk_2; simp)
 rw [List.take_length,any_not_all] at a1 a2
 unfold F_spec_DiskOk diskOk
 rw [spec_in,ob]
 cases inR (d.Sectors.length : Int) 1 100 with
 | false=>rfl
 | true =>
  rw [if_pos rfl]
  by_cases c : d.Cache.length ≤ 60
  ·rw [if_neg (by simp; omega),ob,if_neg (by simp),a1]
   cases d.Sectors.all (fun s=>s.length == 32)
   ·simp
   ·simp only [Bool.not_true,Bool.false_eq_true,if_false,ob,Sum.elim_inr,a2]
    cases d.Cache.all (wOk d.Sectors.length) <;> simp [c]
  ·rw [if_pos (by simp; omega),ob,if_pos rfl]
   simp [c]
theorem impl_diskOk {d : TDisk} (h : DkS d) : F_impl_DiskOk d = some (diskOk d):=by
 have h1:=h.sec.1
 have h2:=h.cache.1
 have a1:=p_slices_ContainsFunc_string_DiskOk_1 (x0:=d.Sectors) (q:=fun s=>!(s.length == 32)) (by omega) (fun s _=>by
  unfold F_impl_DiskOk_1
  by_cases c : s.length = 32
  ·simp [c]
  ·have c' : ¬ ((s.length : Int) = 32):=by omega
   rw [show ((s.length : Int) != 32) = true by simpa using c',show (s.length == 32) = false by simpa using c]; rfl)
 have a2:=p_slices_ContainsFunc_Write_DiskOk_2 (x0:=d.Cache) (x1:=d) (q:=fun w=>!(wOk d.Sectors.length w)) (by omega) (fun w _=>by
  unfold F_impl_DiskOk_2_w wOk
  rw [impl_in,ob,w64_id (n:=(d.Sectors.length : Int) - 1) (by omega) (by omega)]
  cases inR w.At 0 ((d.Sectors.length : Int) - 1)
  ·simp
  ·by_cases c : w.Text.length = 32
   ·simp [c]
   ·have c' : ¬ ((w.Text.length : Int) = 32):=by omega
    rw [if_pos rfl,show ((w.Text.length : Int) != 32) = true by simpa using c',show (w.Text.length == 32) = false by simpa using c]; rfl)
 rw [any_not_all] at a1 a2
 unfold F_impl_DiskOk diskOk
 rw [impl_in,ob]
 cases inR (d.Sectors.length : Int) 1 100 with
 | false=>rfl
 | true =>
  rw [if_pos rfl]
  by_cases c : d.Cache.length ≤ 60
  ·rw [if_neg (by simp; omega),ob,if_neg (by simp),a1,ob]
   cases d.Sectors.all (fun s=>s.length == 32)
   ·simp
   ·simp only [Bool.not_true,Bool.false_eq_true,if_false,a2,ob]
    cases d.Cache.all (wOk d.Sectors.length) <;> simp [c]
  ·rw [if_pos (by simp; omega),ob,if_pos rfl]
   simp [c]
def wr (d : TDisk) (k : Int) (t : List UInt8) : Option TDisk:=if diskOk d && (inR k 0 ((d.Sectors.length : Int) - 1) && (t.length == 32 && decide (d.Cache.length < 60))) then some { Sectors:=d.Sectors,Cache:=d.Cache ++ [{ At:=k,Text:=t }] } else none
def wrR (d : TDisk) (o : Option TDisk) : TDisk × Bool:=match o with
 | some d'=>(d',true)
 | none=>(d,false)
theorem wr_ok {d d' : TDisk} {k : Int} {t : List UInt8} (h : wr d k t = some d') : diskOk d' = true ∧ d'.Sectors = d.Sectors:=by
 unfold wr at h
 split at h
 ·rename_i hc
  cases h
  simp only [Bool.and_eq_true,decide_eq_true_eq,beq_iff_eq] at hc
  obtain ⟨h1,h2,h3,h4⟩:=hc
  obtain ⟨g1,g2,g3,g4⟩:=diskOk_iff.1 h1
  unfold inR at h2
  simp only [Bool.and_eq_true,decide_eq_true_eq] at h2
  refine ⟨diskOk_iff.2 ⟨g1,by simp; omega,g3,?_⟩,rfl⟩
  intro w hw
  rcases List.mem_append.1 hw with hw | hw
  ·exact g4 w hw
  ·rw [List.mem_singleton] at hw; subst hw
   exact ⟨h2,h3⟩
 ·cases h
theorem DkS.ofOk {d : TDisk} (h : diskOk d = true) : DkS d:=by
 obtain ⟨h1,h2,h3,h4⟩:=diskOk_iff.1 h
 exact ⟨⟨by omega,fun y hy=>by rw [h3 y hy]; omega⟩,by omega,fun y hy=>by rw [(h4 y hy).2]; omega⟩
theorem spec_wr {d : TDisk} (h : DkS d) (k : Int) (t : List UInt8) : F_spec_WriteSector d k t = some (wrR d (wr d k t)):=by
 have h1:=h.sec.1
 have h2:=h.cache.1
 unfold F_spec_WriteSector wr
 rw [spec_copy h,ob,spec_diskOk h,ob]
 cases diskOk d with
 | false=>rfl
 | true =>
  rw [if_pos rfl,spec_in,ob,w64_id (n:=(d.Sectors.length : Int) - 1) (by omega) (by omega)]
  cases inR k 0 ((d.Sectors.length : Int) - 1) with
  | false=>rfl
  | true =>
   rw [if_pos rfl]
   by_cases c : t.length = 32
   ·rw [if_neg (by simp [c])]
    by_cases e : d.Cache.length < 60
    ·rw [if_neg (by simp; omega),ob,if_neg (by simp),app?_ok (by simp; omega) (by simp; omega)]
     simp [c,e,wrR]
    ·rw [if_pos (by simp; omega),ob,if_pos rfl]
     simp [e,wrR]
   ·rw [if_pos (by simp; omega),ob,if_pos rfl]
    simp [c,wrR]
def setW (s : List (List UInt8)) (w : TWrite) : List (List UInt8):=s.set w.At.toNat w.Text
def flush (d : TDisk) : TDisk:=if diskOk d then { Sectors:=d.Cache.foldl setW d.Sectors,Cache:=[] } else d
theorem fold_len : ∀ (l : List TWrite) (s : List (List UInt8)),(l.foldl setW s).length = s.length
 | [],s=>rfl
 | w :: l,s=>by rw [List.foldl_cons,fold_len l]; simp [setW]
theorem fold_mem : ∀ (l : List TWrite) (s : List (List UInt8)),(∀ w ∈ l,w.Text.length = 32) → (∀ x ∈ s,x.length = 32) → ∀ x ∈ l.foldl setW s,x.length = 32
 | [],s,_,h,x,hx=>h x hx
 | w :: l,s,hl,h,x,hx=>by
  rw [List.foldl_cons] at hx
  refine fold_mem l _ (fun w hw=>hl w (List.mem_cons_of_mem _ hw)) ?_ x hx
  intro y hy
  unfold setW at hy
  rcases List.mem_or_eq_of_mem_set hy with hy | hy
  ·exact h y hy
  ·rw [hy]; exact hl w List.mem_cons_self
theorem flush_ok {d : TDisk} (h : diskOk d = true) : diskOk (flush d) = true:=by
 obtain ⟨h1,h2,h3,h4⟩:=diskOk_iff.1 h
 unfold flush
 rw [if_pos h]
 refine diskOk_iff.2 ⟨by rw [fold_len]; exact h1,by simp,fold_mem _ _ (fun w hw=>(h4 w hw).2) h3,by simp⟩
theorem flush_loop {d : TDisk} (h : diskOk d = true) {step : Int × List (List UInt8) → Option ((Int × List (List UInt8)) ⊕ List (List UInt8))}
  (h1 : ∀ (i : Nat) (o : List (List UInt8)) (hi : i < d.Cache.length),o.length = d.Sectors.length → step ((i : Int),o) = some (.inl (((i + 1 : Nat) : Int),setW o d.Cache[i])))
  (h2 : ∀ o,step ((d.Cache.length : Int),o) = some (.inr o)) : iter step (0,d.Sectors) = some (d.Cache.foldl setW d.Sectors):=by
 have:=iter_range (step:=step) (fun i=>((i : Int),(d.Cache.take i).foldl setW d.Sectors)) d.Cache.length (r:=d.Cache.foldl setW d.Sectors) ?_ ?_
 ·simpa using this
 ·intro i hi
  rw [h1 i _ hi (fold_len _ _),List.take_succ_eq_append_getElem hi,List.foldl_append]; rfl
 ·rw [h2,List.take_length]
theorem spec_flush {d : TDisk} (h : DkS d) : F_spec_FlushDisk d = some (flush d):=by
 have h2:=h.cache.1
 unfold F_spec_FlushDisk flush
 rw [spec_copy h,ob,spec_diskOk h,ob]
 by_cases c : diskOk d = true
 ·rw [if_pos c,if_pos c,flush_loop c]
  ·rfl
  ·intro i o hi ho
   have hw:=(diskOk_iff.1 c).2.2.2 _ (List.getElem_mem hi)
   obtain ⟨n,hn⟩ : ∃ n : Nat,d.Cache[i].At = n:=⟨d.Cache[i].At.toNat,by omega⟩
   unfold S_spec_FlushDisk_1 setW
   rw [if_pos (dlt hi),at?_nat hi,ob,ob,hn,at?_nat (show n < o.length by omega),ob,ob,set'_nat,w64_succ (by omega),Int.toNat_natCast]
  ·intro o; unfold S_spec_FlushDisk_1; simp
 ·rw [if_neg c,if_neg c]
def lastG (l : List TRef) : Nat → Int
 | 0=>0
 | i + 1=>match l[i]? with | some r=>r.Gen | none=>0
theorem lastG_succ {l : List TRef} {i : Nat} (h : i < l.length) : lastG l (i + 1) = l[i].Gen:=by simp [lastG,h]
def anyNo (l : List TRef) (n : Int) : Bool:=l.any fun q=>q.No == n
def okS (l : List TRef) (ng : Int) (i : Nat) : Bool:=match l[i]? with
 | some r=>inR r.No 0 10 && inR r.Gen 1 (w64 (ng - 1)) && (i == 0 || decide (lastG l i < r.Gen)) && !anyNo (l.take i) r.No
 | none=>true
def okI (l : List TRef) (ng : Int) (i : Nat) : Bool:=match l[i]? with
 | some r=>inR r.Gen (w64 (lastG l i + 1)) (w64 (ng - 1)) && inR r.No 0 10 && !anyNo (l.take i) r.No
 | none=>true
theorem inR_iff {n lo hi : Int} : inR n lo hi = true ↔ lo ≤ n ∧ n ≤ hi:=by unfold inR; simp
theorem ok_same {l : List TRef} {ng : Int} (h : 1 ≤ ng) (h' : ng ≤ 1000000000) : (List.range l.length).all (okS l ng) = (List.range l.length).all (okI l ng):=by
 have hw : w64 (ng - 1) = ng - 1:=w64_id (by omega) (by omega)
 rw [Bool.eq_iff_iff,List.all_eq_true,List.all_eq_true]
 constructor
 ·intro hs i hi
  have hi':=List.mem_range.1 hi
  have h1:=hs i hi
  unfold okS at h1
  unfold okI
  rw [List.getElem?_eq_getElem hi'] at h1 ⊢
  simp only [Bool.and_eq_true,inR_iff,hw] at h1 ⊢
  obtain ⟨⟨⟨a,b⟩,c⟩,d⟩:=h1
  refine ⟨⟨⟨?_,b.2⟩,a⟩,d⟩
  cases i with
  | zero=>simp only [lastG]; rw [w64_id (by omega) (by omega)]; omega
  | succ j =>
   have h2:=hs j (List.mem_range.2 (by omega))
   unfold okS at h2
   rw [List.getElem?_eq_getElem (by omega)] at h2
   simp only [Bool.and_eq_true,inR_iff,hw] at h2
   rw [lastG_succ (by omega)] at c ⊢
   simp at c
   rw [w64_id (by omega) (by omega)]; omega
 ·intro hs
  have key : ∀ i,i < l.length → okS l ng i = true:=by
   intro i
   induction i with
   | zero =>
    intro hi
    have h1:=hs 0 (List.mem_range.2 hi)
    unfold okI at h1
    unfold okS
    rw [List.getElem?_eq_getElem hi] at h1 ⊢
    simp only [Bool.and_eq_true,inR_iff,hw,lastG] at h1 ⊢
    rw [w64_id (by omega) (by omega)] at h1
    obtain ⟨⟨a,b⟩,c⟩:=h1
    exact ⟨⟨⟨b,by omega,a.2⟩,by simp⟩,c⟩
   | succ j ih =>
    intro hi
    have h1:=hs (j + 1) (List.mem_range.2 hi)
    have h2:=ih (by omega)
    unfold okI at h1
    unfold okS at h2 ⊢
    rw [List.getElem?_eq_getElem hi] at h1 ⊢
    rw [List.getElem?_eq_getElem (by omega)] at h2
    simp only [Bool.and_eq_true,inR_iff,hw] at h1 h2 ⊢
    rw [lastG_succ (by omega)] at h1 ⊢
    rw [w64_id (by omega) (by omega)] at h1
    obtain ⟨⟨a,b⟩,c⟩:=h1
    exact ⟨⟨⟨b,by omega,a.2⟩,by simp; omega⟩,c⟩
  exact fun i hi=>key i (List.mem_range.1 hi)
def stamps (c : TCheck) : Bool:=inR c.Stamp 1 1000000000 && inR c.NextGen 1 1000000000 && inR c.NextSeq 1 1000000000 && inR c.NextValid 1 1000000000
def checkOk (c : TCheck) : Bool:=stamps c && inR c.Refs.length 1 11 && (List.range c.Refs.length).all (okS c.Refs c.NextGen)
theorem spec_checkOk {c : TCheck} (h : c.Refs.length ≤ 1048576) : F_spec_CheckOk c = some (checkOk c):=by
 have hl : iter (S_spec_CheckOk_1 c) 0 = some (if (List.range c.Refs.length).all (okS c.Refs c.NextGen) then .inr () else .inl false):=by
  refine iter_all (fun i=>(i : Int)) c.Refs.length _ ?_ ?_ ?_
  all_goals first
   | (unfold S_spec_CheckOk_1; simp; done)
   | skip
  all_goals
   intro i hi hp
   have inner : iter (S_spec_CheckOk_2 c (i : Int) c.Refs[i]) 0 = some (if anyNo (c.Refs.take i) c.Refs[i].No then .inl false else .inr ()):=by
    refine any_loop (by omega) ?_ ?_
    ·intro j hj hji
     unfold S_spec_CheckOk_2
     simp only [dlt hji,if_true,at?_nat hj,ob,w64_succ (show j < 9223372036854775807 by omega)]
    ·unfold S_spec_CheckOk_2
     simp
   have hprev : (if decide ((i : Int) > 0) then (at? c.Refs (w64 ((i : Int) - 1))).bind fun v13=>(if decide (v13.Gen ≥ c.Refs[i].Gen) then some true else some false) else some false) = some (!(i == 0 || decide (lastG c.Refs i < c.Refs[i].Gen))):=by
    cases i with
    | zero=>simp
    | succ j =>
     have e : w64 (((j + 1 : Nat) : Int) - 1) = (j : Int):=by rw [w64_id (by omega) (by omega)]; omega
     rw [if_pos (by simp),e,at?_nat (show j < c.Refs.length by omega),lastG_succ (by omega)]
     simp only [ob]
     by_cases hc : c.Refs[j].Gen < c.Refs[j + 1].Gen
     ·rw [if_neg (by simpa using hc)]; simp [hc]
     ·rw [if_pos (by simp; omega)]; simp [hc]
   unfold okS at hp
   rw [List.getElem?_eq_getElem hi] at hp
   dsimp only at hp
   unfold S_spec_CheckOk_1
   simp only [dlt hi,if_true,at?_nat hi,ob,spec_in,inner,hprev]
   generalize inR c.Refs[i].No 0 10 = b1 at hp ⊢
   generalize inR c.Refs[i].Gen 1 (w64 (c.NextGen - 1)) = b2 at hp ⊢
   generalize (i == 0 || decide (lastG c.Refs i < c.Refs[i].Gen)) = b3 at hp ⊢
   generalize anyNo (c.Refs.take i) c.Refs[i].No = b4 at hp ⊢
   revert hp
   cases b1 <;> cases b2 <;> cases b3 <;> cases b4 <;> simp [w64_succ (show i < 9223372036854775807 by omega)]
 unfold F_spec_CheckOk checkOk stamps
 simp only [spec_in,hl,ob]
 cases inR c.Stamp 1 1000000000 <;> cases inR c.NextGen 1 1000000000 <;> cases inR c.NextSeq 1 1000000000 <;> cases inR c.NextValid 1 1000000000 <;> cases inR (c.Refs.length : Int) 1 11 <;> cases (List.range c.Refs.length).all (okS c.Refs c.NextGen) <;> simp
theorem impl_checkOk {c : TCheck} (h : c.Refs.length ≤ 1048576) : F_impl_CheckOk c = some (checkOk c):=by
 have hs : iter (S_impl_CheckOk_1 c) 0 = some (if stamps c then .inr () else .inl false):=by
  have e1 : iter (S_impl_CheckOk_1 c) 0 = some (if ([c.Stamp,c.NextGen,c.NextSeq,c.NextValid].take 4).any (fun n=>!inR n 1 1000000000) then .inl false else .inr ()):=by
   refine any_loop (by simp) ?_ ?_
   ·intro i hi _
    unfold S_impl_CheckOk_1
    simp only [dlt hi,if_true,at?_nat hi,ob,impl_in,w64_succ (show i < 9223372036854775807 by simp at hi; omega)]
    cases inR [c.Stamp,c.NextGen,c.NextSeq,c.NextValid][i] 1 1000000000 <;> simp
   ·unfold S_impl_CheckOk_1
    simp
  rw [e1]
  unfold stamps
  simp
  cases inR c.Stamp 1 1000000000 <;> cases inR c.NextGen 1 1000000000 <;> cases inR c.NextSeq 1 1000000000 <;> cases inR c.NextValid 1 1000000000 <;> simp
 have hl : iter (S_impl_CheckOk_2 c) (0,0) = some (if (List.range c.Refs.length).all (okI c.Refs c.NextGen) then .inr () else .inl false):=by
  refine iter_all (fun i=>(lastG c.Refs i,(i : Int))) c.Refs.length _ ?_ ?_ ?_
  all_goals first
   | (unfold S_impl_CheckOk_2; simp; done)
   | skip
  all_goals
   intro i hi hp
   have hc:=p_slices_ContainsFunc_Ref_CheckOk_1 (x0:=c.Refs.take i) (x1:=c.Refs[i]) (q:=fun q=>q.No == c.Refs[i].No) (by simp; omega) (fun y _=>rfl)
   unfold okI at hp
   rw [List.getElem?_eq_getElem hi] at hp
   dsimp only at hp
   unfold S_impl_CheckOk_2
   simp only [dlt hi,if_true,at?_nat hi,ob,impl_in,sub?_take (Nat.le_of_lt hi),hc,lastG_succ hi]
   unfold anyNo at hp
   generalize inR c.Refs[i].No 0 10 = b1 at hp ⊢
   generalize inR c.Refs[i].Gen (w64 (lastG c.Refs i + 1)) (w64 (c.NextGen - 1)) = b2 at hp ⊢
   generalize (c.Refs.take i).any (fun q=>q.No == c.Refs[i].No) = b4 at hp ⊢
   revert hp
   cases b1 <;> cases b2 <;> cases b4 <;> simp [w64_succ (show i < 9223372036854775807 by omega)]
 unfold F_impl_CheckOk checkOk
 rw [hs]
 cases hst : stamps c with
 | false=>simp
 | true =>
  have hng : 1 ≤ c.NextGen ∧ c.NextGen ≤ 1000000000:=by
   unfold stamps at hst
   simp only [Bool.and_eq_true,inR_iff] at hst
   exact hst.1.1.2
  simp only [if_true,ob,Sum.elim_inr,impl_in,hl,ok_same hng.1 hng.2]
  cases inR (c.Refs.length : Int) 1 11 <;> cases (List.range c.Refs.length).all (okI c.Refs c.NextGen) <;> simp
structure RecS (x : TRec) : Prop where
 user : x.User.length ≤ 1048576
 name : x.Name.length ≤ 1048576
 text : x.Text.length ≤ 1048576
def recOk (x : TRec) : Bool:=inR x.Kind 1 5 && inR x.Valid 1 9999 &&
 (if x.Kind = 1 then wordOk x.User && wordOk x.Name && inR x.Next 1 10000 else x.User == [] && x.Name == [] && x.Next == 0) &&
 (if x.Kind = 3 ∨ x.Kind = 4 ∨ x.Kind = 5 then inR x.Uid 1 9999 else x.Uid == 0) &&
 (if x.Kind = 3 ∨ x.Kind = 4 then inR x.Flags 0 7 else x.Flags == 0) &&
 (if x.Kind = 3 then decide (x.Text.length ≤ 100) else x.Text == [])
theorem kinds {n : Int} : inR n 1 5 = true → n = 1 ∨ n = 2 ∨ n = 3 ∨ n = 4 ∨ n = 5:=by
 unfold inR
 intro h
 simp only [Bool.and_eq_true,decide_eq_true_eq] at h
 omega
theorem iteS {α : Type} {p : Prop} [Decidable p] {a b : α} : (if p then some a else some b) = some (if p then a else b):=by split <;> rfl
theorem spec_recOk {x : TRec} (h : RecS x) : F_spec_RecOk x = some (recOk x):=by
 have h1:=spec_word (s:=x.User) (by have:=h.user; omega)
 have h2:=spec_word (s:=x.Name) (by have:=h.name; omega)
 unfold F_spec_RecOk recOk
 simp only [spec_in,h1,h2,ob]
 cases hk : inR x.Kind 1 5 with
 | false=>simp
 | true =>
  cases hv : inR x.Valid 1 9999 with
  | false=>simp
  | true =>
   rcases kinds hk with k | k | k | k | k <;> simp [k,iteS] <;> grind
theorem recOk_rng {x : TRec} (h : recOk x = true) : (0 ≤ x.Valid ∧ x.Valid ≤ 10000) ∧ (0 ≤ x.Uid ∧ x.Uid ≤ 10000) ∧ (0 ≤ x.Next ∧ x.Next ≤ 10000) ∧ (0 ≤ x.Flags ∧ x.Flags ≤ 10000) ∧ 1 ≤ x.Kind ∧ x.Kind ≤ 5:=by
 unfold recOk inR at h
 grind
def short (s : List UInt8) : List UInt8:=vt s.length ++ s
def recT (x : TRec) : List UInt8:=[ofI (IntKind.u8.wrap x.Kind)] ++ vt x.Valid ++ vt x.Uid ++ vt x.Next ++ vt x.Flags ++ short x.User ++ short x.Name ++ short x.Text
def recText (x : TRec) : List UInt8 × Bool:=if recOk x then (recT x,true) else ([],false)
theorem short_len {s : List UInt8} (h : s.length ≤ 1048576) : (short s).length ≤ s.length + 11:=by
 unfold short
 have:=vt_len (n:=s.length) (by omega)
 simp; omega
theorem spec_short {s : List UInt8} (h : s.length ≤ 1048576) : F_spec_l06Short s = some (short s):=by
 unfold F_spec_l06Short
 have:=vt_len (n:=s.length) (by omega)
 rw [spec_var (by omega) (by omega),ob,cat?_ok (by omega)]
 rfl
theorem spec_recText {x : TRec} (h : RecS x) : F_spec_RecText x = some (recText x):=by
 unfold F_spec_RecText recText
 rw [spec_recOk h,ob]
 cases hk : recOk x with
 | false=>rfl
 | true =>
  obtain ⟨r1,r2,r3,r4,_⟩:=recOk_rng hk
  have l1:=vt_len (n:=x.Valid) (by omega)
  have l2:=vt_len (n:=x.Uid) (by omega)
  have l3:=vt_len (n:=x.Next) (by omega)
  have l4:=vt_len (n:=x.Flags) (by omega)
  have l5:=short_len h.user
  have l6:=short_len h.name
  have l7:=short_len h.text
  have b1:=h.user
  have b2:=h.name
  have b3:=h.text
  simp only [if_true]
  rw [spec_var (by omega) (by omega),ob,cat?_ok (by simp; omega),ob,
   spec_var (by omega) (by omega),ob,cat?_ok (by simp; omega),ob,
   spec_var (by omega) (by omega),ob,cat?_ok (by simp; omega),ob,
   spec_var (by omega) (by omega),ob,cat?_ok (by simp; omega),ob,
   spec_short h.user,ob,cat?_ok (by simp; omega),ob,
   spec_short h.name,ob,cat?_ok (by simp; omega),ob,
   spec_short h.text,ob,cat?_ok (by simp; omega),ob]
  rfl
def ctHead (c : TCheck) : List UInt8:=vt c.Stamp ++ vt c.NextGen ++ vt c.NextSeq ++ vt c.NextValid ++ vt c.Refs.length
def refT (r : TRef) : List UInt8:=vt r.No ++ vt r.Gen
def ctBody (c : TCheck) : List UInt8:=ctHead c ++ c.Refs.flatMap refT
def ctOut (c : TCheck) : List UInt8:=short (ctBody c ++ sealL (ctBody c))
def checkText (c : TCheck) : List UInt8 × Bool:=if checkOk c then (if 128 < (ctOut c).length then ([],false) else (ctOut c,true)) else ([],false)
theorem checkOk_rng {c : TCheck} (h : checkOk c = true) : ((1 ≤ c.Stamp ∧ c.Stamp ≤ 1000000000) ∧ (1 ≤ c.NextGen ∧ c.NextGen ≤ 1000000000) ∧ (1 ≤ c.NextSeq ∧ c.NextSeq ≤ 1000000000) ∧ (1 ≤ c.NextValid ∧ c.NextValid ≤ 1000000000)) ∧ (1 ≤ c.Refs.length ∧ c.Refs.length ≤ 11) ∧ ∀ r ∈ c.Refs,(0 ≤ r.No ∧ r.No ≤ 10) ∧ 1 ≤ r.Gen ∧ r.Gen ≤ 1000000000:=by
 unfold checkOk stamps at h
 simp only [Bool.and_eq_true,inR_iff] at h
 obtain ⟨⟨⟨⟨⟨h1,h2⟩,h3⟩,h4⟩,h5⟩,h6⟩:=h
 refine ⟨⟨h1,h2,h3,h4⟩,by omega,?_⟩
 intro r hr
 obtain ⟨i,hi⟩:=List.getElem?_of_mem hr
 have h7:=List.all_eq_true.1 h6 i (List.mem_range.2 (List.getElem?_eq_some_iff.1 hi).1)
 unfold okS at h7
 rw [hi] at h7
 simp only [Bool.and_eq_true,inR_iff] at h7
 rw [w64_id (by omega) (by omega)] at h7
 obtain ⟨⟨⟨a,b⟩,_⟩,_⟩:=h7
 omega
theorem refT_len {r : TRef} (h : (0 ≤ r.No ∧ r.No ≤ 10) ∧ 1 ≤ r.Gen ∧ r.Gen ≤ 1000000000) : (refT r).length ≤ 22:=by
 have l1:=vt_len (n:=r.No) (by omega)
 have l2:=vt_len (n:=r.Gen) (by omega)
 unfold refT
 simp; omega
theorem fm_len {α : Type} {f : α → List UInt8} {k : Nat} : ∀ (l : List α),(∀ x ∈ l,(f x).length ≤ k) → (l.flatMap f).length ≤ k * l.length
 | [],_=>by simp
 | x :: l,h=>by
  have h1:=fm_len l (fun y hy=>h y (by simp [hy]))
  have h2:=h x (by simp)
  simp only [List.flatMap_cons,List.length_append,List.length_cons,Nat.mul_succ]
  omega
theorem ctHead_len {c : TCheck} (h : checkOk c = true) : (ctHead c).length ≤ 55:=by
 obtain ⟨⟨h1,h2,h3,h4⟩,h5,_⟩:=checkOk_rng h
 have l1:=vt_len (n:=c.Stamp) (by omega)
 have l2:=vt_len (n:=c.NextGen) (by omega)
 have l3:=vt_len (n:=c.NextSeq) (by omega)
 have l4:=vt_len (n:=c.NextValid) (by omega)
 have l5:=vt_len (n:=c.Refs.length) (by omega)
 unfold ctHead
 simp; omega
theorem ctBody_len {c : TCheck} (h : checkOk c = true) : (ctBody c).length ≤ 297:=by
 have h1:=ctHead_len h
 obtain ⟨_,h5,h6⟩:=checkOk_rng h
 have h2:=fm_len (f:=refT) (k:=22) c.Refs (fun r hr=>refT_len (h6 r hr))
 unfold ctBody
 simp only [List.length_append]
 omega
theorem cat_loop {α : Type} {l : List α} {f : α → List UInt8} {step : List UInt8 × Int → Option ((List UInt8 × Int) ⊕ List UInt8)} {y : List UInt8} {b : Nat}
  (hb : ∀ i,i ≤ l.length → (y ++ (l.take i).flatMap f).length ≤ b)
  (h1 : ∀ (i : Nat) (h : i < l.length) (a : List UInt8),a.length ≤ b → step (a,(i : Int)) = some (.inl (a ++ f l[i],((i + 1 : Nat) : Int))))
  (h2 : ∀ a,step (a,(l.length : Int)) = some (.inr a)) : iter step (y,0) = some (y ++ l.flatMap f):=by
 have:=iter_range (step:=step) (fun i=>(y ++ (l.take i).flatMap f,(i : Int))) l.length (r:=y ++ l.flatMap f) ?_ ?_
 ·simpa using this
 ·intro i hi
  rw [h1 i hi _ (hb i (by omega)),List.take_succ_eq_append_getElem hi,List.flatMap_append,List.append_assoc]
  simp
 ·rw [h2]; simp
theorem spec_checkText {c : TCheck} (h : c.Refs.length ≤ 1048576) : F_spec_CheckText c = some (checkText c):=by
 unfold F_spec_CheckText checkText
 rw [spec_checkOk h,ob]
 cases hk : checkOk c with
 | false=>rfl
 | true =>
  obtain ⟨⟨h1,h2,h3,h4⟩,h5,h6⟩:=checkOk_rng hk
  have l1:=vt_len (n:=c.Stamp) (by omega)
  have l2:=vt_len (n:=c.NextGen) (by omega)
  have l3:=vt_len (n:=c.NextSeq) (by omega)
  have l4:=vt_len (n:=c.NextValid) (by omega)
  have l5:=vt_len (n:=c.Refs.length) (by omega)
  have lb:=ctBody_len hk
  have hl : iter (S_spec_CheckText_1 c) (ctHead c,0) = some (ctBody c):=by
   refine cat_loop (l:=c.Refs) (f:=refT) (b:=297) ?_ ?_ ?_
   ·intro i hi
    have h7:=fm_len (f:=refT) (k:=22) (c.Refs.take i) (fun r hr=>refT_len (h6 r (List.mem_of_mem_take hr)))
    have h8:=ctHead_len hk
    simp only [List.length_append,List.length_take] at h7 ⊢
    omega
   ·intro i hi a ha
    have hr:=h6 _ (List.getElem_mem hi)
    have q1:=vt_len (n:=c.Refs[i].No) (by omega)
    have q2:=vt_len (n:=c.Refs[i].Gen) (by omega)
    unfold S_spec_CheckText_1
    simp only [dlt hi,if_true,at?_nat hi,ob,w64_succ (show i < 9223372036854775807 by omega)]
    rw [spec_var (by omega) (by omega),ob,cat?_ok (by omega),ob,spec_var (by omega) (by omega),ob,cat?_ok (by simp; omega),ob]
    simp [refT]
   ·intro a
    unfold S_spec_CheckText_1
    simp
  simp only [if_true]
  rw [spec_var (by omega) (by omega),ob,spec_var (by omega) (by omega),ob,cat?_ok (by omega),ob,spec_var (by omega) (by omega),ob,cat?_ok (by simp; omega),ob,spec_var (by omega) (by omega),ob,cat?_ok (by simp; omega),ob,spec_var (by omega) (by omega),ob,cat?_ok (by simp; omega),ob]
  rw [show vt c.Stamp ++ vt c.NextGen ++ vt c.NextSeq ++ vt c.NextValid ++ vt c.Refs.length = ctHead c from rfl,hl,ob,spec_sealed (by omega),ob]
  unfold sealed
  rw [if_neg (by omega)]
  simp only []
  rw [spec_short (by rw [List.length_append,sealL_len]; omega),ob]
  show _ = some (if 128 < (ctOut c).length then ([],false) else (ctOut c,true))
  unfold ctOut
  by_cases hc : 128 < (short (ctBody c ++ sealL (ctBody c))).length
  ·have hc' : (128 : Int) < ((short (ctBody c ++ sealL (ctBody c))).length : Int):=by omega
   rw [if_pos hc]; simp [hc']
  ·have hc' : ¬ (128 : Int) < ((short (ctBody c ++ sealL (ctBody c))).length : Int):=by omega
   rw [if_neg hc]; simp [hc']
theorem impl_checkText {c : TCheck} (h : c.Refs.length ≤ 1048576) : F_impl_CheckText c = some (checkText c):=by
 unfold F_impl_CheckText checkText
 rw [impl_checkOk h,ob]
 cases hk : checkOk c with
 | false=>rfl
 | true =>
  obtain ⟨⟨h1,h2,h3,h4⟩,h5,h6⟩:=checkOk_rng hk
  have l1:=vt_len (n:=c.Stamp) (by omega)
  have l2:=vt_len (n:=c.NextGen) (by omega)
  have l3:=vt_len (n:=c.NextSeq) (by omega)
  have l4:=vt_len (n:=c.NextValid) (by omega)
  have l5:=vt_len (n:=c.Refs.length) (by omega)
  have lb:=ctBody_len hk
  have hl : iter (S_impl_CheckText_1 c) (ctHead c,0) = some (ctBody c):=by
   refine cat_loop (l:=c.Refs) (f:=refT) (b:=297) ?_ ?_ ?_
   ·intro i hi
    have h7:=fm_len (f:=refT) (k:=22) (c.Refs.take i) (fun r hr=>refT_len (h6 r (List.mem_of_mem_take hr)))
    have h8:=ctHead_len hk
    simp only [List.length_append,List.length_take] at h7 ⊢
    omega
   ·intro i hi a ha
    have hr:=h6 _ (List.getElem_mem hi)
    have q1:=vt_len (n:=c.Refs[i].No) (by omega)
    have q2:=vt_len (n:=c.Refs[i].Gen) (by omega)
    unfold S_impl_CheckText_1
    simp only [dlt hi,if_true,at?_nat hi,ob,w64_succ (show i < 9223372036854775807 by omega)]
    rw [impl_var (by omega) (by omega),ob,impl_var (by omega) (by omega),ob,cat?_ok (by omega),ob,cat?_ok (by simp; omega),ob]
    simp [refT]
   ·intro a
    unfold S_impl_CheckText_1
    simp
  simp only [if_true]
  rw [impl_var (by omega) (by omega),ob,impl_var (by omega) (by omega),ob,cat?_ok (by omega),ob,impl_var (by omega) (by omega),ob,cat?_ok (by simp; omega),ob,impl_var (by omega) (by omega),ob,cat?_ok (by simp; omega),ob,impl_var (by omega) (by omega),ob,cat?_ok (by simp; omega),ob]
  rw [show vt c.Stamp ++ vt c.NextGen ++ vt c.NextSeq ++ vt c.NextValid ++ vt c.Refs.length = ctHead c from rfl,hl,ob,impl_seal (by omega),ob,cat?_ok (by rw [sealL_len]; omega),ob]
  have e4 : (ctBody c ++ sealL (ctBody c)).length = (ctBody c).length + 4:=by rw [List.length_append,sealL_len]
  have q1:=vt_len (n:=((ctBody c ++ sealL (ctBody c)).length : Nat)) (by omega)
  rw [impl_var (by omega) (by omega),ob,cat?_ok (by omega),ob]
  show _ = some (if 128 < (ctOut c).length then ([],false) else (ctOut c,true))
  rw [show vt ((ctBody c ++ sealL (ctBody c)).length : Nat) ++ (ctBody c ++ sealL (ctBody c)) = ctOut c from rfl]
  by_cases hc : 128 < (ctOut c).length
  ·rw [if_pos hc,if_pos (by simp; omega)]
  ·rw [if_neg hc,if_neg (by simp; omega)]
theorem ofI_toNat (b : UInt8) : ofI (b.toNat : Int) = b:=by
 simp [ofI]
theorem toNat_ofI {n : Nat} (h : n < 256) : (ofI (n : Int)).toNat = n:=by
 simp [ofI]; omega
def dig : Nat → List UInt8 → Option (Nat × Nat)
 | 0,_=>none
 | _ + 1,[]=>none
 | f + 1,b :: r=>if b.toNat < 128 then some (b.toNat,1) else match dig f r with
  | some x=>some (b.toNat - 128 + 128 * x.1,x.2 + 1)
  | none=>none
theorem dig_len : ∀ {f : Nat} {r : List UInt8} {x : Nat × Nat},dig f r = some x → 1 ≤ x.2 ∧ x.2 ≤ r.length ∧ x.2 ≤ f ∧ x.1 < 128 ^ x.2
 | 0,_,_,h=>by simp [dig] at h
 | _ + 1,[],_,h=>by simp [dig] at h
 | f + 1,b :: r,x,h=>by
  simp only [dig] at h
  split at h
  ·cases h; simp; omega
  ·split at h
   ·rename_i y hy
    cases h
    obtain ⟨h1,h2,h3,h4⟩:=dig_len hy
    have:=b.toNat_lt
    refine ⟨by simp,by simpa using h2,by simpa using h3,?_⟩
    show _ < 128 ^ (y.2 + 1)
    rw [Nat.pow_succ]
    simp only []
    omega
   ·cases h
theorem dig_zero : ∀ {f : Nat} {r : List UInt8} {x : Nat × Nat},dig f r = some x → x.1 = 0 → r[x.2 - 1]? = some 0
 | 0,_,_,h,_=>by simp [dig] at h
 | _ + 1,[],_,h,_=>by simp [dig] at h
 | f + 1,b :: r,x,h,h0=>by
  simp only [dig] at h
  split at h
  ·cases h
   simp only at h0
   simp
   exact UInt8.toNat_inj.1 h0
  ·split at h
   ·rename_i y hy
    cases h
    obtain ⟨h1,_⟩:=dig_len hy
    have:=dig_zero hy (by simp only at h0; omega)
    obtain ⟨c,hc⟩ : ∃ c,y.2 = c + 1:=⟨y.2 - 1,by omega⟩
    simp only [hc,Nat.add_sub_cancel] at this ⊢
    simpa using this
   ·cases h
theorem dig_canon : ∀ {f : Nat} {r : List UInt8} {x : Nat × Nat},dig f r = some x → ((vtl x.1).map ofI = r.take x.2 ↔ ¬ (1 < x.2 ∧ r[x.2 - 1]? = some 0))
 | 0,_,_,h=>by simp [dig] at h
 | _ + 1,[],_,h=>by simp [dig] at h
 | f + 1,b :: r,x,h=>by
  simp only [dig] at h
  split at h
  ·cases h
   rw [vtl_small (by simp only; omega)]
   simp [ofI_toNat]
  ·split at h
   ·rename_i hb y hy
    cases h
    have hl:=b.toNat_lt
    obtain ⟨h1,h2,_⟩:=dig_len hy
    have ih:=dig_canon hy
    obtain ⟨c,hc⟩ : ∃ c,y.2 = c + 1:=⟨y.2 - 1,by omega⟩
    simp only []
    by_cases h0 : y.1 = 0
    ·have hz:=dig_zero hy h0
     rw [hc] at hz
     simp only [Nat.add_sub_cancel] at hz
     rw [h0,vtl_small (by omega)]
     constructor
     ·intro e
      have:=congrArg List.length e
      rw [List.length_take] at this
      simp only [List.length_map,List.length_cons,List.length_nil] at this
      omega
     ·intro e
      refine absurd ⟨by omega,?_⟩ e
      simp only [Nat.add_sub_cancel,hc]
      simpa using hz
    ·have e1 : (b.toNat - 128 + 128 * y.1) % 128 = b.toNat - 128:=by omega
     have e2 : (b.toNat - 128 + 128 * y.1) / 128 = y.1:=by omega
     rw [vtl_big (by omega),e1,e2]
     have e3 : ofI ((b.toNat - 128 + 128 : Nat) : Int) = b:=by
      rw [show b.toNat - 128 + 128 = b.toNat by omega]; exact ofI_toNat b
     simp only [List.map_cons,e3,List.take_succ_cons,List.cons.injEq,true_and,ih,Nat.add_sub_cancel]
     rw [hc]
     simp only [Nat.add_sub_cancel,List.getElem?_cons_succ]
     constructor
     ·intro hh he
      cases c with
      | zero =>
       cases f with
       | zero=>simp [dig] at hy
       | succ f =>
        cases r with
        | nil=>simp at h2; omega
        | cons b2 r =>
         simp at he
         subst he
         simp [dig] at hy
         rw [← hy] at h0
         exact h0 rfl
      | succ c=>exact hh ⟨by omega,he.2⟩
     ·intro hh he
      exact hh ⟨by omega,he.2⟩
   ·cases h
theorem vtl_len' : ∀ (k n : Nat),n < 128 ^ (k + 1) → (vtl n).length ≤ k + 1
 | 0,n,h=>by rw [vtl_small (by simp at h; omega)]; simp
 | k + 1,n,h=>by
  by_cases hb : 127 < n
  ·rw [vtl_big hb]
   have:=vtl_len' k (n / 128) (by rw [Nat.pow_succ] at h; exact Nat.div_lt_of_lt_mul (by rw [Nat.mul_comm]; exact h))
   simp; omega
  ·rw [vtl_small (by omega)]; simp
theorem dig_vtl : ∀ (f n : Nat) (r : List UInt8),(vtl n).length ≤ f → dig f ((vtl n).map ofI ++ r) = some (n,(vtl n).length)
 | 0,n,r,h=>by
  exfalso
  unfold vtl at h
  split at h <;> simp at h
 | f + 1,n,r,h=>by
  by_cases hb : 127 < n
  ·rw [vtl_big hb] at h ⊢
   have ih:=dig_vtl f (n / 128) r (by simpa using h)
   simp only [List.map_cons,List.cons_append,dig,toNat_ofI (show n % 128 + 128 < 256 by omega)]
   rw [if_neg (by omega),ih]
   simp; omega
  ·rw [vtl_small (by omega)]
   simp only [List.map_cons,List.map_nil,List.cons_append,dig,toNat_ofI (show n < 256 by omega)]
   rw [if_pos (by omega)]
   simp
theorem vt_nat (n : Nat) : vt (n : Int) = (vtl n).map ofI:=by
 unfold vt; rw [if_pos (by omega)]; simp
def rv (t : List UInt8) (a : Nat) : Option (Nat × Nat):=match dig 5 (t.drop a) with
 | some x=>if x.1 ≤ 1000000000 ∧ vt (x.1 : Int) = (t.drop a).take x.2 then some (x.1,a + x.2) else none
 | none=>none
def rvR (o : Option (Nat × Nat)) : Int × Int × Bool:=match o with
 | some x=>((x.1 : Int),(x.2 : Int),true)
 | none=>(0,0,false)
theorem rv_vt {t : List UInt8} {a n : Nat} {r : List UInt8} (h : t.drop a = vt (n : Int) ++ r) (hn : n ≤ 1000000000) : rv t a = some (n,a + (vt (n : Int)).length):=by
 have hl : (vtl n).length ≤ 5:=vtl_len' 4 n (by omega)
 unfold rv
 rw [h,vt_nat,dig_vtl 5 n r hl]
 simp [hn,vt_nat]
theorem rv_bnd {t : List UInt8} {a : Nat} {x : Nat × Nat} (h : rv t a = some x) : a < x.2 ∧ x.2 ≤ t.length ∧ x.1 ≤ 1000000000:=by
 unfold rv at h
 split at h
 ·rename_i y hy
  split at h
  ·rename_i hc
   cases h
   obtain ⟨h1,h2,_⟩:=dig_len hy
   simp at h2
   exact ⟨by simp only; omega,by simp only; omega,hc.1⟩
  ·cases h
 ·cases h
theorem andv127' (b : UInt8) : andv .i64 (b.toNat : Int) 127 = ((b.toNat % 128 : Nat) : Int):=andv127 (by have:=b.toNat_lt; omega)
theorem orv_add {a x j : Nat} (ha : a < 2 ^ j) (h : a + x * 2 ^ j < 9223372036854775808) : orv .i64 (a : Int) ((x * 2 ^ j : Nat) : Int) = ((a + x * 2 ^ j : Nat) : Int):=by
 show IntKind.i64.wrap ((BitVec.ofInt 64 (a : Int) ||| BitVec.ofInt 64 ((x * 2 ^ j : Nat) : Int)).toNat : Int) = _
 have e1 : BitVec.ofInt 64 (a : Int) = BitVec.ofNat 64 a:=by simp
 have e2 : BitVec.ofInt 64 ((x * 2 ^ j : Nat) : Int) = BitVec.ofNat 64 (x * 2 ^ j):=BitVec.ofInt_natCast ..
 rw [e1,e2]
 have e3 : (BitVec.ofNat 64 a ||| BitVec.ofNat 64 (x * 2 ^ j)).toNat = a + x * 2 ^ j:=by
  rw [BitVec.toNat_or]
  simp only [BitVec.toNat_ofNat]
  rw [Nat.mod_eq_of_lt (a:=a) (by omega),Nat.mod_eq_of_lt (a:=x * 2 ^ j) (by omega),Nat.or_comm,Nat.mul_comm x,← Nat.two_pow_add_eq_or_of_lt ha]
  omega
 rw [e3]
 exact w64_nat (by omega)
theorem p128 (k : Nat) : 128 ^ k = 2 ^ (7 * k):=by rw [Nat.pow_mul]
theorem impl_rv_loop {t : List UInt8} {a : Nat} (ht : t.length ≤ 4611686018427387904) (ha : a ≤ t.length) : ∀ (f k acc : Nat),f + k = 5 → acc < 128 ^ k →
  (iter (S_impl_ReadVar_1 t (a : Int)) ((acc : Int),(k : Int))).bind (Sum.elim (fun r=>some r) (fun _=>some (0,0,false))) = some (match dig f (t.drop (a + k)) with
   | none=>(0,0,false)
   | some x=>if 1000000000 < acc + x.1 * 128 ^ k ∨ ((t.drop (a + k))[x.2 - 1]? = some 0 ∧ 1 < k + x.2) then (0,0,false) else (((acc + x.1 * 128 ^ k : Nat) : Int),((a + k + x.2 : Nat) : Int),true))
 | 0,k,acc,hk,_=>by
  have : k = 5:=by omega
  subst this
  rw [iter_done (r:=.inr ()) (by unfold S_impl_ReadVar_1; simp)]
  simp [dig]
 | f + 1,k,acc,hk,hacc=>by
  have ew : w64 ((a : Int) + (k : Int)) = ((a + k : Nat) : Int):=by rw [w64_id (by omega) (by omega)]; omega
  by_cases hlt : a + k < t.length
  ·have hd : t.drop (a + k) = t[a + k] :: t.drop (a + k + 1):=List.drop_eq_getElem_cons hlt
   have hb:=(t[a + k]).toNat_lt
   generalize hbv : t[a + k] = b at hd hb
   have e7 : w64 (7 * (k : Int)) = ((7 * k : Nat) : Int):=by rw [w64_id (by omega) (by omega)]; omega
   have hpk : 128 ^ k ≤ 128 ^ 4:=Nat.pow_le_pow_right (by omega) (by omega)
   have hpp : (b.toNat % 128) * 128 ^ k ≤ 127 * 128 ^ 4:=Nat.mul_le_mul (by omega) hpk
   have es : shl? .i64 ((b.toNat % 128 : Nat) : Int) ((7 * k : Nat) : Int) = some (((b.toNat % 128) * 2 ^ (7 * k) : Nat) : Int):=by
    unfold shl?
    rw [if_neg (by omega)]
    have hm : min ((7 * k : Nat) : Int).toNat IntKind.i64.bits = 7 * k:=by
     simp [IntKind.bits]; omega
    rw [hm]
    have : ((b.toNat % 128 : Nat) : Int) * 2 ^ (7 * k) = (((b.toNat % 128) * 2 ^ (7 * k) : Nat) : Int):=by simp
    rw [this]
    exact congrArg some (w64_nat (by rw [← p128]; omega))
   have eo : orv .i64 (acc : Int) (((b.toNat % 128) * 2 ^ (7 * k) : Nat) : Int) = ((acc + (b.toNat % 128) * 128 ^ k : Nat) : Int):=by
    rw [orv_add (by rw [← p128]; exact hacc) (by rw [← p128]; omega),p128]
   have eb : w64 ((b.toNat : Nat) : Int) = (b.toNat : Int):=w64_nat (by omega)
   have hst : S_impl_ReadVar_1 t (a : Int) ((acc : Int),(k : Int)) = if 127 < b.toNat then some (.inl (((acc + (b.toNat % 128) * 128 ^ k : Nat) : Int),((k + 1 : Nat) : Int))) else if (b.toNat = 0 ∧ 0 < k) ∨ 1000000000 < acc + (b.toNat % 128) * 128 ^ k then some (.inr (.inl (0,0,false))) else some (.inr (.inl (((acc + (b.toNat % 128) * 128 ^ k : Nat) : Int),((a + k + 1 : Nat) : Int),true))):=by
    unfold S_impl_ReadVar_1
    simp only [show decide ((k : Int) < 5) = true from by simp; omega,if_true,ew,show decide (((a + k : Nat) : Int) < (t.length : Int)) = true from by simp; omega,ob,bt?_nat hlt,hbv,eb,andv127',e7,es,eo,w64_succ (show k < 9223372036854775807 by omega),w64_succ (show a + k < 9223372036854775807 by omega)]
    by_cases g1 : 127 < b.toNat
    ·rw [if_pos g1,if_pos (by simp; omega)]
    ·rw [if_neg g1,if_neg (by simp; omega)]
     generalize acc + b.toNat % 128 * 128 ^ k = M
     by_cases g2 : b.toNat = 0 <;> by_cases g3 : 0 < k <;> by_cases g4 : 1000000000 < M
     all_goals
      have g4' : decide ((M : Int) > 1000000000) = decide (1000000000 < M):=by
       rw [decide_eq_decide]; omega
      rw [g4']
      have g2' : ((b.toNat : Int) == 0) = decide (b.toNat = 0):=by
       rw [Bool.eq_iff_iff]; simp
      rw [g2']
      simp [g2,g3,g4]
   by_cases g1 : 127 < b.toNat
   ·rw [if_pos g1] at hst
    have hq : (b.toNat % 128) * 128 ^ k ≤ 127 * 128 ^ k:=Nat.mul_le_mul_right _ (by omega)
    rw [iter_next hst,impl_rv_loop ht ha f (k + 1) _ (by omega) (by rw [Nat.pow_succ]; omega),hd]
    simp only [dig,if_neg (show ¬ b.toNat < 128 by omega)]
    have ed : t.drop (a + (k + 1)) = t.drop (a + k + 1):=by rw [Nat.add_assoc]
    rw [ed]
    cases hdg : dig f (t.drop (a + k + 1)) with
    | none=>rfl
    | some x =>
     obtain ⟨h1,_⟩:=dig_len hdg
     obtain ⟨c,hc⟩ : ∃ c,x.2 = c + 1:=⟨x.2 - 1,by omega⟩
     have ev : acc + b.toNat % 128 * 128 ^ k + x.1 * 128 ^ (k + 1) = acc + (b.toNat - 128 + 128 * x.1) * 128 ^ k:=by
      rw [show b.toNat % 128 = b.toNat - 128 by omega,Nat.pow_succ,Nat.add_mul]
      rw [show 128 * x.1 * 128 ^ k = x.1 * (128 ^ k * 128) by rw [Nat.mul_comm 128,Nat.mul_assoc,Nat.mul_comm 128]]
      omega
     have ei : (b :: t.drop (a + k + 1))[x.2 + 1 - 1]? = (t.drop (a + k + 1))[x.2 - 1]?:=by
      rw [hc]; simp
     have e4 : a + (k + 1) + x.2 = a + k + (x.2 + 1):=by omega
     have e5 : k + 1 + x.2 = k + (x.2 + 1):=by omega
     simp only [ev,ei,e4,e5]
   ·rw [if_neg g1] at hst
    rw [hd]
    simp only [dig,if_pos (show b.toNat < 128 by omega)]
    have em : b.toNat % 128 = b.toNat:=by omega
    rw [em] at hst
    have hz : (some b = some (0 : UInt8)) ↔ b.toNat = 0:=by
     rw [Option.some_inj]
     exact ⟨fun h=>by rw [h]; rfl,fun h=>UInt8.toNat_inj.1 (by simpa using h)⟩
    by_cases g2 : (b.toNat = 0 ∧ 0 < k) ∨ 1000000000 < acc + b.toNat * 128 ^ k
    ·rw [if_pos g2] at hst
     rw [iter_done hst,if_pos]
     ·rfl
     ·rcases g2 with g | g
      ·exact .inr ⟨by simpa using hz.2 g.1,by omega⟩
      ·exact .inl g
    ·rw [if_neg g2] at hst
     rw [iter_done hst,if_neg]
     ·rfl
     ·rintro (g | g)
      ·exact g2 (.inr g)
      ·exact g2 (.inl ⟨hz.1 (by simpa using g.1),by omega⟩)
  ·rw [iter_done (r:=.inr ()) (by unfold S_impl_ReadVar_1; simp only [ew]; rw [show decide (((a + k : Nat) : Int) < (t.length : Int)) = false from by simp; omega]; simp)]
   rw [List.drop_eq_nil_of_le (by omega)]
   simp [dig]
theorem spec_rv_loop {t : List UInt8} {a : Nat} (ht : t.length ≤ 4611686018427387904) (ha : a ≤ t.length) : ∀ (f k acc : Nat),f + k = 5 → acc < 128 ^ k →
  (iter (S_spec_ReadVar_1 t (a : Int)) ((acc : Int),((128 ^ k : Nat) : Int),((a + k : Nat) : Int))).bind (Sum.elim (fun r=>some r) (fun _=>some (0,0,false))) = some (match dig f (t.drop (a + k)) with
   | none=>(0,0,false)
   | some x=>if 1000000000 < acc + x.1 * 128 ^ k ∨ vt ((acc + x.1 * 128 ^ k : Nat) : Int) ≠ (t.drop a).take (k + x.2) then (0,0,false) else (((acc + x.1 * 128 ^ k : Nat) : Int),((a + k + x.2 : Nat) : Int),true))
 | 0,k,acc,hk,_=>by
  have : k = 5:=by omega
  subst this
  have ew : w64 ((a : Int) + 5) = ((a + 5 : Nat) : Int):=by rw [w64_id (by omega) (by omega)]; omega
  rw [iter_done (r:=.inr ()) (by
   unfold S_spec_ReadVar_1
   simp only [ew]
   rw [show decide (((a + 5 : Nat) : Int) < ((a + 5 : Nat) : Int)) = false from by simp]
   cases decide (((a + 5 : Nat) : Int) < (t.length : Int)) <;> simp)]
  simp [dig]
 | f + 1,k,acc,hk,hacc=>by
  have ew : w64 ((a : Int) + 5) = ((a + 5 : Nat) : Int):=by rw [w64_id (by omega) (by omega)]; omega
  by_cases hlt : a + k < t.length
  ·have hd : t.drop (a + k) = t[a + k] :: t.drop (a + k + 1):=List.drop_eq_getElem_cons hlt
   have hb:=(t[a + k]).toNat_lt
   generalize hbv : t[a + k] = b at hd hb
   have hpk : 128 ^ k ≤ 128 ^ 4:=Nat.pow_le_pow_right (by omega) (by omega)
   have hpp : (b.toNat % 128) * 128 ^ k ≤ 127 * 128 ^ 4:=Nat.mul_le_mul (by omega) hpk
   have hq : (b.toNat % 128) * 128 ^ k ≤ 127 * 128 ^ k:=Nat.mul_le_mul_right _ (by omega)
   have eb : w64 ((b.toNat : Nat) : Int) = (b.toNat : Int):=w64_nat (by omega)
   have em : w64 (Int.tmod (b.toNat : Int) 128 * ((128 ^ k : Nat) : Int)) = (((b.toNat % 128) * 128 ^ k : Nat) : Int):=by
    rw [Int.tmod_eq_emod_of_nonneg (by omega)]
    have : ((b.toNat : Int) % 128) * ((128 ^ k : Nat) : Int) = (((b.toNat % 128) * 128 ^ k : Nat) : Int):=by simp
    rw [this]
    exact w64_nat (by omega)
   have ea : w64 ((acc : Int) + (((b.toNat % 128) * 128 ^ k : Nat) : Int)) = ((acc + (b.toNat % 128) * 128 ^ k : Nat) : Int):=by
    rw [← Int.natCast_add]; exact w64_nat (by omega)
   have e128 : w64 (((128 ^ k : Nat) : Int) * 128) = ((128 ^ (k + 1) : Nat) : Int):=by
    rw [show ((128 ^ k : Nat) : Int) * 128 = ((128 ^ (k + 1) : Nat) : Int) by rw [Nat.pow_succ]; simp]
    exact w64_nat (by rw [Nat.pow_succ]; omega)
   have hsub : sub? t (a : Int) ((a + k + 1 : Nat) : Int) = some ((t.drop a).take (k + 1)):=by
    unfold sub?
    rw [if_pos (by omega)]
    have e1 : ((a + k + 1 : Nat) : Int).toNat = a + (k + 1):=by omega
    have e2 : (a : Int).toNat = a:=by omega
    rw [e1,e2,List.drop_take]
    congr 2
    omega
   have hst : S_spec_ReadVar_1 t (a : Int) ((acc : Int),((128 ^ k : Nat) : Int),((a + k : Nat) : Int)) = if 127 < b.toNat then some (.inl (((acc + (b.toNat % 128) * 128 ^ k : Nat) : Int),((128 ^ (k + 1) : Nat) : Int),((a + k + 1 : Nat) : Int))) else if 1000000000 < acc + (b.toNat % 128) * 128 ^ k ∨ vt ((acc + (b.toNat % 128) * 128 ^ k : Nat) : Int) ≠ (t.drop a).take (k + 1) then some (.inr (.inl (0,0,false))) else some (.inr (.inl (((acc + (b.toNat % 128) * 128 ^ k : Nat) : Int),((a + k + 1 : Nat) : Int),true))):=by
    unfold S_spec_ReadVar_1
    simp only [show decide (((a + k : Nat) : Int) < (t.length : Int)) = true from by simp; omega,if_true,ew,show decide (((a + k : Nat) : Int) < ((a + 5 : Nat) : Int)) = true from by simp; omega,ob,bt?_nat hlt,hbv,eb,em,ea,e128,hsub,w64_succ (show a + k < 9223372036854775807 by omega)]
    rw [spec_var (by omega) (by omega),ob]
    generalize acc + b.toNat % 128 * 128 ^ k = M
    by_cases g1 : 127 < b.toNat
    ·rw [if_pos g1,if_neg (by simp; omega)]
    ·rw [if_neg g1,if_pos (by simp; omega)]
     have g4' : decide ((M : Int) > 1000000000) = decide (1000000000 < M):=by
      rw [decide_eq_decide]; omega
     rw [g4']
     by_cases g3 : 1000000000 < M <;> by_cases g4 : vt (M : Int) = (t.drop a).take (k + 1) <;> simp [g3,g4]
   by_cases g1 : 127 < b.toNat
   ·rw [if_pos g1] at hst
    have ih:=spec_rv_loop ht ha f (k + 1) (acc + (b.toNat % 128) * 128 ^ k) (by omega) (by rw [Nat.pow_succ]; omega)
    rw [show a + (k + 1) = a + k + 1 by omega] at ih
    rw [iter_next hst,ih,hd]
    simp only [dig,if_neg (show ¬ b.toNat < 128 by omega)]
    cases hdg : dig f (t.drop (a + k + 1)) with
    | none=>rfl
    | some x =>
     have ev : acc + b.toNat % 128 * 128 ^ k + x.1 * 128 ^ (k + 1) = acc + (b.toNat - 128 + 128 * x.1) * 128 ^ k:=by
      rw [show b.toNat % 128 = b.toNat - 128 by omega,Nat.pow_succ,Nat.add_mul]
      rw [show 128 * x.1 * 128 ^ k = x.1 * (128 ^ k * 128) by rw [Nat.mul_comm 128,Nat.mul_assoc,Nat.mul_comm 128]]
      omega
     have e4 : a + k + 1 + x.2 = a + k + (x.2 + 1):=by omega
     have e5 : k + 1 + x.2 = k + (x.2 + 1):=by omega
     simp only [ev,e4,e5]
   ·rw [if_neg g1] at hst
    rw [hd]
    simp only [dig,if_pos (show b.toNat < 128 by omega)]
    have em : b.toNat % 128 = b.toNat:=by omega
    rw [em] at hst
    by_cases g2 : 1000000000 < acc + b.toNat * 128 ^ k ∨ vt ((acc + b.toNat * 128 ^ k : Nat) : Int) ≠ (t.drop a).take (k + 1)
    ·rw [if_pos g2] at hst
     rw [iter_done hst,if_pos g2]; rfl
    ·rw [if_neg g2] at hst
     rw [iter_done hst,if_neg g2]; rfl
  ·rw [iter_done (r:=.inr ()) (by unfold S_spec_ReadVar_1; rw [show decide (((a + k : Nat) : Int) < (t.length : Int)) = false from by simp; omega]; simp)]
   rw [List.drop_eq_nil_of_le (by omega)]
   simp [dig]
theorem rv_over {t : List UInt8} {a : Nat} (h : t.length < a) : rv t a = none:=by
 unfold rv
 rw [List.drop_eq_nil_of_le (by omega)]
 simp [dig]
theorem spec_rv {t : List UInt8} (ht : t.length ≤ 4611686018427387904) (a : Nat) : F_spec_ReadVar t (a : Int) = some (rvR (rv t a)):=by
 unfold F_spec_ReadVar
 rw [spec_in,ob]
 by_cases ha : a ≤ t.length
 ·rw [if_pos (by unfold inR; simp; omega)]
  have:=spec_rv_loop ht ha 5 0 0 (by omega) (by simp)
  simp only [Nat.pow_zero,Nat.mul_one,Nat.zero_add,Nat.add_zero] at this
  rw [show ((0 : Nat) : Int) = 0 from rfl,show ((1 : Nat) : Int) = 1 from rfl] at this
  rw [this]
  unfold rv rvR
  cases hd : dig 5 (t.drop a) with
  | none=>rfl
  | some x =>
   simp only []
   by_cases g1 : 1000000000 < x.1
   ·rw [if_pos (.inl g1),if_neg (by omega)]
   ·by_cases g2 : vt (x.1 : Int) = (t.drop a).take x.2
    ·rw [if_neg (by rintro (g | g); exact g1 g; exact g g2),if_pos ⟨by omega,g2⟩]
    ·rw [if_pos (.inr g2),if_neg (fun g=>g2 g.2)]
 ·rw [if_neg (by unfold inR; simp; omega),rv_over (by omega)]; rfl
theorem impl_rv {t : List UInt8} (ht : t.length ≤ 4611686018427387904) (a : Nat) : F_impl_ReadVar t (a : Int) = some (rvR (rv t a)):=by
 unfold F_impl_ReadVar
 rw [impl_in,ob]
 by_cases ha : a ≤ t.length
 ·rw [if_pos (by unfold inR; simp; omega)]
  have:=impl_rv_loop ht ha 5 0 0 (by omega) (by simp)
  simp only [Nat.pow_zero,Nat.mul_one,Nat.zero_add,Nat.add_zero] at this
  rw [show ((0 : Nat) : Int) = 0 from rfl] at this
  rw [this]
  unfold rv rvR
  cases hd : dig 5 (t.drop a) with
  | none=>rfl
  | some x =>
   have hc:=dig_canon hd
   rw [← vt_nat] at hc
   simp only []
   by_cases g1 : 1000000000 < x.1
   ·rw [if_pos (.inl g1),if_neg (by omega)]
   ·by_cases g2 : vt (x.1 : Int) = (t.drop a).take x.2
    ·have:=hc.1 g2
     rw [if_neg (by rintro (g | g); exact g1 g; exact this ⟨g.2,g.1⟩),if_pos ⟨by omega,g2⟩]
    ·rw [if_pos,if_neg (fun g=>g2 g.2)]
     refine .inr ?_
     have : ¬ ¬ (1 < x.2 ∧ (t.drop a)[x.2 - 1]? = some 0):=fun h=>g2 (hc.2 h)
     have:=Classical.not_not.1 this
     exact ⟨this.2,this.1⟩
 ·rw [if_neg (by unfold inR; simp; omega),rv_over (by omega)]; rfl
def rs (t : List UInt8) : Option (List UInt8 × Nat):=match rv t 0 with
 | some x=>if x.1 ≤ 20000 ∧ x.2 + x.1 ≤ t.length then some ((t.drop x.2).take x.1,x.2 + x.1) else none
 | none=>none
def rsR (o : Option (List UInt8 × Nat)) : List UInt8 × Int × Bool:=match o with
 | some x=>(x.1,(x.2 : Int),true)
 | none=>([],0,false)
theorem sub?_mid {α : Type} {l : List α} {i n : Nat} (h : i + n ≤ l.length) : sub? l (i : Int) ((i + n : Nat) : Int) = some ((l.drop i).take n):=by
 unfold sub?
 rw [if_pos (by omega)]
 have e1 : ((i + n : Nat) : Int).toNat = i + n:=by omega
 have e2 : (i : Int).toNat = i:=by omega
 rw [e1,e2,List.drop_take]
 congr 2
 omega
theorem rs_some {t : List UInt8} (ht : t.length ≤ 8388608) {n p : Nat} (h2 : p ≤ t.length) (h3 : n ≤ 1000000000) : ((if !true then some true else (if decide ((n : Int) > 20000) then some true else (if decide ((n : Int) > (w64 ((t.length : Int) - (p : Int)))) then some true else some false))) : Option Bool).bind (fun y2=>(if y2 then some (([] : List UInt8),(0 : Int),false) else (sub? t (p : Int) (w64 ((p : Int) + (n : Int)))).bind fun v3=>some (v3,w64 ((p : Int) + (n : Int)),true))) = some (rsR (if n ≤ 20000 ∧ p + n ≤ t.length then some ((t.drop p).take n,p + n) else none)):=by
 have e1 : w64 ((t.length : Int) - (p : Int)) = (t.length : Int) - p:=w64_id (by omega) (by omega)
 have e2 : w64 ((p : Int) + (n : Int)) = ((p + n : Nat) : Int):=by rw [w64_id (by omega) (by omega)]; omega
 rw [e1,e2]
 by_cases g1 : 20000 < n
 ·rw [if_neg (by simp),if_pos (by simp <;> omega),if_neg (by omega)]; rfl
 ·rw [if_neg (by simp),if_neg (by simp <;> omega)]
  by_cases g2 : p + n ≤ t.length
  ·rw [if_neg (by simp <;> omega),if_pos ⟨by omega,g2⟩,ob,if_neg (by simp),sub?_mid g2]; rfl
  ·rw [if_pos (by simp <;> omega),if_neg (by omega)]; rfl
theorem rs_gen {t : List UInt8} (ht : t.length ≤ 8388608) : ((if !(rvR (rv t 0)).2.2 then some true else (if decide ((rvR (rv t 0)).1 > 20000) then some true else (if decide ((rvR (rv t 0)).1 > (w64 ((t.length : Int) - (rvR (rv t 0)).2.1))) then some true else some false))) : Option Bool).bind (fun y2=>(if y2 then some (([] : List UInt8),(0 : Int),false) else (sub? t (rvR (rv t 0)).2.1 (w64 ((rvR (rv t 0)).2.1 + (rvR (rv t 0)).1))).bind fun v3=>some (v3,w64 ((rvR (rv t 0)).2.1 + (rvR (rv t 0)).1),true))) = some (rsR (rs t)):=by
 unfold rs
 cases h : rv t 0 with
 | none=>rfl
 | some x =>
  obtain ⟨h1,h2,h3⟩:=rv_bnd h
  exact rs_some ht h2 h3
theorem spec_rs {t : List UInt8} (ht : t.length ≤ 8388608) : F_spec_ReadShort t 0 = some (rsR (rs t)):=by
 unfold F_spec_ReadShort
 rw [show (0 : Int) = ((0 : Nat) : Int) from rfl,spec_rv (by omega) 0,ob]
 exact rs_gen ht
theorem impl_rs {t : List UInt8} (ht : t.length ≤ 8388608) : F_impl_ReadShort t 0 = some (rsR (rs t)):=by
 unfold F_impl_ReadShort
 rw [show (0 : Int) = ((0 : Nat) : Int) from rfl,impl_rv (by omega) 0,ob]
 exact rs_gen ht
theorem rs_short {s r : List UInt8} (h : s.length ≤ 20000) : rs (short s ++ r) = some (s,(short s).length):=by
 unfold rs
 rw [rv_vt (n:=s.length) (r:=s ++ r) (by simp [short]) (by omega)]
 have hl : (short s).length = (vt (s.length : Int)).length + s.length:=by simp [short]
 simp only [Nat.zero_add]
 rw [if_pos ⟨h,by rw [List.length_append,hl]; omega⟩]
 simp [short]
theorem rs_bnd {t : List UInt8} {x : List UInt8 × Nat} (h : rs t = some x) : x.2 ≤ t.length ∧ x.1.length ≤ 20000:=by
 unfold rs at h
 split at h
 ·rename_i y hy
  split at h
  ·rename_i hc
   cases h
   refine ⟨hc.2,?_⟩
   simp only [List.length_take]
   omega
  ·cases h
 ·cases h
def us (s : List UInt8) : Option (List UInt8):=if 4 ≤ s.length ∧ s.length ≤ 20004 ∧ s.drop (s.length - 4) = sealL (s.take (s.length - 4)) then some (s.take (s.length - 4)) else none
def usR (o : Option (List UInt8)) : List UInt8 × Bool:=match o with
 | some x=>(x,true)
 | none=>([],false)
theorem sub?_tail {α : Type} {l : List α} {i : Nat} (h : i ≤ l.length) : sub? l (i : Int) (l.length : Int) = some (l.drop i):=by
 unfold sub?
 rw [if_pos (by omega)]
 simp
theorem spec_us {s : List UInt8} (hs : s.length ≤ 8388608) : F_spec_Unsealed s = some (usR (us s)):=by
 unfold F_spec_Unsealed us
 by_cases h4 : 4 ≤ s.length
 ·have e : w64 ((s.length : Int) - 4) = ((s.length - 4 : Nat) : Int):=by rw [w64_id (by omega) (by omega)]; omega
  rw [e,if_neg (by simp <;> omega)]
  by_cases h5 : s.length ≤ 20004
  ·rw [if_neg (by simp <;> omega),sub?_tail (by omega),ob,sub?_take (by omega),ob,spec_sumOf (by simp <;> omega),ob,spec_four,ob]
   by_cases h6 : s.drop (s.length - 4) = sealL (s.take (s.length - 4))
   ·rw [if_neg (by simp only [Bool.not_eq_true',beq_eq_false_iff_ne,ne_eq,Classical.not_not]; exact h6),ob,if_neg (by simp),ob,if_pos ⟨h4,h5,h6⟩]; rfl
   ·rw [if_pos (by simp only [Bool.not_eq_true',beq_eq_false_iff_ne,ne_eq]; exact h6),if_neg (fun h=>h6 h.2.2)]; rfl
  ·rw [if_pos (by simp <;> omega),if_neg (by omega)]; rfl
 ·have e : w64 ((s.length : Int) - 4) = (s.length : Int) - 4:=w64_id (by omega) (by omega)
  rw [e,if_pos (by simp <;> omega),if_neg (by omega)]; rfl
theorem impl_us {s : List UInt8} (hs : s.length ≤ 8388608) : F_impl_Unsealed s = some (usR (us s)):=by
 unfold F_impl_Unsealed us
 rw [impl_in,ob]
 by_cases h4 : 4 ≤ s.length
 ·have e : w64 ((s.length : Int) - 4) = ((s.length - 4 : Nat) : Int):=by rw [w64_id (by omega) (by omega)]; omega
  rw [e]
  by_cases h5 : s.length ≤ 20004
  ·rw [if_pos (by rw [inR_iff]; omega),sub?_tail (by omega),ob,sub?_take (by omega),ob,impl_seal (by simp <;> omega),ob]
   by_cases h6 : s.drop (s.length - 4) = sealL (s.take (s.length - 4))
   ·rw [if_neg (by simp only [Bool.not_eq_true',beq_eq_false_iff_ne,ne_eq,Classical.not_not]; exact h6),ob,if_neg (by simp),ob,if_pos ⟨h4,h5,h6⟩]; rfl
   ·rw [if_pos (by simp only [Bool.not_eq_true',beq_eq_false_iff_ne,ne_eq]; exact h6),if_neg (fun h=>h6 h.2.2)]; rfl
  ·rw [if_neg (by rw [inR_iff]; omega),if_neg (by omega)]; rfl
 ·have e : w64 ((s.length : Int) - 4) = (s.length : Int) - 4:=w64_id (by omega) (by omega)
  rw [e,if_neg (by rw [inR_iff]; omega),if_neg (by omega)]; rfl
theorem us_sealed {b : List UInt8} (h : b.length ≤ 20000) : us (b ++ sealL b) = some b:=by
 have hl : (b ++ sealL b).length = b.length + 4:=by rw [List.length_append,sealL_len]
 unfold us
 rw [hl,Nat.add_sub_cancel,List.take_left,List.drop_left,if_pos ⟨by omega,by omega,rfl⟩]
theorem us_bnd {s x : List UInt8} (h : us s = some x) : x.length ≤ s.length:=by
 unfold us at h
 split at h
 ·cases h; simp
 ·cases h
def chunk (T : List UInt8) (j : Nat) : List UInt8:=(T.drop (32 * j)).take 32
theorem chunk_len (T : List UInt8) (j : Nat) : (chunk T j).length = min 32 (T.length - 32 * j):=by simp [chunk]
theorem sub_chunk {T : List UInt8} {j : Nat} (hj : 32 * j < T.length) : sub? T ((32 * j : Nat) : Int) ((32 * j + (chunk T j).length : Nat) : Int) = some (chunk T j):=by
 have hl:=chunk_len T j
 rw [sub?_mid (by omega)]
 congr 1
 rw [hl]
 unfold chunk
 by_cases c : 32 ≤ T.length - 32 * j
 ·rw [Nat.min_eq_left c]
 ·rw [Nat.min_eq_right (by omega),List.take_of_length_le (by simp),List.take_of_length_le (by simp; omega)]
def wb1 (s : Nat) (T : List UInt8) (j : Nat) (d : TDisk) : Option TDisk:=if s + j < d.Sectors.length ∧ (rsec d (s + j)).length = 32 then wr d ((s + j : Nat) : Int) (chunk T j ++ (rsec d (s + j)).drop (chunk T j).length) else none
def wbN (s : Nat) (T : List UInt8) : Nat → Nat → TDisk → Option TDisk
 | 0,_,d=>some d
 | n + 1,j,d=>if 32 * j < T.length then (match wb1 s T j d with | some d'=>wbN s T n (j + 1) d' | none=>none) else some d
theorem wb1_ok {s : Nat} {T : List UInt8} {j : Nat} {d d' : TDisk} (h : wb1 s T j d = some d') : diskOk d' = true:=by
 unfold wb1 at h
 split at h
 ·exact (wr_ok h).1
 ·cases h
theorem wbN_ok {s : Nat} {T : List UInt8} : ∀ {n j : Nat} {d d' : TDisk},diskOk d = true → wbN s T n j d = some d' → diskOk d' = true
 | 0,j,d,d',hd,h=>by simp only [wbN,Option.some.injEq] at h; subst h; exact hd
 | n + 1,j,d,d',hd,h=>by
  rw [wbN] at h
  split at h
  ·split at h
   ·rename_i d1 h1
    exact wbN_ok (wb1_ok h1) h
   ·cases h
  ·cases h; exact hd
theorem spec_wb_step {x0 d : TDisk} {T : List UInt8} {s j : Nat} (hx : DkS x0) (hd : diskOk d = true) (hT : T.length ≤ 100000) (hs : s ≤ 1000) (hj : 32 * j < T.length) :
  S_spec_WriteBytes_1 x0 (s : Int) 0 T (((32 * j : Nat) : Int),d.Sectors,d.Cache) = some (match wb1 s T j d with | some d'=>.inl (((32 * j + (chunk T j).length : Nat) : Int),d'.Sectors,d'.Cache) | none=>.inr (.inl (x0,false))):=by
 have hD:=DkS.ofOk hd
 have hl:=chunk_len T j
 have w0 : w64 (0 + ((32 * j : Nat) : Int)) = ((32 * j : Nat) : Int):=by rw [w64_id (by omega) (by omega)]; omega
 have t0 : Int.tmod ((32 * j : Nat) : Int) 32 = 0:=by rw [Int.tmod_eq_emod_of_nonneg (by omega)]; omega
 have t1 : Int.tdiv ((32 * j : Nat) : Int) 32 = (j : Int):=by rw [Int.tdiv_eq_ediv_of_nonneg (by omega)]; omega
 have w1 : w64 (32 - 0) = 32:=by rw [w64_id (by omega) (by omega)]; rfl
 have w2 : w64 ((T.length : Int) - ((32 * j : Nat) : Int)) = (T.length : Int) - ((32 * j : Nat) : Int):=w64_id (by omega) (by omega)
 have w3 : w64 (j : Int) = j:=w64_id (by omega) (by omega)
 have w4 : w64 ((s : Int) + (j : Int)) = ((s + j : Nat) : Int):=by rw [w64_id (by omega) (by omega)]; omega
 have hdd : ({ Sectors:=d.Sectors,Cache:=d.Cache } : TDisk) = d:=rfl
 have fin : ∀ m : Int,m = ((chunk T j).length : Int) →
   ((F_spec_ReadSector d ((s + j : Nat) : Int)).bind fun v8=>((if !v8.2 then some true else (if ((v8.1.length : Int) != 32) then some true else some false)) : Option Bool).bind (fun y9=>(if y9 then (F_spec_l03Copy x0).bind fun v17=>some (.inr (.inl (({ Sectors:=v17.Sectors,Cache:=v17.Cache } : TDisk),false))) else (sub? v8.1 0 0).bind fun v10=>(sub? T ((32 * j : Nat) : Int) (w64 (((32 * j : Nat) : Int) + m))).bind fun v11=>(cat? v10 v11).bind fun v12=>(sub? v8.1 (w64 (0 + m)) (v8.1.length : Int)).bind fun v13=>(cat? v12 v13).bind fun v14=>(F_spec_WriteSector d ((s + j : Nat) : Int) v14).bind fun v15=>(if !v15.2 then (F_spec_l03Copy x0).bind fun v16=>some (.inr (.inl (({ Sectors:=v16.Sectors,Cache:=v16.Cache } : TDisk),false))) else some (.inl (w64 (((32 * j : Nat) : Int) + m),v15.1.Sectors,v15.1.Cache))))) : Option ((Int × (List (List UInt8)) × (List TWrite)) ⊕ ((TDisk × Bool) ⊕ ((List (List UInt8)) × (List TWrite))))) = some (match wb1 s T j d with | some d'=>.inl (((32 * j + (chunk T j).length : Nat) : Int),d'.Sectors,d'.Cache) | none=>.inr (.inl (x0,false))):=by
  rintro _ rfl
  have f1 : w64 (((32 * j : Nat) : Int) + ((chunk T j).length : Int)) = ((32 * j + (chunk T j).length : Nat) : Int):=by rw [w64_id (by omega) (by omega)]; omega
  have f2 : w64 (0 + ((chunk T j).length : Int)) = ((chunk T j).length : Int):=by rw [w64_id (by omega) (by omega)]; omega
  rw [spec_readSector hD,ob,f1,f2]
  unfold wb1
  by_cases c1 : s + j < d.Sectors.length
  ·rw [readS_in c1]
   dsimp only
   by_cases c2 : (rsec d (s + j)).length = 32
   ·rw [if_neg (by simp),if_neg (by simp [c2]),ob,if_neg (by simp),if_pos ⟨c1,c2⟩]
    have g1 : sub? (rsec d (s + j)) 0 0 = some []:=by unfold sub?; simp
    rw [g1,ob,sub_chunk hj,ob,cat?_ok (by simp; omega),ob,List.nil_append,sub?_tail (by omega),ob,cat?_ok (by simp; omega),ob,spec_wr hD,ob]
    cases wr d ((s + j : Nat) : Int) (chunk T j ++ (rsec d (s + j)).drop (chunk T j).length) with
    | none=>simp [wrR,spec_copy hx]
    | some d'=>simp [wrR]
   ·rw [if_neg (by simp),if_pos (by simp; omega),ob,if_pos rfl,spec_copy hx,ob,if_neg (fun h=>c2 h.2)]
  ·rw [readS_out (by omega)]
   dsimp only
   rw [if_pos (by simp),ob,if_pos rfl,spec_copy hx,ob,if_neg (fun h=>c1 h.1)]
 unfold S_spec_WriteBytes_1
 rw [if_pos (by simp; omega),w0,t0,t1,w1,w2,w3,w4]
 dsimp only
 rw [hdd]
 by_cases c : (32 : Int) > (T.length : Int) - ((32 * j : Nat) : Int)
 ·rw [if_pos (by simpa using c)]
  exact fin _ (by omega)
 ·rw [if_neg (by simpa using c)]
  exact fin _ (by omega)
theorem spec_wb_loop {x0 : TDisk} {T : List UInt8} {s : Nat} (hx : DkS x0) (hT : T.length ≤ 100000) (hs : s ≤ 1000) : ∀ (n j : Nat) (d : TDisk),T.length ≤ 32 * (j + n) → diskOk d = true →
  iter (S_spec_WriteBytes_1 x0 (s : Int) 0 T) (((min (32 * j) T.length : Nat) : Int),d.Sectors,d.Cache) = some (match wbN s T n j d with | some d'=>.inr (d'.Sectors,d'.Cache) | none=>.inl (x0,false))
 | 0,j,d,hn,hd=>by
  rw [wbN,Nat.min_eq_right (by omega)]
  refine iter_done ?_
  unfold S_spec_WriteBytes_1
  rw [if_neg (by simp)]
 | n + 1,j,d,hn,hd=>by
  rw [wbN]
  by_cases c : 32 * j < T.length
  ·rw [if_pos c,Nat.min_eq_left (by omega)]
   have hst:=spec_wb_step (x0:=x0) (s:=s) hx hd hT hs c
   cases h1 : wb1 s T j d with
   | none =>
    rw [h1] at hst
    exact iter_done hst
   | some d' =>
    rw [h1] at hst
    rw [iter_next hst]
    have hl:=chunk_len T j
    have e : 32 * j + (chunk T j).length = min (32 * (j + 1)) T.length:=by omega
    rw [e]
    exact spec_wb_loop hx hT hs n (j + 1) d' (by omega) (wb1_ok h1)
  ·rw [if_neg c,Nat.min_eq_right (by omega)]
   refine iter_done ?_
   unfold S_spec_WriteBytes_1
   rw [if_neg (by simp)]
def writeB (d : TDisk) (s : Nat) (T : List UInt8) : TDisk × Bool:=if s < d.Sectors.length then wrR d (wbN s T (T.length + 1) 0 d) else (d,false)
theorem writeB_ok {d : TDisk} (h : diskOk d = true) (s : Nat) (T : List UInt8) : diskOk (writeB d s T).1 = true:=by
 unfold writeB
 split
 ·cases hw : wbN s T (T.length + 1) 0 d with
  | none=>exact h
  | some d'=>exact wbN_ok h hw
 ·exact h
theorem spec_writeB {d : TDisk} (h : diskOk d = true) {s : Nat} (hs : s ≤ 1000) {T : List UInt8} (hT : T.length ≤ 100000) : F_spec_WriteBytes d (s : Int) 0 T = some (writeB d s T):=by
 have hD:=DkS.ofOk h
 have h1:=hD.sec.1
 unfold F_spec_WriteBytes writeB
 rw [spec_copy hD,ob,spec_in,ob,if_pos (by unfold inR; simp),spec_in,ob,w64_id (n:=(d.Sectors.length : Int) - 1) (by omega) (by omega),spec_diskOk hD,h]
 by_cases c : s < d.Sectors.length
 ·rw [if_pos (by unfold inR; simp; omega),ob,if_pos rfl,ob,if_neg (by simp),if_pos c]
  have:=spec_wb_loop hD hT hs (T.length + 1) 0 d (by omega) h
  rw [show ((min (32 * 0) T.length : Nat) : Int) = 0 by simp] at this
  rw [this,ob]
  cases wbN s T (T.length + 1) 0 d <;> rfl
 ·rw [if_neg (by unfold inR; simp; omega),ob,if_pos rfl,if_neg c]
theorem secV_hit (a : Int) : ∀ (l : List TWrite) (o : Option TWrite) (z : List UInt8),secV (l.foldl (fun o w=>if w.At == a then some w else o) o) z = secV (hit a l) (secV o z)
 | [],o,z=>rfl
 | x :: l,o,z=>by
  unfold hit
  rw [List.foldl_cons,List.foldl_cons,secV_hit a l,secV_hit a l (if x.At == a then some x else none)]
  cases x.At == a <;> rfl
theorem fold_get : ∀ (l : List TWrite) (s : List (List UInt8)),(∀ w ∈ l,0 ≤ w.At) → ∀ a,a < s.length → (l.foldl setW s)[a]? = some (secV (hit (a : Int) l) ((s[a]?).getD []))
 | [],s,_,a,ha=>by simp [hit,secV,ha]
 | w :: l,s,h,a,ha=>by
  rw [List.foldl_cons,fold_get l _ (fun w hw=>h w (List.mem_cons_of_mem _ hw)) a (by simp [setW]; exact ha)]
  have e : hit (a : Int) (w :: l) = l.foldl (fun o w=>if w.At == (a : Int) then some w else o) (if w.At == (a : Int) then some w else none):=rfl
  rw [e,secV_hit]
  have h0:=h w List.mem_cons_self
  congr 2
  unfold setW
  by_cases c : w.At = (a : Int)
  ·rw [if_pos (by simpa using c),show w.At.toNat = a by omega,List.getElem?_set_self ha]; rfl
  ·rw [if_neg (by simpa using c),List.getElem?_set_ne (by omega)]; rfl
theorem rsec_32 {d : TDisk} (h : diskOk d = true) {a : Nat} (ha : a < d.Sectors.length) : (rsec d a).length = 32:=by
 obtain ⟨_,_,h3,h4⟩:=diskOk_iff.1 h
 unfold rsec secV
 split
 ·rename_i w hw; exact (h4 w (hit_mem hw)).2
 ·rw [List.getElem?_eq_getElem ha]; exact h3 _ (List.getElem_mem ha)
theorem flush_sec {d : TDisk} (h : diskOk d = true) : (flush d).Sectors.length = d.Sectors.length:=by
 unfold flush; rw [if_pos h]; exact fold_len _ _
theorem flush_get {d : TDisk} (h : diskOk d = true) {a : Nat} (ha : a < d.Sectors.length) : (flush d).Sectors[a]? = some (rsec d a):=by
 unfold flush; rw [if_pos h]
 exact fold_get _ _ (fun w hw=>((diskOk_iff.1 h).2.2.2 w hw).1.1) a ha
theorem rsec_home {d : TDisk} (hc : d.Cache = []) (a : Nat) : rsec d a = (d.Sectors[a]?).getD []:=by unfold rsec; rw [hc]; rfl
def poke (d : TDisk) (b : Nat) (T : List UInt8) : TDisk:={ Sectors:=(List.range d.Sectors.length).map fun a=>(List.range 32).map fun q=>if b ≤ 32 * a + q ∧ 32 * a + q < b + T.length then T.getD (32 * a + q - b) 0 else (rsec d a).getD q 0,Cache:=[] }
theorem poke_len (d : TDisk) (b : Nat) (T : List UInt8) : (poke d b T).Sectors.length = d.Sectors.length:=by simp [poke]
theorem poke_ok {d : TDisk} (h : diskOk d = true) (b : Nat) (T : List UInt8) : diskOk (poke d b T) = true:=by
 rw [diskOk_iff] at h ⊢
 refine ⟨by rw [poke_len]; exact h.1,by simp [poke],?_,by simp [poke]⟩
 intro s hs
 simp only [poke,List.mem_map] at hs
 obtain ⟨a,_,rfl⟩:=hs
 simp
theorem poke_get {d : TDisk} {b : Nat} {T : List UInt8} {a : Nat} (ha : a < d.Sectors.length) : rsec (poke d b T) a = (List.range 32).map fun q=>if b ≤ 32 * a + q ∧ 32 * a + q < b + T.length then T.getD (32 * a + q - b) 0 else (rsec d a).getD q 0:=by
 rw [rsec_home rfl]
 simp [poke,ha]
theorem poke_same {d : TDisk} (h : diskOk d = true) {b : Nat} {T : List UInt8} {a : Nat} (ha : a < d.Sectors.length) (hb : 32 * a + 32 ≤ b ∨ b + T.length ≤ 32 * a) : rsec (poke d b T) a = rsec d a:=by
 have h32:=rsec_32 h ha
 rw [poke_get ha]
 refine List.ext_getElem? fun q=>?_
 by_cases hq : q < 32
 ·rw [List.getElem?_map,List.getElem?_range hq,Option.map_some,if_neg (by omega),List.getD_eq_getElem?_getD,List.getElem?_eq_getElem (by omega)]; rfl
 ·rw [List.getElem?_eq_none (by simp; omega),List.getElem?_eq_none (by omega)]
theorem rsec_put (s : List (List UInt8)) (c : List TWrite) (k a : Nat) (t : List UInt8) : rsec { Sectors:=s,Cache:=c ++ [{ At:=(k : Int),Text:=t }] } a = if k = a then t else rsec { Sectors:=s,Cache:=c } a:=by
 unfold rsec
 simp only
 rw [hit_append]
 by_cases e : k = a
 ·rw [if_pos e,if_pos (by simp [e])]; rfl
 ·rw [if_neg e,if_neg (by simp; omega)]
structure Wst (d : TDisk) (b : Nat) (T : List UInt8) (j i : Nat) (d' : TDisk) : Prop where
 ok : diskOk d' = true
 sec : d'.Sectors = d.Sectors
 cache : d'.Cache.length = j
 ge : ∀ w ∈ d'.Cache,(b : Int) < 32 * w.At + 32
 le : ∀ w ∈ d'.Cache,32 * w.At < (b + T.length : Nat)
 get : ∀ a q,a < d.Sectors.length → q < 32 → (rsec d' a)[q]? = if b ≤ 32 * a + q ∧ 32 * a + q < b + i then T[32 * a + q - b]? else (rsec d a)[q]?
theorem Wst.flush {d d' : TDisk} {b j : Nat} {T : List UInt8} (h : Wst d b T j T.length d') (hd : diskOk d = true) : flush d' = poke d b T:=by
 have hc : (V.flush d').Cache = []:=by unfold V.flush; rw [if_pos h.ok]
 have hs : (V.flush d').Sectors = (poke d b T).Sectors:=by
  refine List.ext_getElem? fun a=>?_
  by_cases ha : a < d.Sectors.length
  ·have h32 : (rsec d' a).length = 32:=rsec_32 h.ok (by rw [h.sec]; exact ha)
   have h32':=rsec_32 hd ha
   rw [flush_get h.ok (by rw [h.sec]; exact ha)]
   simp only [poke,List.getElem?_map,List.getElem?_range ha,Option.map_some]
   congr 1
   refine List.ext_getElem? fun q=>?_
   by_cases hq : q < 32
   ·rw [h.get a q ha hq,List.getElem?_map,List.getElem?_range hq,Option.map_some]
    split
    ·rw [List.getD_eq_getElem?_getD,List.getElem?_eq_getElem (by omega)]; rfl
    ·rw [List.getD_eq_getElem?_getD,List.getElem?_eq_getElem (by omega)]; rfl
   ·rw [List.getElem?_eq_none (by omega),List.getElem?_eq_none (by simp; omega)]
  ·rw [List.getElem?_eq_none (by rw [flush_sec h.ok,h.sec]; omega),List.getElem?_eq_none (by rw [poke_len]; omega)]
 cases hf : V.flush d' with
 | mk s c =>
  rw [hf] at hc hs
  simp only at hc hs
  rw [hc,hs]; rfl
theorem Wst.step {d d' : TDisk} {b j i m : Nat} {T : List UInt8} (h : Wst d b T j i d') (hj : j < 60) (hi : i < T.length) (hk : (b + i) / 32 < d.Sectors.length) (hm : m = min (32 - (b + i) % 32) (T.length - i)) :
  ∃ d'',wr d' (((b + i) / 32 : Nat) : Int) ((rsec d' ((b + i) / 32)).take ((b + i) % 32) ++ (T.drop i).take m ++ (rsec d' ((b + i) / 32)).drop ((b + i) % 32 + m)) = some d'' ∧ Wst d b T (j + 1) (i + m) d'':=by
 have h32 : (rsec d' ((b + i) / 32)).length = 32:=rsec_32 h.ok (by rw [h.sec]; exact hk)
 have hl : ((rsec d' ((b + i) / 32)).take ((b + i) % 32) ++ (T.drop i).take m ++ (rsec d' ((b + i) / 32)).drop ((b + i) % 32 + m)).length = 32:=by
  simp [h32]; omega
 generalize ht : (rsec d' ((b + i) / 32)).take ((b + i) % 32) ++ (T.drop i).take m ++ (rsec d' ((b + i) / 32)).drop ((b + i) % 32 + m) = t at hl
 have hw : wr d' (((b + i) / 32 : Nat) : Int) t = some { Sectors:=d'.Sectors,Cache:=d'.Cache ++ [{ At:=(((b + i) / 32 : Nat) : Int),Text:=t }] }:=by
  unfold wr
  rw [if_pos]
  simp only [h.ok,Bool.true_and,Bool.and_eq_true,decide_eq_true_eq,hl,h.sec,h.cache,inR,beq_self_eq_true,true_and]
  omega
 refine ⟨_,hw,(wr_ok hw).1,h.sec,by simp [h.cache],?_,?_,?_⟩
 ·intro w hw
  rcases List.mem_append.1 hw with hw | hw
  ·exact h.ge w hw
  ·rw [List.mem_singleton] at hw; subst hw; simp only; omega
 ·intro w hw
  rcases List.mem_append.1 hw with hw | hw
  ·exact h.le w hw
  ·rw [List.mem_singleton] at hw; subst hw; simp only; omega
 ·intro a q ha hq
  rw [rsec_put]
  by_cases c : (b + i) / 32 = a
  ·rw [if_pos c]
   subst c
   have g:=h.get _ q hk hq
   rw [← ht]
   by_cases c1 : q < (b + i) % 32
   ·rw [List.append_assoc,List.getElem?_append_left (by simp [h32]; omega),List.getElem?_take_of_lt c1,g]
    by_cases c2 : b ≤ 32 * ((b + i) / 32) + q
    ·rw [if_pos ⟨c2,by omega⟩,if_pos ⟨c2,by omega⟩]
    ·rw [if_neg (by omega),if_neg (by omega)]
   ·by_cases c2 : q < (b + i) % 32 + m
    ·rw [List.append_assoc,List.getElem?_append_right (by simp [h32]; omega),List.getElem?_append_left (by simp [h32]; omega),List.getElem?_take_of_lt (by simp [h32]; omega),List.getElem?_drop,if_pos (by omega)]
     congr 1
     simp [h32]; omega
    ·rw [List.getElem?_append_right (by simp [h32]; omega),List.getElem?_drop]
     have e : (b + i) % 32 + m + (q - ((rsec d' ((b + i) / 32)).take ((b + i) % 32) ++ (T.drop i).take m).length) = q:=by simp [h32]; omega
     rw [e,g,if_neg (by omega),if_neg (by omega)]
  ·have g:=h.get a q ha hq
   rw [if_neg c]
   show (rsec d' a)[q]? = _
   rw [g]
   by_cases c2 : b ≤ 32 * a + q ∧ 32 * a + q < b + i
   ·rw [if_pos c2,if_pos ⟨c2.1,by omega⟩]
   ·rw [if_neg c2,if_neg (by omega)]
theorem tmod_nat (n : Nat) : Int.tmod (n : Int) 32 = ((n % 32 : Nat) : Int):=by rw [Int.tmod_eq_emod_of_nonneg (by omega)]; omega
theorem tdiv_nat (n : Nat) : Int.tdiv (n : Int) 32 = ((n / 32 : Nat) : Int):=by rw [Int.tdiv_eq_ediv_of_nonneg (by omega)]; omega
theorem spec_pk_step {x0 d d' : TDisk} {T : List UInt8} {s t j i m : Nat} (h : Wst d (32 * s + t) T j i d') (hT : T.length ≤ 1000) (hs : s ≤ 1000) (ht : t ≤ 3200) (hj : j < 60) (hi : i < T.length) (hk : (32 * s + t + i) / 32 < d.Sectors.length) (hm : m = min (32 - (32 * s + t + i) % 32) (T.length - i)) :
  ∃ d'',S_spec_WriteBytes_1 x0 (s : Int) (t : Int) T ((i : Int),d'.Sectors,d'.Cache) = some (.inl (((i + m : Nat) : Int),d''.Sectors,d''.Cache)) ∧ Wst d (32 * s + t) T (j + 1) (i + m) d'':=by
 obtain ⟨d'',hw,hst⟩:=h.step hj hi hk hm
 refine ⟨d'',?_,hst⟩
 have hD:=DkS.ofOk h.ok
 have h32 : (rsec d' ((32 * s + t + i) / 32)).length = 32:=rsec_32 h.ok (by rw [h.sec]; exact hk)
 have w0 : w64 ((t : Int) + (i : Int)) = ((t + i : Nat) : Int):=by rw [w64_id (by omega) (by omega)]; omega
 have e1 : (t + i) % 32 = (32 * s + t + i) % 32:=by omega
 have w4 : w64 ((s : Int) + w64 (((t + i) / 32 : Nat) : Int)) = (((32 * s + t + i) / 32 : Nat) : Int):=by rw [w64_nat (by omega),w64_id (by omega) (by omega)]; omega
 have w5 : w64 (32 - (((32 * s + t + i) % 32 : Nat) : Int)) = ((32 - (32 * s + t + i) % 32 : Nat) : Int):=by rw [w64_id (by omega) (by omega)]; omega
 have w6 : w64 ((T.length : Int) - (i : Int)) = ((T.length - i : Nat) : Int):=by rw [w64_id (by omega) (by omega)]; omega
 have hdd : ({ Sectors:=d'.Sectors,Cache:=d'.Cache } : TDisk) = d':=rfl
 have fin : ∀ n : Int,n = (m : Int) →
   ((F_spec_ReadSector d' (((32 * s + t + i) / 32 : Nat) : Int)).bind fun v8=>((if !v8.2 then some true else (if ((v8.1.length : Int) != 32) then some true else some false)) : Option Bool).bind (fun y9=>(if y9 then (F_spec_l03Copy x0).bind fun v17=>some (.inr (.inl (({ Sectors:=v17.Sectors,Cache:=v17.Cache } : TDisk),false))) else (sub? v8.1 0 (((32 * s + t + i) % 32 : Nat) : Int)).bind fun v10=>(sub? T (i : Int) (w64 ((i : Int) + n))).bind fun v11=>(cat? v10 v11).bind fun v12=>(sub? v8.1 (w64 ((((32 * s + t + i) % 32 : Nat) : Int) + n)) (v8.1.length : Int)).bind fun v13=>(cat? v12 v13).bind fun v14=>(F_spec_WriteSector d' (((32 * s + t + i) / 32 : Nat) : Int) v14).bind fun v15=>(if !v15.2 then (F_spec_l03Copy x0).bind fun v16=>some (.inr (.inl (({ Sectors:=v16.Sectors,Cache:=v16.Cache } : TDisk),false))) else some (.inl (w64 ((i : Int) + n),v15.1.Sectors,v15.1.Cache))))) : Option ((Int × (List (List UInt8)) × (List TWrite)) ⊕ ((TDisk × Bool) ⊕ ((List (List UInt8)) × (List TWrite))))) = some (.inl (((i + m : Nat) : Int),d''.Sectors,d''.Cache)):=by
  rintro _ rfl
  have f1 : w64 ((i : Int) + (m : Int)) = ((i + m : Nat) : Int):=by rw [w64_id (by omega) (by omega)]; omega
  have f2 : w64 ((((32 * s + t + i) % 32 : Nat) : Int) + (m : Int)) = (((32 * s + t + i) % 32 + m : Nat) : Int):=by rw [w64_id (by omega) (by omega)]; omega
  rw [spec_readSector hD,ob,f1,f2,readS_in (by rw [h.sec]; exact hk)]
  dsimp only
  rw [if_neg (by simp),if_neg (by simp [h32]),ob,if_neg (by simp),sub?_take (by omega),ob,sub?_mid (by omega),ob,cat?_ok (by simp; omega),ob,sub?_tail (by omega),ob,cat?_ok (by simp; omega),ob,spec_wr hD,ob,hw]
  rfl
 unfold S_spec_WriteBytes_1
 rw [if_pos (by simp; omega)]
 dsimp only
 rw [w0,tmod_nat,tdiv_nat,w4,e1,w5,w6,hdd]
 by_cases c : T.length - i < 32 - (32 * s + t + i) % 32
 ·rw [if_pos (by simp; omega)]
  exact fin _ (by omega)
 ·rw [if_neg (by simp; omega)]
  exact fin _ (by omega)
theorem spec_pk_loop {x0 d : TDisk} {T : List UInt8} {s t : Nat} (hT : T.length ≤ 1000) (hs : s ≤ 1000) (ht : t ≤ 3200) (hn : 32 * s + t + T.length ≤ 32 * d.Sectors.length) : ∀ (n i j : Nat) (d' : TDisk),T.length ≤ i + n → i ≤ T.length → (i = T.length ∨ 32 * j ≤ i + 31 ∧ (i = 0 ∨ (32 * s + t + i) % 32 = 0)) → Wst d (32 * s + t) T j i d' →
  ∃ d1 j1,iter (S_spec_WriteBytes_1 x0 (s : Int) (t : Int) T) ((i : Int),d'.Sectors,d'.Cache) = some (.inr (d1.Sectors,d1.Cache)) ∧ Wst d (32 * s + t) T j1 T.length d1
 | 0,i,j,d',h1,h2,_,h=>by
  have : i = T.length:=by omega
  subst this
  refine ⟨d',j,iter_done ?_,h⟩
  unfold S_spec_WriteBytes_1
  rw [if_neg (by simp)]
 | n + 1,i,j,d',h1,h2,h3,h=>by
  by_cases c : i < T.length
  ·obtain ⟨d'',e,hw⟩:=spec_pk_step (x0:=x0) (m:=min (32 - (32 * s + t + i) % 32) (T.length - i)) h hT hs ht (by omega) c (by omega) rfl
   rw [iter_next e]
   exact spec_pk_loop hT hs ht hn n _ (j + 1) d'' (by omega) (by omega) (by omega) hw
  ·have : i = T.length:=by omega
   subst this
   refine ⟨d',j,iter_done ?_,h⟩
   unfold S_spec_WriteBytes_1
   rw [if_neg (by simp)]
theorem Wst.start {d : TDisk} (h : diskOk d = true) (hc : d.Cache = []) (b : Nat) (T : List UInt8) : Wst d b T 0 0 d:=by
 refine ⟨h,rfl,by rw [hc]; rfl,by rw [hc]; simp,by rw [hc]; simp,?_⟩
 intro a q _ _
 rw [if_neg (by omega)]
theorem spec_write {d : TDisk} (h : diskOk d = true) (hc : d.Cache = []) {T : List UInt8} {s t : Nat} (hT : T.length ≤ 1000) (hs : s < d.Sectors.length) (ht : t ≤ 3200) (hn : 32 * s + t + T.length ≤ 32 * d.Sectors.length) :
  ∃ d1 j,F_spec_WriteBytes d (s : Int) (t : Int) T = some (d1,true) ∧ Wst d (32 * s + t) T j T.length d1:=by
 have hD:=DkS.ofOk h
 have h1:=hD.sec.1
 have h100:=(diskOk_iff.1 h).1.2
 obtain ⟨d1,j1,e,hw⟩:=spec_pk_loop (x0:=d) hT (show s ≤ 1000 by omega) ht hn T.length 0 0 d (by omega) (by omega) (by omega) (Wst.start h hc _ T)
 refine ⟨d1,j1,?_,hw⟩
 unfold F_spec_WriteBytes
 rw [spec_copy hD,ob,spec_in,ob,if_pos (by unfold inR; simp; omega),spec_in,ob,w64_id (n:=(d.Sectors.length : Int) - 1) (by omega) (by omega),spec_diskOk hD,h]
 rw [if_pos (by unfold inR; simp; omega),ob,if_pos rfl,ob,if_neg (by simp)]
 have e' : iter (S_spec_WriteBytes_1 d (s : Int) (t : Int) T) (0,d.Sectors,d.Cache) = _:=e
 rw [e']; rfl
theorem spec_poke {d : TDisk} (h : diskOk d = true) (hc : d.Cache = []) {T : List UInt8} {s t : Nat} (hT : T.length ≤ 1000) (hs : s < d.Sectors.length) (ht : t ≤ 3200) (hn : 32 * s + t + T.length ≤ 32 * d.Sectors.length) :
  ∃ d1,F_spec_WriteBytes d (s : Int) (t : Int) T = some (d1,true) ∧ F_spec_FlushDisk d1 = some (poke d (32 * s + t) T):=by
 obtain ⟨d1,j,e,hw⟩:=spec_write h hc hT hs ht hn
 exact ⟨d1,e,by rw [spec_flush (DkS.ofOk hw.ok),hw.flush h]⟩
def frameOk (f : TFrame) : Bool:=inR f.Gen 1 1000000000 && inR f.Seq 1 1000000000 && inR f.Body.length 1 180
theorem spec_frameOk (f : TFrame) : F_spec_FrameOk f = some (frameOk f):=by
 unfold F_spec_FrameOk frameOk
 simp only [spec_in,ob]
 cases inR f.Gen 1 1000000000 <;> cases inR f.Seq 1 1000000000 <;> simp
theorem frameOk_rng {f : TFrame} (h : frameOk f = true) : (1 ≤ f.Gen ∧ f.Gen ≤ 1000000000) ∧ (1 ≤ f.Seq ∧ f.Seq ≤ 1000000000) ∧ 1 ≤ f.Body.length ∧ f.Body.length ≤ 180:=by
 unfold frameOk inR at h
 simp only [Bool.and_eq_true,decide_eq_true_eq] at h
 omega
def frameT (f : TFrame) : List UInt8:=vt f.Gen ++ vt f.Seq ++ vt f.Body.length ++ f.Body
def frameText (f : TFrame) : List UInt8 × Bool:=if frameOk f then (frameT f ++ sealL (frameT f),true) else ([],false)
theorem frameT_len {f : TFrame} (h : frameOk f = true) : (frameT f).length ≤ 213:=by
 obtain ⟨h1,h2,h3,h4⟩:=frameOk_rng h
 have l1:=vt_len (n:=f.Gen) (by omega)
 have l2:=vt_len (n:=f.Seq) (by omega)
 have l3:=vt_len (n:=f.Body.length) (by omega)
 unfold frameT
 simp; omega
theorem spec_frameText (f : TFrame) : F_spec_FrameText f = some (frameText f):=by
 unfold F_spec_FrameText frameText
 rw [spec_frameOk,ob]
 cases hk : frameOk f with
 | false=>rfl
 | true =>
  obtain ⟨h1,h2,h3,h4⟩:=frameOk_rng hk
  have l1:=vt_len (n:=f.Gen) (by omega)
  have l2:=vt_len (n:=f.Seq) (by omega)
  have l3:=vt_len (n:=f.Body.length) (by omega)
  have lt:=frameT_len hk
  simp only [if_true]
  rw [spec_var (by omega) (by omega),ob,spec_var (by omega) (by omega),ob,cat?_ok (by omega),ob,spec_var (by omega) (by omega),ob,cat?_ok (by simp; omega),ob,cat?_ok (by simp; omega),ob]
  rw [show vt f.Gen ++ vt f.Seq ++ vt f.Body.length ++ f.Body = frameT f from rfl,spec_sealed (by omega),ob]
  unfold sealed
  rw [if_neg (by omega)]
def frame0 : TFrame:={ Gen:=0,Seq:=0,Body:=[] }
def itemFrame (x : TItem) (gen : Int) : TFrame × Bool:=if (recText x.Rec).2 && frameOk { Gen:=gen,Seq:=x.Seq,Body:=(recText x.Rec).1 } then ({ Gen:=gen,Seq:=x.Seq,Body:=(recText x.Rec).1 },true) else (frame0,false)
theorem spec_itemFrame {x : TItem} (h : RecS x.Rec) (gen : Int) : F_spec_ItemFrame x gen = some (itemFrame x gen):=by
 unfold F_spec_ItemFrame itemFrame
 simp only [spec_recText h,ob,spec_frameOk]
 cases (recText x.Rec).2 <;> cases frameOk { Gen:=gen,Seq:=x.Seq,Body:=(recText x.Rec).1 } <;> rfl
structure LgN (g : TLog) : Prop where
 used : g.Used.length ≤ 1048576
 items : ∀ x ∈ g.Used,x.Items.length ≤ 1048576 ∧ ∀ y ∈ x.Items,Sz_TItem y
 tot : (g.Used.map fun x=>x.Items.length).sum ≤ 1048576
def itemsOf (g : TLog) : List TItem:=g.Used.flatMap fun x=>x.Items
theorem itemsTo_len {g : TLog} (h : LgN g) (i : Nat) : ((g.Used.take i).flatMap fun x=>x.Items).length ≤ 1048576:=by
 rw [List.length_flatMap]
 have e : ((g.Used.take i).map fun x=>x.Items.length).sum ≤ (g.Used.map fun x=>x.Items.length).sum:=by
  conv=>rhs; rw [← List.take_append_drop i g.Used]
  rw [List.map_append,List.sum_append]; omega
 have:=h.tot
 omega
theorem items_loop {g : TLog} (h : LgN g) {step : Int × List TItem → Option ((Int × List TItem) ⊕ List TItem)}
  (h1 : ∀ (i : Nat) (o : List TItem) (hi : i < g.Used.length),step ((i : Int),o) = (app? 96 o g.Used[i].Items).bind fun v=>some (.inl (((i + 1 : Nat) : Int),v)))
  (h2 : ∀ o,step ((g.Used.length : Int),o) = some (.inr o)) : iter step (0,[]) = some (itemsOf g):=by
 have:=iter_range (step:=step) (fun i=>((i : Int),(g.Used.take i).flatMap fun x=>x.Items)) g.Used.length (r:=itemsOf g) ?_ ?_
 ·simpa using this
 ·intro i hi
  have e : ((g.Used.take (i + 1)).flatMap fun x=>x.Items) = ((g.Used.take i).flatMap fun x=>x.Items) ++ g.Used[i].Items:=by
   rw [List.take_succ_eq_append_getElem hi,List.flatMap_append]; simp
  have hl:=itemsTo_len h (i + 1)
  rw [e,List.length_append] at hl
  rw [h1 i _ hi,app?_ok (by omega) (by omega),e]; rfl
 ·rw [h2,List.take_length]; rfl
theorem spec_itemsOf {g : TLog} (h : LgN g) : F_spec_ItemsOf g = some (itemsOf g):=by
 unfold F_spec_ItemsOf
 rw [items_loop h]
 ·rfl
 ·intro i o hi
  have:=h.used
  unfold S_spec_ItemsOf_1
  simp only [dlt hi,if_true,at?_nat hi,ob,w64_succ (show i < 9223372036854775807 by omega)]
 ·intro o; unfold S_spec_ItemsOf_1; simp
theorem filt_loop {n : Nat} {p : Nat → Bool} {step : Int × List Int → Option ((Int × List Int) ⊕ List Int)} (hn : n ≤ 1048576)
  (h1 : ∀ (i : Nat) (o : List Int),i < n → step ((i : Int),o) = if p i then (app? 8 o [(i : Int)]).bind fun v=>some (.inl (((i + 1 : Nat) : Int),v)) else some (.inl (((i + 1 : Nat) : Int),o)))
  (h2 : ∀ o,step ((n : Int),o) = some (.inr o)) : iter step (0,[]) = some (((List.range n).filter p).map fun (k : Nat)=>(k : Int)):=by
 have:=iter_range (step:=step) (fun i=>((i : Int),((List.range i).filter p).map fun (k : Nat)=>(k : Int))) n (r:=((List.range n).filter p).map fun (k : Nat)=>(k : Int)) ?_ (h2 _)
 ·simpa using this
 ·intro i hi
  have hl:=List.length_filter_le p (List.range i)
  rw [List.length_range] at hl
  rw [h1 i _ hi,List.range_succ,List.filter_append,List.map_append]
  by_cases hp : p i = true
  ·rw [if_pos hp,app?_ok (by simp; omega) (by simp; omega),List.filter_cons,if_pos hp]; rfl
  ·rw [if_neg hp,List.filter_cons,if_neg hp]; simp
def usedNo (g : TLog) (no : Int) : Bool:=g.Used.any fun s=>s.No == no
def nSegs (g : TLog) : Nat:=if 11 < g.Segs then 11 else g.Segs.toNat
theorem nSegs_le (g : TLog) : nSegs g ≤ 11:=by unfold nSegs; split <;> omega
def freeSegs (g : TLog) : List Int:=((List.range (nSegs g)).filter fun i : Nat=>!usedNo g (i : Int)).map fun (k : Nat)=>(k : Int)
theorem spec_freeSegs {g : TLog} (h : g.Used.length ≤ 1048576) : F_spec_FreeSegs g = some (freeSegs g):=by
 have hn:=nSegs_le g
 unfold F_spec_FreeSegs freeSegs
 rw [filt_loop (n:=nSegs g) (p:=fun i=>!usedNo g (i : Int)) (by omega)]
 ·rfl
 ·intro i o hi
  have h11 : (i : Int) < g.Segs ∧ (i : Int) < 11:=by
   unfold nSegs at hi
   split at hi <;> omega
  have inner : iter (S_spec_FreeSegs_2 g ((i : Int),o)) (false,0) = some (usedNo g (i : Int)):=by
   have:=iter_range (step:=S_spec_FreeSegs_2 g ((i : Int),o)) (fun j=>((g.Used.take j).any (fun s=>s.No == (i : Int)),(j : Int))) g.Used.length (r:=usedNo g (i : Int)) ?_ ?_
   ·simpa using this
   ·intro j hj
    have e : (g.Used.take (j + 1)).any (fun s=>s.No == (i : Int)) = ((g.Used.take j).any (fun s=>s.No == (i : Int)) || g.Used[j].No == (i : Int)):=by
     rw [List.take_succ_eq_append_getElem hj,List.any_append]; simp
    unfold S_spec_FreeSegs_2
    simp only [dlt hj,if_true,at?_nat hj,ob,w64_succ (show j < 9223372036854775807 by omega),e]
    generalize (g.Used.take j).any (fun s=>s.No == (i : Int)) = b
    by_cases c : g.Used[j].No = (i : Int) <;> cases b <;> simp [c]
   ·unfold S_spec_FreeSegs_2
    simp [usedNo]
  unfold S_spec_FreeSegs_1
  simp only [show decide ((i : Int) < g.Segs) = true by simpa using h11.1,show decide ((i : Int) < 11) = true by simpa using h11.2,if_true,ob,inner,w64_succ (show i < 9223372036854775807 by omega)]
 ·intro o
  unfold S_spec_FreeSegs_1
  have hlt : ¬ (((nSegs g : Nat) : Int) < g.Segs ∧ ((nSegs g : Nat) : Int) < 11):=by
   unfold nSegs
   split <;> omega
  by_cases c : ((nSegs g : Nat) : Int) < g.Segs
  ·have c2 : ¬ ((nSegs g : Nat) : Int) < 11:=fun d=>hlt ⟨c,d⟩
   simp [c,c2]
  ·simp [c]
theorem checkText_ok {c : TCheck} (h : (checkText c).2 = true) : checkOk c = true:=by
 unfold checkText at h
 split at h
 ·assumption
 ·cases h
theorem checkText_len {c : TCheck} : (checkText c).1.length ≤ 100000:=by
 unfold checkText
 split
 ·split
  ·simp
  ·dsimp only; omega
 ·simp
def writeC (d : TDisk) (c : TCheck) : TDisk × Bool :=
 if (checkText c).2 = true ∧ diskOk d = true then (if (writeB d (4 * (c.Stamp.toNat % 2)) (checkText c).1).2 then (flush (writeB d (4 * (c.Stamp.toNat % 2)) (checkText c).1).1,true) else (d,false)) else (d,false)
theorem place {c : TCheck} (h : checkOk c = true) : w64 (4 * Int.tmod c.Stamp 2) = ((4 * (c.Stamp.toNat % 2) : Nat) : Int):=by
 have h1:=(checkOk_rng h).1.1
 rw [Int.tmod_eq_emod_of_nonneg (by omega),w64_id (by omega) (by omega)]
 omega
theorem spec_writeC {d : TDisk} (hD : DkS d) {c : TCheck} (hc : c.Refs.length ≤ 1048576) : F_spec_WriteCheck d c = some (writeC d c):=by
 unfold F_spec_WriteCheck writeC
 rw [spec_checkText hc,ob,spec_diskOk hD]
 by_cases h1 : (checkText c).2 = true
 ·rw [if_neg (by simp [h1]),ob]
  by_cases h2 : diskOk d = true
  ·rw [if_pos h2,ob,if_neg (by simp),if_pos ⟨h1,h2⟩,place (checkText_ok h1),spec_writeB h2 (by omega) checkText_len,ob]
   have hw:=DkS.ofOk (writeB_ok h2 (4 * (c.Stamp.toNat % 2)) (checkText c).1)
   cases h3 : (writeB d (4 * (c.Stamp.toNat % 2)) (checkText c).1).2 with
   | true=>simp [spec_flush hw]
   | false=>simp [spec_copy hD]
  ·rw [if_neg h2,ob,if_pos rfl,spec_copy hD,if_neg (fun h=>h2 h.2)]; rfl
 ·rw [if_pos (by simp [h1]),ob,if_pos rfl,spec_copy hD,if_neg (fun h=>h1 h.1)]; rfl
def refOf (s : TSeg) : TRef:={ No:=s.No,Gen:=s.Gen }
def checkOf (g : TLog) : TCheck:={ Stamp:=w64 (g.Stamp + 1),NextGen:=g.NextGen,NextSeq:=g.NextSeq,NextValid:=g.NextValid,Refs:=g.Used.map refOf }
theorem refs_loop {g : TLog} (h : g.Used.length ≤ 1048576) {step : Int × List TRef → Option ((Int × List TRef) ⊕ List TRef)}
  (h1 : ∀ (i : Nat) (o : List TRef) (hi : i < g.Used.length),step ((i : Int),o) = (app? 16 o [refOf g.Used[i]]).bind fun v=>some (.inl (((i + 1 : Nat) : Int),v)))
  (h2 : ∀ o,step ((g.Used.length : Int),o) = some (.inr o)) : iter step (0,[]) = some (g.Used.map refOf):=by
 have:=iter_range (step:=step) (fun i=>((i : Int),(g.Used.take i).map refOf)) g.Used.length (r:=g.Used.map refOf) ?_ ?_
 ·simpa using this
 ·intro i hi
  rw [h1 i _ hi,app?_ok (by simp; omega) (by simp; omega),List.take_succ_eq_append_getElem hi,List.map_append]; rfl
 ·rw [h2,List.take_length]
theorem spec_checkOf {g : TLog} (h : g.Used.length ≤ 1048576) : F_spec_CheckOf g = some (checkOf g):=by
 unfold F_spec_CheckOf
 rw [refs_loop h]
 ·rfl
 ·intro i o hi
  unfold S_spec_CheckOf_1
  simp only [dlt hi,if_true,at?_nat hi,ob,w64_succ (show i < 9223372036854775807 by omega)]
  rfl
 ·intro o; unfold S_spec_CheckOf_1; simp
def pk (p : TItem → Bool) (lt : TItem → TItem → Bool) (l : List TItem) : Nat → Option TItem
 | 0=>none
 | i + 1=>match l[i]? with
  | some x=>if p x && (match pk p lt l i with | none=>true | some b=>lt b x) then some x else pk p lt l i
  | none=>pk p lt l i
def pick (p : TItem → Bool) (lt : TItem → TItem → Bool) (l : List TItem) : Option TItem:=pk p lt l l.length
theorem app_loop {β : Type} {n byt : Nat} {f : Nat → β} {step : Int × List β → Option ((Int × List β) ⊕ List β)} (hl : n ≤ 1048576) (hb : byt ≤ 1000000)
  (h1 : ∀ (i : Nat) (o : List β),i < n → step ((i : Int),o) = (app? byt o [f i]).bind fun v=>some (.inl (((i + 1 : Nat) : Int),v)))
  (h2 : ∀ o,step ((n : Int),o) = some (.inr o)) : iter step (0,[]) = some ((List.range n).map f):=by
 refine iter_range (step:=step) (fun i=>((i : Int),(List.range i).map f)) n ?_ (h2 _)
 intro i hi
 have hm : (i + 1) * byt ≤ 1048576 * 1000000:=Nat.mul_le_mul (by omega) hb
 rw [h1 i _ hi,app?_ok (by simp; omega) (by simp; omega),List.range_succ,List.map_append]
 rfl
def zero32 : List UInt8:=List.replicate 32 0
def newDisk (n : Nat) : TDisk:={ Sectors:=List.replicate n zero32,Cache:=[] }
theorem spec_zero : F_spec_l03Zero = some zero32:=by
 unfold F_spec_l03Zero F_spec_l01Long
 rw [show (32 : Int) = ((32 : Nat) : Int) from rfl,mk?_ok (by omega) (by omega),ob]
 have h:=to_loop (l:=List.replicate 32 (0 : Int)) (z:=(0 : Int)) (step:=S_spec_l01Long_1 ((32 : Nat) : Int) 0) (by simp) ?_ ?_
 ·rw [List.length_replicate] at h
  rw [h]; rfl
 ·intro i hi o ho
  rw [List.length_replicate] at hi ho
  have hio : i < o.length:=by omega
  unfold S_spec_l01Long_1
  simp only [dlt hi,if_true,at?_nat hio,ob,w64_succ (show i < 9223372036854775807 by omega),set'_nat,List.getElem_replicate]
 ·intro o
  unfold S_spec_l01Long_1
  simp
theorem disk_loop {n : Nat} (hn : n ≤ 100) {step : Int × List (List UInt8) → Option ((Int × List (List UInt8)) ⊕ List (List UInt8))}
  (h1 : ∀ (i : Nat) (o : List (List UInt8)),i < n → step ((i : Int),o) = (app? 16 o [zero32]).bind fun v=>some (.inl (((i + 1 : Nat) : Int),v)))
  (h2 : ∀ o,step ((n : Int),o) = some (.inr o)) : iter step (0,[]) = some (List.replicate n zero32):=by
 have h:=app_loop (n:=n) (byt:=16) (f:=fun _=>zero32) (step:=step) (by omega) (by omega) h1 h2
 rw [h]
 congr 1
 simp [List.map_const']
theorem spec_diskNew {n : Nat} (h0 : 1 ≤ n) (hn : n ≤ 100) : F_spec_DiskNew (n : Int) = some (newDisk n,true):=by
 unfold F_spec_DiskNew
 rw [spec_in,ob,if_pos (by unfold inR; simp; omega),disk_loop (n:=n) hn]
 ·rfl
 ·intro i o hi
  unfold S_spec_DiskNew_1
  simp only [dlt hi,if_true,spec_zero,ob,w64_succ (show i < 9223372036854775807 by omega)]
 ·intro o
  unfold S_spec_DiskNew_1; simp
theorem newDisk_ok {n : Nat} (h0 : 1 ≤ n) (hn : n ≤ 100) : diskOk (newDisk n) = true:=by
 rw [diskOk_iff]
 refine ⟨by simp [newDisk]; omega,by simp [newDisk],?_,by simp [newDisk]⟩
 intro s hs
 have:=List.eq_of_mem_replicate hs
 subst this; rfl
def head1 : TFrame:={ Gen:=1,Seq:=1,Body:=[115,101,103] }
def headT : List UInt8:=(frameText head1).1
theorem head_ok : (frameText head1).2 = true:=by
 unfold frameText
 rw [if_pos (by decide)]
theorem head_len : headT.length ≤ 256:=by
 unfold headT frameText
 rw [if_pos (by decide)]
 have:=frameT_len (f:=head1) (by decide)
 simp only [List.length_append]
 have h4 : (sealL (frameT head1)).length = 4:=by rfl
 omega
def log0 (k : Nat) : TLog:={ Disk:=newDisk (8 + k * 8),Segs:=(k : Int),Used:=[],NextGen:=1,NextSeq:=1,Stamp:=0,NextValid:=1 }
def zlog : TLog:={ Disk:={ Sectors:=[],Cache:=[] },Segs:=0,Used:=[],NextGen:=0,NextSeq:=0,Stamp:=0,NextValid:=0 }
def open0 (k : Nat) : TDisk × Bool:=writeB (newDisk (8 + k * 8)) 8 headT
def log1 (k : Nat) : TLog:={ Disk:=flush (open0 k).1,Segs:=(k : Int),Used:=[{ No:=0,Gen:=1,End:=(headT.length : Int),Items:=[] }],NextGen:=2,NextSeq:=1,Stamp:=0,NextValid:=1 }
def fixd (k : Nat) : TDisk × Bool:=writeC (log1 k).Disk (checkOf (log1 k))
def fmtK (k : Nat) : TLog × Bool:=if (open0 k).2 && (fixd k).2 then ({ log1 k with Disk:=(fixd k).1,Stamp:=1 },true) else (zlog,false)
def fmt (x : Int) : TLog × Bool:=if inR x 5 11 then fmtK x.toNat else (zlog,false)
theorem free0 {k : Nat} (h : 5 ≤ k ∧ k ≤ 11) : ∃ t,freeSegs (log0 k) = 0 :: t:=by
 have : k = 5 ∨ k = 6 ∨ k = 7 ∨ k = 8 ∨ k = 9 ∨ k = 10 ∨ k = 11:=by omega
 rcases this with rfl | rfl | rfl | rfl | rfl | rfl | rfl <;> exact ⟨_,rfl⟩
theorem nd_ok {k : Nat} (h : 5 ≤ k ∧ k ≤ 11) : diskOk (newDisk (8 + k * 8)) = true:=newDisk_ok (by omega) (by omega)
theorem o_ok {k : Nat} (h : 5 ≤ k ∧ k ≤ 11) : diskOk (open0 k).1 = true:=writeB_ok (nd_ok h) 8 headT
theorem spec_segWrite {k : Nat} (h : 5 ≤ k ∧ k ≤ 11) : F_spec_SegWrite (newDisk (8 + k * 8)) 0 0 headT = some (open0 k):=by
 have hl:=head_len
 unfold F_spec_SegWrite F_spec_SegFirst
 rw [spec_in,ob,if_pos (by decide),spec_in,ob,if_pos (by decide)]
 rw [if_neg (by rw [show w64 (256 - 0) = 256 from rfl]; simp; omega),ob,if_neg (by simp)]
 simp only [spec_in,ob]
 rw [if_pos (by decide),ob,show w64 (8 + w64 (0 * 8)) = ((8 : Nat) : Int) from rfl,spec_writeB (nd_ok h) (by omega) (by omega)]
 rfl
theorem spec_open0 {k : Nat} (h : 5 ≤ k ∧ k ≤ 11) : F_spec_l09Open_w2 (log0 k) 0 = some (if (open0 k).2 then (true,log1 k) else (false,log0 k)):=by
 obtain ⟨t,ht⟩:=free0 h
 unfold F_spec_l09Open_w2
 have e1:=spec_freeSegs (g:=log0 k) (by simp [log0])
 show (F_spec_FreeSegs (log0 k)).bind _ = _
 rw [e1,ob,ht]
 rw [if_neg (by decide),if_neg (by simp),ob,if_neg (by simp)]
 show (F_spec_FrameText head1).bind _ = _
 rw [spec_frameText,ob,show at? (0 :: t) 0 = some 0 from by rw [show (0 : Int) = ((0 : Nat) : Int) from rfl,at?_nat (by simp)]; rfl,ob]
 show (F_spec_SegWrite (newDisk (8 + k * 8)) 0 0 headT).bind _ = _
 rw [spec_segWrite h,ob,head_ok]
 cases ho : (open0 k).2
 ·rfl
 ·simp only [Bool.not_true,Bool.false_eq_true,if_false]
  rw [if_neg (show ¬ (decide ((log0 k).NextGen ≥ 1000000000) = true) by simp [log0]),ob,if_neg (by simp),spec_flush (DkS.ofOk (o_ok h)),ob,ob,app?_ok (by simp) (by simp)]
  rfl
theorem log1_dk {k : Nat} (h : 5 ≤ k ∧ k ≤ 11) : diskOk (log1 k).Disk = true:=flush_ok (o_ok h)
theorem spec_fmt (x : Int) : F_spec_FormatDisk x = some (fmt x):=by
 unfold F_spec_FormatDisk fmt
 rw [spec_in,ob]
 cases hr : inR x 5 11 with
 | false=>rfl
 | true =>
  unfold inR at hr
  simp only [Bool.and_eq_true,decide_eq_true_eq] at hr
  obtain ⟨k,rfl⟩ : ∃ k : Nat,x = k:=⟨x.toNat,by omega⟩
  have h : 5 ≤ k ∧ k ≤ 11:=by omega
  rw [if_pos rfl,if_pos rfl,Int.toNat_natCast]
  have e : w64 (8 + w64 ((k : Int) * 8)) = ((8 + k * 8 : Nat) : Int):=by
   rw [w64_id (n:=(k : Int) * 8) (by omega) (by omega),w64_id (by omega) (by omega)]; omega
  rw [e,spec_diskNew (by omega) (by omega),ob]
  show (F_spec_l09Open_w2 (log0 k) 0).bind _ = _
  rw [spec_open0 h,ob]
  unfold fmtK
  cases ho : (open0 k).2
  ·rfl
  ·simp only [if_true,Bool.true_and]
   have e1:=spec_checkOf (g:=log1 k) (by simp [log1])
   show (F_spec_CheckOf (log1 k)).bind _ = _
   rw [e1,ob]
   show (F_spec_WriteCheck (log1 k).Disk (checkOf (log1 k))).bind _ = _
   rw [spec_writeC (DkS.ofOk (log1_dk h)) (by simp [checkOf,log1]),ob]
   show (if (!(fixd k).2) = true then _ else _) = _
   cases hf : (fixd k).2
   ·rfl
   ·rfl
theorem andv255 (a : Int) : 0 ≤ andv .i64 a 255 ∧ andv .i64 a 255 ≤ 255:=by
 have h : andv .i64 a 255 = w64 ((BitVec.ofInt 64 a &&& BitVec.ofInt 64 255).toNat : Int):=rfl
 have h2 : (BitVec.ofInt 64 a &&& BitVec.ofInt 64 255).toNat ≤ 255:=by
  rw [BitVec.toNat_and]
  exact Nat.le_trans Nat.and_le_right (by decide)
 rw [h,w64_id (by omega) (by omega)]
 omega
def IOk (b : List Int) (i : Int) : Prop:=0 ≤ i ∧ i ≤ (b.length : Int) ∧ (b.length : Int) ≤ 1048576
def Dr {α : Type} (b : List Int) (o : Option (α × TL01Cur)) (P : α → Prop) : Prop:=∃ r i h,o = some (r,⟨b,i,h⟩) ∧ P r ∧ IOk b i
theorem Dr.bind {α β : Type} {b : List Int} {o : Option (α × TL01Cur)} {P : α → Prop} {f : α × TL01Cur → Option (β × TL01Cur)} {Q : β → Prop} (h : Dr b o P) (g : ∀ r i h,P r → IOk b i → Dr b (f (r,⟨b,i,h⟩)) Q) : Dr b (o.bind f) Q:=by
 obtain ⟨r,i,h',rfl,hp,hi⟩:=h
 exact g r i h' hp hi
theorem Dr.ret {α : Type} {b : List Int} {r : α} {i h : Int} {Q : α → Prop} (hi : IOk b i) (hq : Q r) : Dr b (some (r,⟨b,i,h⟩)) Q:=⟨r,i,h,rfl,hq,hi⟩
theorem Dr.mono {α : Type} {b : List Int} {o : Option (α × TL01Cur)} {P Q : α → Prop} (h : Dr b o P) (g : ∀ r,P r → Q r) : Dr b o Q:=by
 obtain ⟨r,i,h',e,hp,hi⟩:=h
 exact ⟨r,i,h',e,g r hp,hi⟩
theorem Dr.get {α γ : Type} {b : List Int} {o : Option (α × TL01Cur)} {P : α → Prop} {f : α × TL01Cur → Option γ} {Q : γ → Prop} (h : Dr b o P) (g : ∀ r i h,P r → IOk b i → ∃ z,f (r,⟨b,i,h⟩) = some z ∧ Q z) : ∃ z,o.bind f = some z ∧ Q z:=by
 obtain ⟨r,i,h',rfl,hp,hi⟩:=h
 exact g r i h' hp hi
theorem dr_byte {b : List Int} {i h : Int} (hi : IOk b i) : Dr b (F_spec_l01Byte_w ⟨b,i,h⟩) fun x=>0 ≤ x ∧ x ≤ 255:=by
 unfold F_spec_l01Byte_w
 obtain ⟨h0,h1,h2⟩:=hi
 by_cases hl : i < (b.length : Int)
 ·obtain ⟨n,rfl⟩ : ∃ n : Nat,i = n:=⟨i.toNat,by omega⟩
  rw [if_pos (by simpa using hl),at?_nat (show n < b.length by omega),ob]
  refine ⟨_,_,_,rfl,andv255 _,?_⟩
  show IOk b (w64 ((n : Int) + 1))
  rw [w64_id (by omega) (by omega)]; exact ⟨by omega,by omega,h2⟩
 ·rw [if_neg (by simpa using hl)]
  exact ⟨_,_,_,rfl,andv255 _,h0,h1,h2⟩
theorem dr_below {b : List Int} {i h : Int} (hi : IOk b i) {n : Int} (hn : 1 ≤ n) (hm : n ≤ 4294967296) : Dr b (F_spec_l01Below_w ⟨b,i,h⟩ n) fun x=>0 ≤ x ∧ x < n:=by
 unfold F_spec_l01Below_w
 rw [if_neg (by simp; omega)]
 have tm : ∀ x : Int,0 ≤ x → 0 ≤ Int.tmod x n ∧ Int.tmod x n < n:=fun x hx=>⟨Int.tmod_nonneg _ hx,Int.tmod_lt_of_pos _ (by omega)⟩
 have rm : ∀ x : Int,rem? x n = some (Int.tmod x n):=fun x=>by unfold rem?; rw [if_neg (by omega)]
 by_cases hs : n ≤ 256
 ·rw [if_pos (by simpa using hs)]
  refine Dr.bind (dr_byte hi) fun x i h hx hi=>?_
  rw [rm,ob]
  exact Dr.ret hi (tm x hx.1)
 ·rw [if_neg (by simpa using hs)]
  refine Dr.bind (dr_byte hi) fun x i h hx hi=>Dr.bind (dr_byte hi) fun y i h hy hi=>Dr.bind (dr_byte hi) fun z i h hz hi=>Dr.bind (dr_byte hi) fun u i h hu hi=>?_
  rw [rm,ob]
  refine Dr.ret hi (tm _ ?_)
  dsimp only
  rw [w64_id (n:=x * 16777216) (by omega) (by omega),w64_id (n:=y * 65536) (by omega) (by omega),w64_id (n:=z * 256) (by omega) (by omega),w64_id (n:=x * 16777216 + y * 65536) (by omega) (by omega),w64_id (n:=x * 16777216 + y * 65536 + z * 256) (by omega) (by omega),w64_id (by omega) (by omega)]
  omega
theorem dr_pickInt {b : List Int} {i h : Int} (hi : IOk b i) {l : List Int} (h1 : 1 ≤ l.length) (h2 : l.length ≤ 100) : Dr b (F_spec_l01PickInt_w ⟨b,i,h⟩ l) fun x=>x ∈ l:=by
 unfold F_spec_l01PickInt_w
 refine Dr.bind (dr_below hi (by omega) (by omega)) fun x i h hx hi=>?_
 obtain ⟨n,rfl⟩ : ∃ n : Nat,x = n:=⟨x.toNat,by omega⟩
 rw [at?_nat (by omega),ob]
 exact Dr.ret hi (List.getElem_mem _)
theorem dr_pick {b : List Int} {i h : Int} (hi : IOk b i) {l : List (List UInt8)} (h1 : 1 ≤ l.length) (h2 : l.length ≤ 100) : Dr b (F_spec_l01Pick_w ⟨b,i,h⟩ l) fun x=>x ∈ l:=by
 unfold F_spec_l01Pick_w
 refine Dr.bind (dr_below hi (by omega) (by omega)) fun x i h hx hi=>?_
 obtain ⟨n,rfl⟩ : ∃ n : Nat,x = n:=⟨x.toNat,by omega⟩
 rw [at?_nat (by omega),ob]
 exact Dr.ret hi (List.getElem_mem _)
theorem dr_new {b : List Int} (_hb : b.length ≤ 1048576) : ∃ h,F_spec_l01New_w b = some ⟨b,0,h⟩:=by
 have key : ∃ r,iter (S_spec_l01New_w_1 b) (w64 (76001 + (b.length : Int)),0) = some r ∧ True:=by
  refine iter_inv (fun s : Int × Int=>0 ≤ s.2 ∧ s.2 ≤ (b.length : Int)) (fun s=>((b.length : Int) - s.2).toNat) (fun _=>True) ?_ _ ⟨by simp,by simp⟩
  rintro ⟨x,i⟩ ⟨h0,h1⟩
  simp only at h0 h1
  unfold S_spec_l01New_w_1
  by_cases hl : i < (b.length : Int)
  ·by_cases h4 : i < 4000
   ·left
    obtain ⟨n,rfl⟩ : ∃ n : Nat,i = n:=⟨i.toNat,by omega⟩
    rw [if_pos (by simpa using hl),if_pos (by simpa using h4),ob,if_pos rfl]
    show ∃ s',(at? b (n : Int)).bind _ = _ ∧ _
    rw [at?_nat (by omega),ob]
    refine ⟨_,rfl,?_,?_⟩
    ·simp only; rw [w64_id (by omega) (by omega)]; omega
    ·simp only; rw [w64_id (by omega) (by omega)]; omega
   ·right
    rw [if_pos (by simpa using hl),if_neg (by simpa using h4)]
    exact ⟨_,rfl,trivial⟩
  ·right
   rw [if_neg (by simpa using hl)]
   exact ⟨_,rfl,trivial⟩
 obtain ⟨r,e,_⟩:=key
 exact ⟨r,by unfold F_spec_l01New_w; rw [e,ob]⟩
theorem iok0 {b : List Int} (hb : b.length ≤ 1048576) : IOk b 0:=⟨by omega,by omega,by omega⟩
theorem dr_places {b : List Int} (hb : b.length ≤ 1048576) : ∃ l,F_spec_DrawPlaces b = some l ∧ l.length = 12 ∧ ∀ x ∈ l,0 ≤ x ∧ x < 10000:=by
 obtain ⟨h,e⟩:=dr_new hb
 unfold F_spec_DrawPlaces
 rw [e,ob]
 refine Dr.get (dr_byte (iok0 hb)) fun x i h _ hi=>?_
 have key : ∃ r,iter (S_spec_DrawPlaces_1 b) (0,i,h,[]) = some r ∧ (r.length = 12 ∧ ∀ x ∈ r,0 ≤ x ∧ x < 10000):=by
  refine iter_inv (fun s : Int × Int × Int × List Int=>(0 ≤ s.1 ∧ s.1 ≤ 12 ∧ (s.2.2.2.length : Int) = s.1) ∧ IOk b s.2.1 ∧ ∀ x ∈ s.2.2.2,0 ≤ x ∧ x < 10000) (fun s=>(12 - s.1).toNat) _ ?_ _ ⟨⟨by simp,by simp,by simp⟩,hi,by simp⟩
  rintro ⟨k,i,h,l⟩ ⟨⟨h0,h1,h2⟩,hi,hl⟩
  simp only at h0 h1 h2 hi hl
  unfold S_spec_DrawPlaces_1
  by_cases hk : k < 12
  ·left
   rw [if_pos (by simpa using hk)]
   obtain ⟨y,i',h',e,hy,hi'⟩:=dr_below (h:=h) hi (n:=10000) (by omega) (by omega)
   show ∃ s',(F_spec_l01Below_w ⟨b,i,h⟩ 10000).bind _ = _ ∧ _
   rw [e,ob]
   show ∃ s',(app? 8 l [y]).bind _ = _ ∧ _
   rw [app?_ok (by simp; omega) (by simp; omega),ob]
   refine ⟨_,rfl,⟨⟨?_,?_,?_⟩,hi',?_⟩,?_⟩
   ·simp only; rw [w64_id (by omega) (by omega)]; omega
   ·simp only; rw [w64_id (by omega) (by omega)]; omega
   ·show ((l ++ [y]).length : Int) = w64 (k + 1)
    rw [List.length_append,List.length_singleton,w64_id (by omega) (by omega)]; omega
   ·intro z hz
    rcases List.mem_append.1 hz with hz | hz
    ·exact hl z hz
    ·simp only [List.mem_singleton] at hz; subst hz; exact hy
   ·simp only; rw [w64_id (by omega) (by omega)]; omega
  ·right
   rw [if_neg (by simpa using hk)]
   exact ⟨_,rfl,(by show l.length = 12; omega),hl⟩
 obtain ⟨r,e,hr⟩:=key
 exact ⟨r,by rw [e]; rfl,hr⟩
theorem recOk_valid {x : TRec} (h : recOk x = true) : 1 ≤ x.Valid ∧ x.Valid ≤ 9999:=by
 unfold recOk at h
 simp only [Bool.and_eq_true] at h
 have:=h.1.1.1.1.2
 simpa [inR] using this
def toldQ (b c : TBox) : Bool:=c.Valid == b.Valid && decide (c.Next ≥ b.Next)
def told (s : TState) (b : TBox) : Bool:=s.Boxes.any (toldQ b)
structure RecD (r : TRec) : Prop where
 ok : recOk r = true
 valid : r.Valid ≤ 3
 next : r.Next ≤ 6
 uid : r.Uid ≤ 5
 user : r.User.length ≤ 3
 name : r.Name.length ≤ 5
 text : r.Text.length ≤ 28
theorem recD_of {k v u n f : Int} {us nm tx : List UInt8} (h : recOk { Kind:=k,Valid:=v,Uid:=u,Next:=n,Flags:=f,User:=us,Name:=nm,Text:=tx } = true) (h1 : v ≤ 3) (h2 : n ≤ 6) (h3 : u ≤ 5) (h4 : us.length ≤ 3) (h5 : nm.length ≤ 5) (h6 : tx.length ≤ 28) : RecD { Kind:=k,Valid:=v,Uid:=u,Next:=n,Flags:=f,User:=us,Name:=nm,Text:=tx }:=⟨h,h1,h2,h3,h4,h5,h6⟩
theorem dr_text {b : List Int} {i h : Int} (hi : IOk b i) : Dr b (F_spec_l06Text_w ⟨b,i,h⟩) fun x=>x.length ≤ 28:=by
 unfold F_spec_l06Text_w
 refine Dr.bind (dr_pick hi (by decide) (by decide)) fun x i h hx hi=>Dr.ret hi ?_
 simp only [List.mem_cons,List.not_mem_nil,or_false] at hx
 rcases hx with rfl | rfl | rfl | rfl | rfl <;> simp
theorem w64s {x : Int} (h : 0 ≤ x) (h' : x ≤ 1000000000) : w64 (1 + x) = 1 + x:=w64_id (by omega) (by omega)
theorem dr_rec {b : List Int} {i h : Int} (hi : IOk b i) : Dr b (F_spec_l06Rec_w ⟨b,i,h⟩) RecD:=by
 unfold F_spec_l06Rec_w
 refine Dr.bind (dr_pickInt hi (by decide) (by decide)) fun k i h hk hi=>Dr.bind (dr_below hi (by omega) (by omega)) fun v i h hv hi=>?_
 have hk' : k = 1 ∨ k = 2 ∨ k = 3 ∨ k = 4 ∨ k = 5:=by
  simp only [List.mem_cons,List.not_mem_nil,or_false] at hk; omega
 have hv1 : w64 (1 + v) = 1 + v:=w64s hv.1 (by omega)
 have iv : inR (1 + v) 1 9999 = true:=by unfold inR; simp; omega
 rcases hk' with rfl | rfl | rfl | rfl | rfl
 ·show Dr b (Option.bind _ _) _
  refine Dr.bind (dr_pick hi (by decide) (by decide)) fun us i h hus hi=>Dr.bind (dr_pick hi (by decide) (by decide)) fun nm i h hnm hi=>Dr.bind (dr_below hi (by omega) (by omega)) fun n i h hn hi=>Dr.ret hi ?_
  dsimp only
  have hw : wordOk us = true ∧ us.length ≤ 3:=by
   simp only [List.mem_cons,List.not_mem_nil,or_false] at hus
   rcases hus with rfl | rfl <;> decide
  have hw2 : wordOk nm = true ∧ nm.length ≤ 5:=by
   simp only [List.mem_cons,List.not_mem_nil,or_false] at hnm
   rcases hnm with rfl | rfl <;> decide
  rw [hv1,w64s hn.1 (by omega)]
  refine recD_of ?_ (by omega) (by omega) (by omega) hw.2 hw2.2 (by simp)
  unfold recOk
  simp [hw.1,hw2.1,inR]; omega
 ·refine Dr.ret hi ?_
  dsimp only
  rw [hv1]
  refine recD_of ?_ (by omega) (by omega) (by omega) (by simp) (by simp) (by simp)
  unfold recOk
  simp [iv]; decide
 ·show Dr b (Option.bind _ _) _
  refine Dr.bind (dr_below hi (by omega) (by omega)) fun u i h hu hi=>Dr.bind (dr_below hi (by omega) (by omega)) fun f i h hf hi=>Dr.bind (dr_text hi) fun tx i h htx hi=>Dr.ret hi ?_
  dsimp only
  rw [hv1,w64s hu.1 (by omega)]
  refine recD_of ?_ (by omega) (by omega) (by omega) (by simp) (by simp) htx
  have i2 : inR (1 + u) 1 9999 = true:=by unfold inR; simp; omega
  have i3 : inR f 0 7 = true:=by unfold inR; simp; omega
  have i4 : inR 3 1 5 = true:=by decide
  unfold recOk
  simp [iv,i2,i3,i4]; omega
 ·show Dr b (Option.bind _ _) _
  refine Dr.bind (dr_below hi (by omega) (by omega)) fun u i h hu hi=>Dr.bind (dr_below hi (by omega) (by omega)) fun f i h hf hi=>Dr.ret hi ?_
  dsimp only
  rw [hv1,w64s hu.1 (by omega)]
  refine recD_of ?_ (by omega) (by omega) (by omega) (by simp) (by simp) (by simp)
  have i2 : inR (1 + u) 1 9999 = true:=by unfold inR; simp; omega
  have i3 : inR f 0 7 = true:=by unfold inR; simp; omega
  have i4 : inR 4 1 5 = true:=by decide
  unfold recOk
  simp [iv,i2,i3,i4]
 ·show Dr b (Option.bind _ _) _
  refine Dr.bind (dr_below hi (by omega) (by omega)) fun u i h hu hi=>Dr.ret hi ?_
  dsimp only
  rw [hv1,w64s hu.1 (by omega)]
  refine recD_of ?_ (by omega) (by omega) (by omega) (by simp) (by simp) (by simp)
  have i2 : inR (1 + u) 1 9999 = true:=by unfold inR; simp; omega
  have i4 : inR 5 1 5 = true:=by decide
  unfold recOk
  simp [iv,i2,i4]
theorem RecD.sz {r : TRec} (h : RecD r) : Sz_TRec r:=⟨by have:=h.user; omega,by have:=h.name; omega,by have:=h.text; omega⟩
def hd (g : TLog) : TSeg:=(g.Used[g.Used.length - 1]?).getD { No:=0,Gen:=0,End:=0,Items:=[] }
def hdF (gen : Int) : TFrame:={ Gen:=gen,Seq:=1,Body:=[115,101,103] }
def hdT (gen : Int) : List UInt8:=(frameText (hdF gen)).1
theorem hdF_ok {gen : Int} (h : 1 ≤ gen ∧ gen ≤ 1000000000) : (frameText (hdF gen)).2 = true:=by
 unfold frameText
 rw [if_pos]
 unfold frameOk hdF inR
 simp; omega
theorem hdT_len (gen : Int) : (hdT gen).length ≤ 217:=by
 unfold hdT frameText
 split
 ·rename_i h
  have:=frameT_len h
  have e:=sealL_len (frameT (hdF gen))
  rw [List.length_append]; omega
 ·simp
def openG (g : TLog) : TLog:={ g with Disk:=poke g.Disk (256 * (g.Used.length + 1)) (hdT g.NextGen),Used:=g.Used ++ [{ No:=(g.Used.length : Int),Gen:=g.NextGen,End:=((hdT g.NextGen).length : Int),Items:=[] }],NextGen:=g.NextGen + 1 }
def appG (g : TLog) (x : TItem) (T : List UInt8) : TLog:={ g with Disk:=poke g.Disk (256 * g.Used.length + (hd g).End.toNat) T,Used:=g.Used.dropLast ++ [{ No:=(hd g).No,Gen:=(hd g).Gen,End:=(hd g).End + (T.length : Int),Items:=(hd g).Items ++ [x] }],NextSeq:=if x.Seq ≥ g.NextSeq then x.Seq + 1 else g.NextSeq,NextValid:=if x.Rec.Valid ≥ g.NextValid then x.Rec.Valid + 1 else g.NextValid }
def openS (n : Nat) (g : TLog) (keep : Int) : Bool × TLog:=if keep < ((n - g.Used.length : Nat) : Int) then (true,openG g) else (false,g)
def frT (g : TLog) (f : TFrame) : List UInt8 × Bool:=frameText { Gen:=(hd g).Gen,Seq:=f.Seq,Body:=f.Body }
def appS (n : Nat) (g : TLog) (x : TItem) (keep : Int) : Bool × TLog :=
 let f:=itemFrame x (hd g).Gen
 let t:=frameText f.1
 if f.2 = false then (false,g) else if t.2 = false then (false,g) else if x.Seq ≥ 1000000000 then (false,g)
 else if (hd g).End + (t.1.length : Int) > 256 then
  (if (openS n g keep).1 then
   (if (frT (openG g) f.1).2 = false then (false,openG g) else if (hd (openG g)).End + ((frT (openG g) f.1).1.length : Int) > 256 then (false,openG g) else (true,appG (openG g) x (frT (openG g) f.1).1))
  else (false,g))
 else (true,appG g x t.1)
structure W (n : Nat) (S0 : Nat → List UInt8) (g : TLog) : Prop where
 rng : 5 ≤ n ∧ n ≤ 11
 ok : diskOk g.Disk = true
 cache : g.Disk.Cache = []
 sec : g.Disk.Sectors.length = 8 + 8 * n
 segs : g.Segs = (n : Int)
 used : ∀ (j : Nat) (s : TSeg),g.Used[j]? = some s → s.No = (j : Int) ∧ s.Gen = (j : Int) + 1 ∧ 0 ≤ s.End ∧ s.End ≤ 256
 len : 1 ≤ g.Used.length ∧ g.Used.length ≤ n
 gen : g.NextGen = (g.Used.length : Int) + 1
 seq : g.NextSeq = ((itemsOf g).length : Int) + 1
 stamp : g.Stamp = 1
 valid : 1 ≤ g.NextValid ∧ g.NextValid ≤ 4
 its : ∀ (i : Nat) (x : TItem),(itemsOf g)[i]? = some x → x.Seq = (i : Int) + 1 ∧ RecD x.Rec ∧ x.Rec.Valid < g.NextValid
 home : ∀ a,a < 8 → rsec g.Disk a = S0 a
theorem hd_last {g : TLog} {l : List TSeg} {s : TSeg} (h : g.Used = l ++ [s]) : hd g = s:=by
 unfold hd; rw [h]; simp
theorem used_last {g : TLog} (h : 1 ≤ g.Used.length) : g.Used = g.Used.dropLast ++ [hd g]:=by
 have h0 : g.Used ≠ []:=by intro e; rw [e] at h; simp at h
 have:=List.dropLast_concat_getLast h0
 conv=>lhs; rw [← this]
 have e : hd g = g.Used.getLast h0:=hd_last this.symm
 rw [e]
theorem hd_at {g : TLog} (h : 1 ≤ g.Used.length) : g.Used[g.Used.length - 1]? = some (hd g):=by
 unfold hd
 rw [List.getElem?_eq_getElem (by omega)]; rfl
theorem W.hd {n : Nat} {S0 : Nat → List UInt8} {g : TLog} (h : W n S0 g) : (hd g).No = (g.Used.length : Int) - 1 ∧ (V.hd g).Gen = (g.Used.length : Int) ∧ 0 ≤ (V.hd g).End ∧ (V.hd g).End ≤ 256:=by
 have h1:=h.len.1
 obtain ⟨a,b,c,d⟩:=h.used _ _ (hd_at h1)
 refine ⟨by omega,by omega,c,d⟩
theorem W.usedNo {n : Nat} {S0 : Nat → List UInt8} {g : TLog} (h : W n S0 g) (i : Nat) : usedNo g (i : Int) = decide (i < g.Used.length):=by
 unfold V.usedNo
 rw [Bool.eq_iff_iff,List.any_eq_true,decide_eq_true_iff]
 constructor
 ·rintro ⟨s,hs,he⟩
  obtain ⟨j,hj⟩:=List.getElem?_of_mem hs
  have:=h.used j s hj
  have hl:=(List.getElem?_eq_some_iff.1 hj).1
  have he':=beq_iff_eq.1 he
  omega
 ·intro hi
  refine ⟨g.Used[i],List.getElem_mem hi,?_⟩
  have:=h.used i _ (List.getElem?_eq_getElem hi)
  rw [this.1]; simp
theorem filt_range : ∀ n : Nat,n < 12 → ∀ u : Nat,u < 12 → u ≤ n → (List.range n).filter (fun i=>!decide (i < u)) = List.range' u (n - u):=by decide
theorem W.free {n : Nat} {S0 : Nat → List UInt8} {g : TLog} (h : W n S0 g) : freeSegs g = (List.range' g.Used.length (n - g.Used.length)).map fun (k : Nat)=>(k : Int):=by
 have hn:=h.rng
 have hl:=h.len
 unfold freeSegs
 have e : nSegs g = n:=by unfold nSegs; rw [h.segs,if_neg (by omega)]; rfl
 rw [e,← filt_range n (by omega) g.Used.length (by omega) hl.2]
 congr 2
 funext i
 rw [h.usedNo i]
theorem spec_segW {d : TDisk} (h : diskOk d = true) (hc : d.Cache = []) {T : List UInt8} {no t : Nat} (hno : no ≤ 10) (hs : 16 + 8 * no ≤ d.Sectors.length) (ht : t + T.length ≤ 256) :
  ∃ d1,F_spec_SegWrite d (no : Int) (t : Int) T = some (d1,true) ∧ F_spec_FlushDisk d1 = some (poke d (256 * (no + 1) + t) T):=by
 obtain ⟨d1,e1,e2⟩:=spec_poke h hc (T:=T) (s:=8 + 8 * no) (t:=t) (by omega) (by omega) (by omega) (by omega)
 refine ⟨d1,?_,by rw [e2]; congr 2; omega⟩
 unfold F_spec_SegWrite F_spec_SegFirst
 rw [spec_in,ob,if_pos (by unfold inR; simp; omega),spec_in,ob,if_pos (by unfold inR; simp; omega)]
 rw [if_neg (by rw [w64_id (by omega) (by omega)]; simp; omega),ob,if_neg (by simp)]
 simp only [spec_in,ob]
 rw [if_pos (by unfold inR; simp; omega),ob,w64_id (n:=(no : Int) * 8) (by omega) (by omega),w64_id (by omega) (by omega),show (8 : Int) + (no : Int) * 8 = ((8 + 8 * no : Nat) : Int) by omega,e1]
 rfl
theorem spec_open {n : Nat} {S0 : Nat → List UInt8} {g : TLog} (h : W n S0 g) {keep : Int} (hk : 0 ≤ keep) : F_spec_l09Open_w3 g keep = some (openS n g keep):=by
 have hn:=h.rng
 have hl:=h.len
 unfold F_spec_l09Open_w3 openS
 show (F_spec_FreeSegs g).bind _ = _
 rw [spec_freeSegs (by omega),ob,if_neg (by simp; omega),h.free]
 by_cases c : keep < ((n - g.Used.length : Nat) : Int)
 ·rw [if_neg (by simp; omega),ob,if_neg (by simp),if_pos c]
  show (F_spec_FrameText (hdF g.NextGen)).bind _ = _
  have ho:=hdF_ok (gen:=g.NextGen) (by rw [h.gen]; omega)
  have ha : at? ((List.range' g.Used.length (n - g.Used.length)).map fun (k : Nat)=>(k : Int)) 0 = some (g.Used.length : Int):=by
   rw [show (0 : Int) = ((0 : Nat) : Int) from rfl,at?_nat (by simp; omega)]; simp
  rw [spec_frameText,ob,ha,ob]
  have ht:=hdT_len g.NextGen
  obtain ⟨d1,e1,e2⟩:=spec_segW h.ok h.cache (T:=hdT g.NextGen) (no:=g.Used.length) (t:=0) (by omega) (by rw [h.sec]; omega) (by omega)
  show (F_spec_SegWrite g.Disk (g.Used.length : Int) ((0 : Nat) : Int) (hdT g.NextGen)).bind _ = _
  rw [e1,ob,ho,if_neg (by simp),if_neg (by simp),if_neg (by rw [h.gen]; simp; omega),ob,if_neg (by simp),e2,ob,app?_ok (by simp; omega) (by simp; omega),ob,ob,app?_ok (by simp; omega) (by simp; omega),ob,w64_id (n:=g.NextGen + 1) (by rw [h.gen]; omega) (by rw [h.gen]; omega)]
  rfl
 ·rw [if_pos (by simp; omega),ob,if_pos rfl,if_neg c]
theorem W.openG {n : Nat} {S0 : Nat → List UInt8} {g : TLog} (h : W n S0 g) (hu : g.Used.length < n) : W n S0 (openG g):=by
 have hn:=h.rng
 have hl:=h.len
 have ht:=hdT_len g.NextGen
 have hi : itemsOf (V.openG g) = itemsOf g:=by unfold itemsOf V.openG; simp
 refine ⟨hn,poke_ok h.ok _ _,rfl,by unfold V.openG; rw [poke_len]; exact h.sec,h.segs,?_,by simp [V.openG]; omega,by simp only [V.openG,List.length_append,List.length_singleton]; rw [h.gen]; omega,by rw [hi]; exact h.seq,h.stamp,h.valid,by rw [hi]; exact h.its,?_⟩
 ·intro j s hs
  simp only [V.openG] at hs
  by_cases c : j < g.Used.length
  ·rw [List.getElem?_append_left c] at hs
   exact h.used j s hs
  ·rw [List.getElem?_append_right (by omega)] at hs
   have : j - g.Used.length = 0:=by
    by_cases e : j - g.Used.length = 0
    ·exact e
    ·rw [List.getElem?_eq_none (by simp; omega)] at hs; cases hs
   rw [this] at hs
   simp only [List.getElem?_cons_zero,Option.some.injEq] at hs
   subst hs
   refine ⟨by simp only; omega,by simp only; rw [h.gen]; omega,by simp only; omega,by simp only; omega⟩
 ·intro a ha
  have:=h.sec
  show rsec (poke g.Disk _ _) a = _
  rw [poke_same h.ok (by omega) (by omega)]
  exact h.home a ha
theorem W.appG {n : Nat} {S0 : Nat → List UInt8} {g : TLog} (h : W n S0 g) {x : TItem} {T : List UInt8} (hx : x.Seq = g.NextSeq) (hr : RecD x.Rec) (hT : (V.hd g).End + (T.length : Int) ≤ 256) : W n S0 (appG g x T) ∧ itemsOf (V.appG g x T) = itemsOf g ++ [x]:=by
 have hn:=h.rng
 have hl:=h.len
 obtain ⟨h1,h2,h3,h4⟩:=h.hd
 have hu:=used_last hl.1
 have hi : itemsOf (V.appG g x T) = itemsOf g ++ [x]:=by
  unfold itemsOf V.appG
  conv=>rhs; rw [hu]
  simp
 have hlen : (V.appG g x T).Used.length = g.Used.length:=by unfold V.appG; simp; omega
 have hv:=hr.valid
 refine ⟨⟨hn,poke_ok h.ok _ _,rfl,by unfold V.appG; rw [poke_len]; exact h.sec,h.segs,?_,by rw [hlen]; exact hl,by rw [hlen]; exact h.gen,?_,h.stamp,?_,?_,?_⟩,hi⟩
 ·intro j s hs
  simp only [V.appG] at hs
  by_cases c : j < g.Used.length - 1
  ·rw [List.getElem?_append_left (by simp; omega)] at hs
   refine h.used j s ?_
   rw [hu,List.getElem?_append_left (by simp; omega)]
   exact hs
  ·rw [List.getElem?_append_right (by simp; omega)] at hs
   have e : j - g.Used.dropLast.length = 0:=by
    by_cases e : j - g.Used.dropLast.length = 0
    ·exact e
    ·rw [List.getElem?_eq_none (by simp at e ⊢; omega)] at hs; cases hs
   rw [e] at hs
   simp only [List.getElem?_cons_zero,Option.some.injEq] at hs
   subst hs
   simp only [List.length_dropLast] at e
   refine ⟨by simp only; omega,by simp only; omega,by simp only; omega,by simp only; omega⟩
 ·rw [hi]
  show (if x.Seq ≥ g.NextSeq then x.Seq + 1 else g.NextSeq) = _
  rw [if_pos (by omega),hx,h.seq]; simp
 ·have:=h.valid
  show 1 ≤ (if x.Rec.Valid ≥ g.NextValid then x.Rec.Valid + 1 else g.NextValid) ∧ (if x.Rec.Valid ≥ g.NextValid then x.Rec.Valid + 1 else g.NextValid) ≤ 4
  split <;> omega
 ·intro i y hy
  rw [hi] at hy
  have hge : g.NextValid ≤ (V.appG g x T).NextValid ∧ x.Rec.Valid < (V.appG g x T).NextValid:=by
   show g.NextValid ≤ (if x.Rec.Valid ≥ g.NextValid then x.Rec.Valid + 1 else g.NextValid) ∧ x.Rec.Valid < (if x.Rec.Valid ≥ g.NextValid then x.Rec.Valid + 1 else g.NextValid)
   split <;> omega
  by_cases c : i < (itemsOf g).length
  ·rw [List.getElem?_append_left c] at hy
   obtain ⟨a1,a2,a3⟩:=h.its i y hy
   exact ⟨a1,a2,by omega⟩
  ·rw [List.getElem?_append_right (by omega)] at hy
   have e : i - (itemsOf g).length = 0:=by
    by_cases e : i - (itemsOf g).length = 0
    ·exact e
    ·rw [List.getElem?_eq_none (by simp; omega)] at hy; cases hy
   rw [e] at hy
   simp only [List.getElem?_cons_zero,Option.some.injEq] at hy
   subst hy
   refine ⟨by rw [hx,h.seq]; omega,hr,hge.2⟩
 ·intro a ha
  have:=h.sec
  show rsec (poke g.Disk _ _) a = _
  rw [poke_same h.ok (by omega) (by omega)]
  exact h.home a ha
theorem frameText_len (f : TFrame) : (frameText f).1.length ≤ 217:=by
 unfold frameText
 split
 ·rename_i h
  have:=frameT_len h
  have e:=sealL_len (frameT f)
  rw [List.length_append]; omega
 ·simp
theorem set_last {α : Type} {l : List α} {y : α} (h : 1 ≤ l.length) : l.set (l.length - 1) y = l.dropLast ++ [y]:=by
 have h0 : l ≠ []:=by intro e; rw [e] at h; simp at h
 obtain ⟨a,b,rfl⟩ : ∃ a b,l = a ++ [b]:=⟨l.dropLast,l.getLast h0,(List.dropLast_concat_getLast h0).symm⟩
 simp
theorem w_items {n : Nat} {S0 : Nat → List UInt8} {g : TLog} (h : W n S0 g) : ∀ y ∈ itemsOf g,RecD y.Rec:=by
 intro y hy
 obtain ⟨i,hi⟩:=List.getElem?_of_mem hy
 exact (h.its i y hi).2.1
theorem hd_items {g : TLog} (h : 1 ≤ g.Used.length) : (hd g).Items.length ≤ (itemsOf g).length:=by
 unfold itemsOf
 conv=>rhs; rw [used_last h]
 simp
theorem spec_app {n : Nat} {S0 : Nat → List UInt8} {g : TLog} (h : W n S0 g) (hm : (itemsOf g).length ≤ 1000) {x : TItem} (hx : 0 ≤ x.Seq ∧ x.Seq ≤ 1000000000) (hv : x.Rec.Valid ≤ 1000000000) (hv0 : 0 ≤ x.Rec.Valid) {T : List UInt8} (hT : (hd g).End + (T.length : Int) ≤ 256) :
  ((F_spec_SegWrite g.Disk (hd g).No (hd g).End T).bind fun v4=>(if !v4.2 then some (false,g) else (F_spec_FlushDisk v4.1).bind fun v5=>(app? 96 ([] : List TItem) (hd g).Items).bind fun v6=>(app? 96 v6 ([x] : List TItem)).bind fun v7=>(some (hd g)).bind fun v8=>(some (set' g.Used (w64 ((g.Used.length : Int) - 1)) ({ No:=(hd g).No,Gen:=(hd g).Gen,End:=(hd g).End + (T.length : Int),Items:=v7 } : TSeg))).bind fun v9=>(if decide (x.Seq ≥ g.NextSeq) then (if decide (x.Rec.Valid ≥ g.NextValid) then some (true,({ Disk:=({ Sectors:=v5.Sectors,Cache:=v5.Cache } : TDisk),Segs:=g.Segs,Used:=v9,NextGen:=g.NextGen,NextSeq:=w64 (x.Seq + 1),Stamp:=g.Stamp,NextValid:=w64 (x.Rec.Valid + 1) } : TLog)) else some (true,({ Disk:=({ Sectors:=v5.Sectors,Cache:=v5.Cache } : TDisk),Segs:=g.Segs,Used:=v9,NextGen:=g.NextGen,NextSeq:=w64 (x.Seq + 1),Stamp:=g.Stamp,NextValid:=g.NextValid } : TLog))) else (if decide (x.Rec.Valid ≥ g.NextValid) then some (true,({ Disk:=({ Sectors:=v5.Sectors,Cache:=v5.Cache } : TDisk),Segs:=g.Segs,Used:=v9,NextGen:=g.NextGen,NextSeq:=g.NextSeq,Stamp:=g.Stamp,NextValid:=w64 (x.Rec.Valid + 1) } : TLog)) else some (true,({ Disk:=({ Sectors:=v5.Sectors,Cache:=v5.Cache } : TDisk),Segs:=g.Segs,Used:=v9,NextGen:=g.NextGen,NextSeq:=g.NextSeq,Stamp:=g.Stamp,NextValid:=g.NextValid } : TLog))))) : Option (Bool × TLog)) = some (true,appG g x T):=by
 have hn:=h.rng
 have hl:=h.len
 obtain ⟨h1,h2,h3,h4⟩:=h.hd
 have hit:=hd_items hl.1
 obtain ⟨d1,e1,e2⟩:=spec_segW h.ok h.cache (T:=T) (no:=g.Used.length - 1) (t:=(hd g).End.toNat) (by omega) (by rw [h.sec]; omega) (by omega)
 rw [show (hd g).No = ((g.Used.length - 1 : Nat) : Int) by omega]
 have e1' : F_spec_SegWrite g.Disk ((g.Used.length - 1 : Nat) : Int) (hd g).End T = some (d1,true):=by
  rw [← e1]; congr 1; omega
 rw [e1',ob,if_neg (by simp),e2,ob,app?_ok (by simp; omega) (by simp; omega),ob,app?_ok (by simp; omega) (by simp; omega),ob]
 rw [w64_id (n:=(g.Used.length : Int) - 1) (by omega) (by omega),show (g.Used.length : Int) - 1 = ((g.Used.length - 1 : Nat) : Int) by omega,ob,ob,set'_nat,set_last hl.1]
 rw [w64_id (n:=x.Seq + 1) (by omega) (by omega),w64_id (n:=x.Rec.Valid + 1) (by omega) (by omega)]
 unfold appG
 rw [show 256 * (g.Used.length - 1 + 1) = 256 * g.Used.length by omega,show ((g.Used.length - 1 : Nat) : Int) = (hd g).No by omega]
 by_cases c1 : x.Seq ≥ g.NextSeq
 ·rw [if_pos (by simpa using c1),if_pos c1]
  by_cases c2 : x.Rec.Valid ≥ g.NextValid
  ·rw [if_pos (by simpa using c2),if_pos c2]; rfl
  ·rw [if_neg (by simpa using c2),if_neg c2]; rfl
 ·rw [if_neg (by simpa using c1),if_neg c1]
  by_cases c2 : x.Rec.Valid ≥ g.NextValid
  ·rw [if_pos (by simpa using c2),if_pos c2]; rfl
  ·rw [if_neg (by simpa using c2),if_neg c2]; rfl
theorem spec_append {n : Nat} {S0 : Nat → List UInt8} {g : TLog} (h : W n S0 g) (hm : (itemsOf g).length ≤ 1000) {x : TItem} (hx : 0 ≤ x.Seq) (hr : RecS x.Rec) (hv : x.Rec.Valid ≤ 1000000000) (hv0 : 0 ≤ x.Rec.Valid) {keep : Int} (hk : 0 ≤ keep) : F_spec_l09Append_w2 g x keep = some (appS n g x keep):=by
 have hn:=h.rng
 have hl:=h.len
 obtain ⟨h1,h2,h3,h4⟩:=h.hd
 unfold F_spec_l09Append_w2 appS
 have ha : ∀ g : TLog,1 ≤ g.Used.length → g.Used.length ≤ 11 → at? g.Used (w64 ((g.Used.length : Int) - 1)) = some (hd g):=by
  intro g a b
  rw [w64_id (n:=(g.Used.length : Int) - 1) (by omega) (by omega),show (g.Used.length : Int) - 1 = ((g.Used.length - 1 : Nat) : Int) by omega,at?_eq (hd_at a)]
 have l1:=frameText_len (itemFrame x (hd g).Gen).1
 rw [ha g hl.1 (by omega),ob,spec_itemFrame hr,ob,spec_frameText,ob]
 dsimp only
 cases c1 : (itemFrame x (hd g).Gen).2
 ·rfl
 ·simp only [Bool.not_true,Bool.not_false,Bool.false_eq_true,Bool.true_eq_false,if_false,if_true]
  cases c2 : (frameText (itemFrame x (hd g).Gen).1).2
  ·rfl
  ·simp only [Bool.not_true,Bool.not_false,Bool.false_eq_true,Bool.true_eq_false,if_false,if_true]
   by_cases c3 : x.Seq ≥ 1000000000
   ·rw [if_pos (by simpa using c3),if_pos c3]
   ·rw [if_neg (by simpa using c3),if_neg c3,w64_id (n:=(hd g).End + _) (by omega) (by omega)]
    by_cases c4 : (hd g).End + ((frameText (itemFrame x (hd g).Gen).1).1.length : Int) > 256
    ·rw [if_pos (by simpa using c4),if_pos c4]
     show (F_spec_l09Open_w3 g keep).bind _ = _
     rw [spec_open h hk,ob]
     unfold openS
     by_cases c5 : keep < ((n - g.Used.length : Nat) : Int)
     ·have hw:=h.openG (by omega)
      obtain ⟨k1,k2,k3,k4⟩:=hw.hd
      rw [if_pos c5]
      dsimp only
      simp only [Bool.not_true,Bool.not_false,Bool.false_eq_true,Bool.true_eq_false,if_false,if_true]
      rw [ha (openG g) hw.len.1 (by have:=hw.len.2; omega),ob,spec_frameText,ob]
      have l2:=frameText_len { Gen:=(hd (openG g)).Gen,Seq:=(itemFrame x (hd g).Gen).1.Seq,Body:=(itemFrame x (hd g).Gen).1.Body }
      have hi : itemsOf (openG g) = itemsOf g:=by unfold itemsOf openG; simp
      unfold frT
      cases c6 : (frameText { Gen:=(hd (openG g)).Gen,Seq:=(itemFrame x (hd g).Gen).1.Seq,Body:=(itemFrame x (hd g).Gen).1.Body }).2
      ·rfl
      ·simp only [Bool.not_true,Bool.not_false,Bool.false_eq_true,Bool.true_eq_false,if_false,if_true]
       rw [w64_id (n:=(hd (openG g)).End + _) (by omega) (by omega)]
       by_cases c7 : (hd (openG g)).End + ((frameText { Gen:=(hd (openG g)).Gen,Seq:=(itemFrame x (hd g).Gen).1.Seq,Body:=(itemFrame x (hd g).Gen).1.Body }).1.length : Int) > 256
       ·rw [if_pos (by simpa using c7),if_pos c7]
       ·rw [if_neg (by simpa using c7),if_neg c7]
        exact spec_app hw (by rw [hi]; exact hm) ⟨hx,by omega⟩ hv hv0 (T:=(frameText { Gen:=(hd (openG g)).Gen,Seq:=(itemFrame x (hd g).Gen).1.Seq,Body:=(itemFrame x (hd g).Gen).1.Body }).1) (by omega)
     ·rw [if_neg c5]
      rfl
    ·rw [if_neg (by simpa using c4),if_neg c4]
     exact spec_app h hm ⟨hx,by omega⟩ hv hv0 (T:=(frameText (itemFrame x (hd g).Gen).1).1) (by omega)
theorem appS_cases (n : Nat) (g : TLog) (x : TItem) (keep : Int) : ((appS n g x keep).2 = g ∧ (appS n g x keep).1 = false) ∨ ((appS n g x keep).2 = openG g ∧ (appS n g x keep).1 = false ∧ keep < ((n - g.Used.length : Nat) : Int)) ∨ (∃ T,appS n g x keep = (true,appG g x T) ∧ T = (frameText (itemFrame x (hd g).Gen).1).1 ∧ (itemFrame x (hd g).Gen).2 = true ∧ (frameText (itemFrame x (hd g).Gen).1).2 = true ∧ (hd g).End + (T.length : Int) ≤ 256) ∨
  (∃ T,appS n g x keep = (true,appG (openG g) x T) ∧ T = (frT (openG g) (itemFrame x (hd g).Gen).1).1 ∧ (itemFrame x (hd g).Gen).2 = true ∧ (frT (openG g) (itemFrame x (hd g).Gen).1).2 = true ∧ (hd (openG g)).End + (T.length : Int) ≤ 256 ∧ keep < ((n - g.Used.length : Nat) : Int)):=by
 generalize hr : appS n g x keep = r
 unfold appS openS at hr
 dsimp only at hr
 split at hr
 ·subst hr; exact .inl ⟨rfl,rfl⟩
 ·rename_i a1
  split at hr
  ·subst hr; exact .inl ⟨rfl,rfl⟩
  ·rename_i a2
   split at hr
   ·subst hr; exact .inl ⟨rfl,rfl⟩
   ·split at hr
    ·by_cases c : keep < ((n - g.Used.length : Nat) : Int)
     ·rw [if_pos c] at hr
      dsimp only at hr
      rw [if_pos rfl] at hr
      split at hr
      ·subst hr; exact .inr (.inl ⟨rfl,rfl,c⟩)
      ·rename_i a5
       split at hr
       ·subst hr; exact .inr (.inl ⟨rfl,rfl,c⟩)
       ·rename_i a6
        subst hr
        exact .inr (.inr (.inr ⟨_,rfl,rfl,by simpa using a1,by simpa using a5,by omega,c⟩))
     ·rw [if_neg c] at hr
      dsimp only at hr
      rw [if_neg (by simp)] at hr
      subst hr; exact .inl ⟨rfl,rfl⟩
    ·rename_i a4
     subst hr
     exact .inr (.inr (.inl ⟨_,rfl,rfl,by simpa using a1,by simpa using a2,by omega⟩))
theorem len_sum {s : TSeg} : ∀ (l : List TSeg),s ∈ l → s.Items.length ≤ (l.map fun x=>x.Items.length).sum
 | [],h=>by cases h
 | x :: l,h=>by
  rw [List.map_cons,List.sum_cons]
  rcases List.mem_cons.1 h with e | h
  ·rw [e]; omega
  ·have:=len_sum l h; omega
theorem W.appS {n : Nat} {S0 : Nat → List UInt8} {g : TLog} (h : W n S0 g) {x : TItem} (hx : x.Seq = g.NextSeq) (hr : RecD x.Rec) {keep : Int} (hk : 0 ≤ keep) : W n S0 (appS n g x keep).2 ∧ (itemsOf (V.appS n g x keep).2).length ≤ (itemsOf g).length + 1:=by
 have hi : itemsOf (V.openG g) = itemsOf g:=by unfold itemsOf V.openG; simp
 rcases appS_cases n g x keep with ⟨e,_⟩ | ⟨e,_,c⟩ | ⟨T,e,_,_,_,c⟩ | ⟨T,e,_,_,_,c,c'⟩
 ·rw [e]; exact ⟨h,by omega⟩
 ·rw [e]; exact ⟨h.openG (by omega),by rw [hi]; omega⟩
 ·rw [e]
  have:=h.appG hx hr c
  exact ⟨this.1,by rw [this.2]; simp⟩
 ·rw [e]
  have:=(h.openG (by omega)).appG (x:=x) (T:=T) hx hr c
  exact ⟨this.1,by rw [this.2,hi]; simp⟩
theorem W.lgn {n : Nat} {S0 : Nat → List UInt8} {g : TLog} (h : W n S0 g) (hm : (itemsOf g).length ≤ 1000) : LgN g:=by
 have hn:=h.rng
 have hl:=h.len
 have hw:=w_items h
 have ht : (itemsOf g).length = (g.Used.map fun x=>x.Items.length).sum:=by unfold itemsOf; rw [List.length_flatMap]
 refine ⟨by omega,fun s hs=>⟨?_,fun y hy=>⟨(hw y (List.mem_flatMap.2 ⟨s,hs,hy⟩)).sz⟩⟩,by omega⟩
 have : s.Items.length ≤ (g.Used.map fun x=>x.Items.length).sum:=len_sum _ hs
 omega
theorem spec_fits {n : Nat} {S0 : Nat → List UInt8} {g : TLog} (h : W n S0 g) (hm : (itemsOf g).length < 200) {x : TItem} (hx : x.Seq = g.NextSeq) : F_spec_l09Fits g x = some true:=by
 have a1:=any_loop (l:=itemsOf g) (k:=(itemsOf g).length) (by omega) (q:=fun _=>false) (step:=S_spec_l09Fits_1 x (itemsOf g)) (bad:=.inl false) (good:=.inr ()) (by
  intro i hi _
  have:=(h.its i _ (List.getElem?_eq_getElem hi)).1
  have hs:=h.seq
  unfold S_spec_l09Fits_1
  rw [if_pos (dlt hi),at?_nat hi,ob,if_neg (by simp; omega),ob,if_neg (by simp),if_neg (by simp),w64_succ (by omega)]) (by unfold S_spec_l09Fits_1; simp)
 unfold F_spec_l09Fits
 rw [spec_itemsOf (h.lgn (by omega)),ob,a1]
 simp; omega
theorem vt_1 {n : Int} (h : 0 ≤ n) (h' : n < 128) : (vt n).length = 1:=by
 unfold vt
 rw [if_pos h,vtl_small (by omega)]; rfl
theorem ctOut_len {c : TCheck} (h1 : 0 ≤ c.Stamp ∧ c.Stamp < 128) (h2 : 0 ≤ c.NextGen ∧ c.NextGen < 128) (h3 : 0 ≤ c.NextSeq ∧ c.NextSeq < 128) (h4 : 0 ≤ c.NextValid ∧ c.NextValid < 128) (h5 : c.Refs.length ≤ 11) (h6 : ∀ r ∈ c.Refs,(0 ≤ r.No ∧ r.No < 128) ∧ 0 ≤ r.Gen ∧ r.Gen < 128) : (ctOut c).length ≤ 64:=by
 have e1:=vt_1 h1.1 h1.2
 have e2:=vt_1 h2.1 h2.2
 have e3:=vt_1 h3.1 h3.2
 have e4:=vt_1 h4.1 h4.2
 have e5:=vt_1 (n:=(c.Refs.length : Int)) (by omega) (by omega)
 have key : ∀ l : List TRef,(∀ r ∈ l,(0 ≤ r.No ∧ r.No < 128) ∧ 0 ≤ r.Gen ∧ r.Gen < 128) → (l.flatMap refT).length = 2 * l.length:=by
  intro l
  induction l with
  | nil=>intro _; rfl
  | cons r l ih =>
   intro hl
   have hr:=hl r List.mem_cons_self
   have f1:=vt_1 hr.1.1 hr.1.2
   have f2:=vt_1 hr.2.1 hr.2.2
   rw [List.flatMap_cons,List.length_append,ih fun r hr=>hl r (List.mem_cons_of_mem _ hr)]
   unfold refT
   simp [f1,f2]; omega
 have hk:=key c.Refs h6
 unfold ctOut short ctBody ctHead
 have hs:=sealL_len
 simp only [List.length_append,hs,e1,e2,e3,e4,e5,hk]
 have e6:=vt_1 (n:=((1 + 1 + 1 + 1 + 1 + 2 * c.Refs.length + 4 : Nat) : Int)) (by omega) (by omega)
 rw [e6]; omega
theorem checkText_yes {c : TCheck} (h : checkOk c = true) (hl : (ctOut c).length ≤ 128) : checkText c = (ctOut c,true):=by
 unfold checkText
 rw [if_pos h,if_neg (by omega)]
theorem W.check {n : Nat} {S0 : Nat → List UInt8} {g : TLog} (h : W n S0 g) (hm : (itemsOf g).length ≤ 100) : checkOk (checkOf g) = true ∧ (ctOut (checkOf g)).length ≤ 64:=by
 have hn:=h.rng
 have hl:=h.len
 have hlen : (checkOf g).Refs.length = g.Used.length:=by unfold checkOf; simp
 have hget : ∀ j : Nat,∀ r,(checkOf g).Refs[j]? = some r → r.No = (j : Int) ∧ r.Gen = (j : Int) + 1:=by
  intro j r hr
  unfold checkOf at hr
  simp only [List.getElem?_map,Option.map_eq_some_iff] at hr
  obtain ⟨s,hs,rfl⟩:=hr
  have:=h.used j s hs
  exact ⟨this.1,this.2.1⟩
 have hstamp : (checkOf g).Stamp = 2:=by unfold checkOf; simp only; rw [h.stamp]; rfl
 have hgen : (checkOf g).NextGen = (g.Used.length : Int) + 1:=h.gen
 have hseq : (checkOf g).NextSeq = ((itemsOf g).length : Int) + 1:=h.seq
 have hval : 1 ≤ (checkOf g).NextValid ∧ (checkOf g).NextValid ≤ 4:=h.valid
 constructor
 ·have hall : ∀ i,i < g.Used.length → okS (checkOf g).Refs (checkOf g).NextGen i = true:=by
   intro i hi
   have he : (checkOf g).Refs[i]? = some ((checkOf g).Refs[i]'(by omega)):=List.getElem?_eq_getElem _
   have hr:=hget i _ he
   generalize (checkOf g).Refs[i]'(by omega) = r at he hr
   unfold okS
   rw [he]
   dsimp only
   rw [hgen,w64_id (by omega) (by omega)]
   have a1 : inR r.No 0 10 = true:=inR_iff.2 (by omega)
   have a2 : inR r.Gen 1 ((g.Used.length : Int) + 1 - 1) = true:=inR_iff.2 (by omega)
   rw [a1,a2]
   have a3 : (i == 0 || decide (lastG (checkOf g).Refs i < r.Gen)) = true:=by
    cases i with
    | zero=>rfl
    | succ k =>
     rw [lastG_succ (by omega)]
     have:=hget k _ (List.getElem?_eq_getElem (by omega))
     simp; omega
   have a4 : anyNo ((checkOf g).Refs.take i) r.No = false:=by
    unfold anyNo
    rw [List.any_eq_false]
    intro q hq
    obtain ⟨k,hk⟩:=List.getElem?_of_mem hq
    have hki : k < i:=by
     have:=(List.getElem?_eq_some_iff.1 hk).1
     simp at this; omega
    rw [List.getElem?_take_of_lt hki] at hk
    have:=hget k _ hk
    simp; omega
   rw [a3,a4]; rfl
  have hall':=List.all_eq_true.2 fun i hi=>hall i (List.mem_range.1 hi)
  have a1 : inR (checkOf g).Stamp 1 1000000000 = true:=inR_iff.2 (by omega)
  have a2 : inR (checkOf g).NextGen 1 1000000000 = true:=inR_iff.2 (by omega)
  have a3 : inR (checkOf g).NextSeq 1 1000000000 = true:=inR_iff.2 (by omega)
  have a4 : inR (checkOf g).NextValid 1 1000000000 = true:=inR_iff.2 (by omega)
  have a5 : inR (g.Used.length : Int) 1 11 = true:=inR_iff.2 (by omega)
  unfold checkOk stamps
  rw [hlen,hall',a1,a2,a3,a4,a5]; rfl
 ·refine ctOut_len (by omega) (by omega) (by omega) (by omega) (by omega) ?_
  intro r hr
  obtain ⟨j,hj⟩:=List.getElem?_of_mem hr
  have:=hget j r hj
  have:=(List.getElem?_eq_some_iff.1 hj).1
  omega
theorem writeB_poke {d : TDisk} (h : diskOk d = true) (hc : d.Cache = []) {s : Nat} {T : List UInt8} (hT : T.length ≤ 1000) (hs : s < d.Sectors.length) (hn : 32 * s + T.length ≤ 32 * d.Sectors.length) : (writeB d s T).2 = true ∧ flush (writeB d s T).1 = poke d (32 * s) T ∧ ∃ j,Wst d (32 * s) T j T.length (writeB d s T).1:=by
 have h100:=(diskOk_iff.1 h).1.2
 obtain ⟨d1,j,e,hw⟩:=spec_write h hc (T:=T) (s:=s) (t:=0) hT hs (by omega) (by omega)
 have e' : F_spec_WriteBytes d (s : Int) 0 T = some (d1,true):=e
 rw [spec_writeB h (by omega) (by omega)] at e'
 have:=Option.some.inj e'
 rw [this]
 exact ⟨rfl,hw.flush h,j,hw⟩
theorem writeC_poke {d : TDisk} (h : diskOk d = true) (hc : d.Cache = []) (hd : 8 ≤ d.Sectors.length) {c : TCheck} (hk : checkOk c = true) (hl : (ctOut c).length ≤ 128) : writeC d c = (poke d (128 * (c.Stamp.toNat % 2)) (ctOut c),true):=by
 obtain ⟨h1,h2,_⟩:=writeB_poke h hc (s:=4 * (c.Stamp.toNat % 2)) (T:=ctOut c) (by omega) (by omega) (by omega)
 unfold writeC
 rw [checkText_yes hk hl]
 dsimp only
 rw [if_pos ⟨rfl,h⟩,if_pos h1,h2]
 congr 2; omega
theorem open0_poke {k : Nat} (h : 5 ≤ k ∧ k ≤ 11) : (open0 k).2 = true ∧ (log1 k).Disk = poke (newDisk (8 + k * 8)) 256 headT:=by
 have hl:=head_len
 have:=writeB_poke (nd_ok h) rfl (s:=8) (T:=headT) (by omega) (by simp [newDisk]; omega) (by simp [newDisk]; omega)
 exact ⟨this.1,this.2.1⟩
def first8 (k : Nat) (a : Nat) : List UInt8:=rsec (fixd k).1 a
theorem log1_check (k : Nat) : checkOk (checkOf (log1 k)) = true ∧ (ctOut (checkOf (log1 k))).length ≤ 64:=by
 have e : checkOf (log1 k) = { Stamp:=1,NextGen:=2,NextSeq:=1,NextValid:=1,Refs:=[{ No:=0,Gen:=1 }] }:=rfl
 rw [e]
 refine ⟨by decide,ctOut_len (by decide) (by decide) (by decide) (by decide) (by decide) ?_⟩
 intro r hr
 rw [List.mem_singleton] at hr
 subst hr; decide
theorem fixd_poke {k : Nat} (h : 5 ≤ k ∧ k ≤ 11) : fixd k = (poke (log1 k).Disk 128 (ctOut (checkOf (log1 k))),true):=by
 have hd:=(open0_poke h).2
 have hc:=log1_check k
 unfold fixd
 rw [writeC_poke (log1_dk h) (by rw [hd]; rfl) (by rw [hd,poke_len]; simp [newDisk]) hc.1 (by omega)]
 rfl
theorem fmt_W {k : Nat} (h : 5 ≤ k ∧ k ≤ 11) : ∃ g,fmt (k : Int) = (g,true) ∧ W k (first8 k) g ∧ itemsOf g = []:=by
 have ho:=open0_poke h
 have hf:=fixd_poke h
 refine ⟨{ log1 k with Disk:=(fixd k).1,Stamp:=1 },?_,?_,rfl⟩
 ·unfold fmt fmtK
  rw [if_pos (by unfold inR; simp; omega),Int.toNat_natCast,if_pos (by rw [ho.1,hf]; rfl)]
 ·have hlen : (fixd k).1.Sectors.length = 8 + 8 * k:=by rw [hf]; simp only; rw [poke_len,ho.2,poke_len]; simp [newDisk,Nat.mul_comm]
  refine ⟨h,?_,?_,hlen,rfl,?_,by simp [log1]; omega,rfl,rfl,rfl,⟨by simp [log1],by simp [log1]⟩,?_,fun a _=>rfl⟩
  ·simp only; rw [hf]; exact poke_ok (log1_dk h) _ _
  ·simp only; rw [hf]; rfl
  ·intro j s hs
   simp only [log1] at hs
   cases j with
   | zero =>
    simp only [List.getElem?_cons_zero,Option.some.injEq] at hs
    subst hs
    have:=head_len
    refine ⟨rfl,rfl,by simp only; omega,by simp only; omega⟩
   | succ j=>simp at hs
  ·intro i x hx
   have : itemsOf { log1 k with Disk:=(fixd k).1,Stamp:=1 } = []:=rfl
   rw [this] at hx
   simp at hx
theorem RecD.rs {r : TRec} (h : RecD r) : RecS r:=⟨by have:=h.user; omega,by have:=h.name; omega,by have:=h.text; omega⟩
theorem dr_logQ {Q : Nat → TLog → Prop} (q0 : ∀ (k : Nat) (g : TLog),5 ≤ k ∧ k ≤ 8 → fmt (k : Int) = (g,true) → W k (first8 k) g → Q k g) (qs : ∀ (k : Nat) (g : TLog) (x : TItem),W k (first8 k) g → (itemsOf g).length ≤ 33 → Q k g → x.Seq = g.NextSeq → RecD x.Rec → Q k (appS k g x 1).2)
  {b : List Int} {i0 h0 : Int} (hi0 : IOk b i0) : Dr b (F_spec_l09Log_w ⟨b,i0,h0⟩) fun g=>∃ n,(5 ≤ n ∧ n ≤ 8) ∧ W n (first8 n) g ∧ (itemsOf g).length ≤ 33 ∧ Q n g:=by
 unfold F_spec_l09Log_w
 refine Dr.bind (dr_below hi0 (by omega) (by omega)) fun x i h hx hi=>?_
 obtain ⟨k,hk⟩ : ∃ k : Nat,w64 (5 + x) = (k : Int):=⟨(5 + x).toNat,by rw [w64_id (by omega) (by omega)]; omega⟩
 have hk' : 5 ≤ k ∧ k ≤ 8:=by rw [w64_id (by omega) (by omega)] at hk; omega
 obtain ⟨g0,e0,hw0,hit0⟩:=fmt_W (k:=k) (by omega)
 simp only
 rw [hk,spec_fmt,e0,ob]
 have key : ∃ r,iter (S_spec_l09Log_w_1 ⟨b,i0,h0⟩) (0,i,h,g0.Segs,g0.NextGen,g0.NextSeq,g0.Stamp,g0.NextValid,g0.Disk.Sectors,g0.Disk.Cache,g0.Used) = some r ∧ (IOk b r.1 ∧ W k (first8 k) { Disk:={ Sectors:=r.2.2.2.2.2.2.2.1,Cache:=r.2.2.2.2.2.2.2.2.1 },Segs:=r.2.2.1,Used:=r.2.2.2.2.2.2.2.2.2,NextGen:=r.2.2.2.1,NextSeq:=r.2.2.2.2.1,Stamp:=r.2.2.2.2.2.1,NextValid:=r.2.2.2.2.2.2.1 } ∧ (itemsOf { Disk:={ Sectors:=r.2.2.2.2.2.2.2.1,Cache:=r.2.2.2.2.2.2.2.2.1 },Segs:=r.2.2.1,Used:=r.2.2.2.2.2.2.2.2.2,NextGen:=r.2.2.2.1,NextSeq:=r.2.2.2.2.1,Stamp:=r.2.2.2.2.2.1,NextValid:=r.2.2.2.2.2.2.1 }).length ≤ 33 ∧ Q k { Disk:={ Sectors:=r.2.2.2.2.2.2.2.1,Cache:=r.2.2.2.2.2.2.2.2.1 },Segs:=r.2.2.1,Used:=r.2.2.2.2.2.2.2.2.2,NextGen:=r.2.2.2.1,NextSeq:=r.2.2.2.2.1,Stamp:=r.2.2.2.2.2.1,NextValid:=r.2.2.2.2.2.2.1 }):=by
  refine iter_inv (fun s : Int × Int × Int × Int × Int × Int × Int × Int × (List (List UInt8)) × (List TWrite) × (List TSeg)=>(0 ≤ s.1 ∧ s.1 ≤ 33) ∧ IOk b s.2.1 ∧ ∃ g : TLog,s.2.2.2 = (g.Segs,g.NextGen,g.NextSeq,g.Stamp,g.NextValid,g.Disk.Sectors,g.Disk.Cache,g.Used) ∧ W k (first8 k) g ∧ ((itemsOf g).length : Int) ≤ s.1 ∧ Q k g) (fun s=>(34 - s.1).toNat) _ ?_ _ ⟨⟨by simp,by simp⟩,hi,g0,rfl,hw0,by rw [hit0]; simp,q0 k g0 hk' e0 hw0⟩
  rintro ⟨c,i,h',s⟩ ⟨⟨q0',q1⟩,hi,g,hs,hw,hc,hq⟩
  simp only at q0' q1 hi hs hc
  subst hs
  unfold S_spec_l09Log_w_1
  obtain ⟨n,i1,h1',e,hn,hi1⟩:=dr_below (h:=h') hi (n:=34) (by omega) (by omega)
  simp only
  rw [e,ob]
  by_cases hk : c < n
  ·left
   rw [if_pos (by simpa using hk)]
   obtain ⟨r,i2,h2',e2,hr,hi2⟩:=dr_rec (h:=h1') hi1
   simp only
   rw [e2,ob]
   show ∃ s',(F_spec_l09Fits g { Seq:=g.NextSeq,Rec:=r }).bind _ = _ ∧ _
   rw [spec_fits hw (by omega) rfl,ob,if_pos rfl]
   have hok:=(recOk_valid hr.ok).1
   have hseq:=hw.seq
   show ∃ s',(F_spec_l09Append_w2 g { Seq:=g.NextSeq,Rec:=r } 1).bind _ = _ ∧ _
   rw [spec_append hw (by omega) (by simp only; omega) (RecD.rs hr) (by simp only; have:=hr.valid; omega) (by simp only; omega) (by omega),ob]
   have hA:=hw.appS (x:={ Seq:=g.NextSeq,Rec:=r }) rfl hr (keep:=1) (by omega)
   refine ⟨_,rfl,⟨⟨?_,?_⟩,hi2,(appS k g { Seq:=g.NextSeq,Rec:=r } 1).2,rfl,hA.1,?_,qs k g _ hw (by omega) hq rfl hr⟩,?_⟩
   ·simp only; rw [w64_id (by omega) (by omega)]; omega
   ·simp only; rw [w64_id (by omega) (by omega)]; omega
   ·simp only; rw [w64_id (by omega) (by omega)]; have:=hA.2; omega
   ·simp only; rw [w64_id (by omega) (by omega)]; omega
  ·right
   rw [if_neg (by simpa using hk)]
   exact ⟨_,rfl,hi1,hw,by show (itemsOf g).length ≤ 33; omega,hq⟩
 obtain ⟨r,e,hi1,hw,hl,hq⟩:=key
 have e' : iter (S_spec_l09Log_w_1 ⟨b,i0,h0⟩) (0,i,h,g0.Segs,g0.NextGen,g0.NextSeq,g0.Stamp,g0.NextValid,g0.Disk.Sectors,g0.Disk.Cache,g0.Used) = some r:=e
 have fin : Dr b (some (({ Disk:={ Sectors:=r.2.2.2.2.2.2.2.1,Cache:=r.2.2.2.2.2.2.2.2.1 },Segs:=r.2.2.1,Used:=r.2.2.2.2.2.2.2.2.2,NextGen:=r.2.2.2.1,NextSeq:=r.2.2.2.2.1,Stamp:=r.2.2.2.2.2.1,NextValid:=r.2.2.2.2.2.2.1 } : TLog),({ mB:=b,mI:=r.1,mH:=r.2.1 } : TL01Cur))) (fun g=>∃ n,(5 ≤ n ∧ n ≤ 8) ∧ W n (first8 n) g ∧ (itemsOf g).length ≤ 33 ∧ Q n g):=Dr.ret hi1 ⟨k,hk',hw,hl,hq⟩
 refine (show Dr b (Option.bind _ _) _ from ?_)
 rw [e',ob]
 exact fin
theorem dr_log {b : List Int} {i0 h0 : Int} (hi0 : IOk b i0) : Dr b (F_spec_l09Log_w ⟨b,i0,h0⟩) fun g=>∃ n,(5 ≤ n ∧ n ≤ 8) ∧ W n (first8 n) g ∧ (itemsOf g).length ≤ 33:=(dr_logQ (Q:=fun _ _=>True) (fun _ _ _ _ _=>trivial) (fun _ _ _ _ _ _ _ _=>trivial) hi0).mono fun _ ⟨n,a,b,c,_⟩=>⟨n,a,b,c⟩
theorem draw_log {b : List Int} (hb : b.length ≤ 1048576) : ∃ g,F_spec_DrawLog b = some g ∧ ∃ n,(5 ≤ n ∧ n ≤ 8) ∧ W n (first8 n) g ∧ (itemsOf g).length ≤ 33:=by
 obtain ⟨h,e⟩:=dr_new hb
 unfold F_spec_DrawLog
 rw [e,ob]
 exact Dr.get (dr_log (iok0 hb)) fun g i h hg _=>⟨g,rfl,hg⟩
def check0 : TCheck:={ Stamp:=0,NextGen:=0,NextSeq:=0,NextValid:=0,Refs:=[] }
def goodC (t : List UInt8) (c : TCheck) : Prop:=checkText c = (ctOut c,true) ∧ ∃ r,t = ctOut c ++ r
theorem good_ok {t : List UInt8} {c : TCheck} (h : goodC t c) : checkOk c = true:=by
 have:=h.1
 unfold checkText at this
 split at this
 ·assumption
 ·exact absurd (congrArg Prod.snd this) (by simp)
theorem text_good {t : List UInt8} {c : TCheck} {e : Nat} (h2 : (checkText c).2 = true) (h : (checkText c).1 = t.take e) : goodC t c:=by
 have hk : checkText c = (ctOut c,true):=by
  unfold checkText at h2 ⊢
  split
  ·rw [if_pos (by assumption)] at h2
   split
   ·rw [if_pos (by assumption)] at h2; cases h2
   ·rfl
  ·rw [if_neg (by assumption)] at h2; cases h2
 refine ⟨hk,t.drop e,?_⟩
 rw [hk] at h
 rw [show ctOut c = t.take e from h,List.take_append_drop]
theorem good_read {t : List UInt8} {c : TCheck} (h : goodC t c) : rs t = some (ctBody c ++ sealL (ctBody c),(ctOut c).length) ∧ us (ctBody c ++ sealL (ctBody c)) = some (ctBody c):=by
 obtain ⟨r,hr⟩:=h.2
 have hl:=ctBody_len (good_ok h)
 refine ⟨?_,us_sealed (by omega)⟩
 rw [hr]
 exact rs_short (by rw [List.length_append,sealL_len]; omega)
theorem read_same {t : List UInt8} {F G : Option (TCheck × Bool)} (f1 : ∃ r,F = some r ∧ (r.2 = true → goodC t r.1) ∧ (r.2 = false → r.1 = check0)) (f2 : ∀ c,goodC t c → F = some (c,true))
  (g1 : ∃ r,G = some r ∧ (r.2 = true → goodC t r.1) ∧ (r.2 = false → r.1 = check0)) (g2 : ∀ c,goodC t c → G = some (c,true)) : F = G:=by
 obtain ⟨⟨rc,rb⟩,h1,h2,h3⟩:=f1
 obtain ⟨⟨sc,sb⟩,k1,k2,k3⟩:=g1
 cases rb with
 | true=>rw [h1,g2 rc (h2 rfl)]
 | false =>
  cases sb with
  | true=>rw [f2 sc (k2 rfl),k1]
  | false=>rw [h1,k1]; simp only at h3 k3; rw [h3 trivial,k3 trivial]
theorem rv_at {A B : List UInt8} {z : Int} (h : 0 ≤ z ∧ z ≤ 1000000000) : rvR (rv (A ++ (vt z ++ B)) A.length) = (z,((A ++ vt z).length : Int),true):=by
 obtain ⟨n,rfl⟩ : ∃ n : Nat,z = n:=⟨z.toNat,by omega⟩
 rw [rv_vt (n:=n) (r:=B) (by rw [List.drop_left]) (by omega)]
 simp [rvR]
theorem impl_nums {v : List UInt8 × Bool} (hv : v.1.length ≤ 8388608) : ∃ o : (TCheck × Bool) ⊕ List Int,iter (S_impl_ReadCheck_1 v) (0,[]) = some o ∧ (o = .inl (check0,false) ∨ ∃ l,o = .inr l ∧ l.length ≤ v.1.length):=by
 refine iter_inv (fun s=>∃ a : Nat,s.1 = (a : Int) ∧ a ≤ v.1.length ∧ s.2.length ≤ a) (fun s=>v.1.length - s.1.toNat) _ ?_ (0,[]) ⟨0,rfl,by omega,by simp⟩
 rintro ⟨_,l⟩ ⟨a,rfl,ha,hl⟩
 simp only at hl
 unfold S_impl_ReadCheck_1
 by_cases h : a < v.1.length
 ·rw [if_pos (by simpa using h),impl_rv (t:=v.1) (by omega) a,ob]
  cases hr : rv v.1 a with
  | none=>exact .inr ⟨.inl (check0,false),rfl,.inl rfl⟩
  | some x =>
   obtain ⟨h1,h2,h3⟩:=rv_bnd hr
   refine .inl ⟨((x.2 : Int),l ++ [(x.1 : Int)]),?_,⟨x.2,rfl,h2,by simp <;> omega⟩,by simp only [Int.toNat_natCast]; omega⟩
   rw [show rvR (some x) = ((x.1 : Int),(x.2 : Int),true) from rfl,if_neg (by simp),app?_ok (by simp <;> omega) (by simp <;> omega)]
   rfl
 ·refine .inr ⟨.inr l,?_,.inr ⟨l,rfl,by omega⟩⟩
  rw [if_neg (by simpa using h)]
theorem impl_pairs {l : List Int} (hl : l.length ≤ 8388608) : ∃ o,iter (S_impl_ReadCheck_2 l) (5,[]) = some o ∧ o.length ≤ l.length:=by
 refine iter_inv (fun s=>∃ j : Nat,s.1 = ((5 + 2 * j : Nat) : Int) ∧ s.2.length = j ∧ j ≤ l.length) (fun s=>l.length + 10 - s.1.toNat) _ ?_ (5,[]) ⟨0,rfl,by simp,by omega⟩
 rintro ⟨_,m⟩ ⟨j,rfl,hm,hj⟩
 simp only at hm
 unfold S_impl_ReadCheck_2
 have ew : w64 (((5 + 2 * j : Nat) : Int) + 1) = ((5 + 2 * j + 1 : Nat) : Int):=w64_succ (by omega)
 have ew2 : w64 (((5 + 2 * j : Nat) : Int) + 2) = ((5 + 2 * (j + 1) : Nat) : Int):=by rw [w64_id (by omega) (by omega)]; omega
 simp only [ew,ew2]
 by_cases h : 5 + 2 * j + 1 < l.length
 ·refine .inl ⟨(((5 + 2 * (j + 1) : Nat) : Int),m ++ [{ No:=l[5 + 2 * j],Gen:=l[5 + 2 * j + 1] }]),?_,⟨j + 1,rfl,by simp [hm],by omega⟩,by simp only [Int.toNat_natCast]; omega⟩
  simp only [dlt h,if_true,at?_nat h,at?_nat (show 5 + 2 * j < l.length by omega),ob]
  rw [app?_ok (by simp <;> omega) (by simp <;> omega)]
  rfl
 ·refine .inr ⟨m,?_,by omega⟩
  rw [if_neg (by simp only [decide_eq_true_eq]; omega)]
theorem impl_readA {t : List UInt8} (ht : t.length ≤ 8388608) : ∃ r,F_impl_ReadCheck t = some r ∧ (r.2 = true → goodC t r.1) ∧ (r.2 = false → r.1 = check0):=by
 have fail : ∃ r,some (check0,false) = some r ∧ (r.2 = true → goodC t r.1) ∧ (r.2 = false → r.1 = check0):=⟨_,rfl,by simp,by simp⟩
 unfold F_impl_ReadCheck
 rw [impl_rs ht,ob]
 cases h1 : rs t with
 | none =>
  rw [show rsR none = ([],0,false) from rfl,impl_us (by simp),ob,if_pos (by simp)]
  exact fail
 | some x =>
  obtain ⟨b1,b2⟩:=rs_bnd h1
  rw [show rsR (some x) = (x.1,(x.2 : Int),true) from rfl]
  dsimp only
  rw [impl_us (by omega),ob,if_neg (by simp)]
  cases h2 : us x.1 with
  | none=>rw [show usR none = ([],false) from rfl,if_pos (by simp)]; exact fail
  | some s =>
   have b3:=us_bnd h2
   rw [show usR (some s) = (s,true) from rfl,if_neg (by simp)]
   obtain ⟨o,h3,h4⟩:=impl_nums (v:=(s,true)) (by dsimp only; omega)
   rw [h3,ob]
   rcases h4 with rfl | ⟨l,rfl,hl⟩
   ·exact fail
   ·dsimp only at hl
    rw [Sum.elim_inr]
    by_cases h5 : l.length < 5
    ·rw [if_pos (by simp <;> omega)]; exact fail
    ·rw [if_neg (by simp <;> omega)]
     have a0:=at?_nat (l:=l) (i:=0) (by omega)
     have a1:=at?_nat (l:=l) (i:=1) (by omega)
     have a2:=at?_nat (l:=l) (i:=2) (by omega)
     have a3:=at?_nat (l:=l) (i:=3) (by omega)
     rw [show ((0 : Nat) : Int) = 0 from rfl] at a0
     rw [show ((1 : Nat) : Int) = 1 from rfl] at a1
     rw [show ((2 : Nat) : Int) = 2 from rfl] at a2
     rw [show ((3 : Nat) : Int) = 3 from rfl] at a3
     obtain ⟨o,h6,h7⟩:=impl_pairs (l:=l) (by omega)
     rw [a0,ob,a1,ob,a2,ob,a3,ob,h6,ob,impl_checkText (by simp only []; omega),ob]
     generalize hc : ({ Stamp:=l[0],NextGen:=l[1],NextSeq:=l[2],NextValid:=l[3],Refs:=o } : TCheck) = c
     cases h8 : (checkText c).2 with
     | false=>simp only [Bool.not_false,if_true,ob]; exact fail
     | true =>
      simp only [Bool.not_true,Bool.false_eq_true,if_false]
      rw [sub?_take b1,ob]
      by_cases h9 : (checkText c).1 = t.take x.2
      ·rw [if_neg (by simpa using h9),ob,if_neg (by simp)]
       exact ⟨_,rfl,fun _=>by simp only [hc]; exact text_good h8 h9,by simp⟩
      ·rw [if_pos (by simpa using h9),ob,if_pos rfl]
       exact fail
def nums (c : TCheck) : List Int:=[c.Stamp,c.NextGen,c.NextSeq,c.NextValid,(c.Refs.length : Int)] ++ c.Refs.flatMap fun r=>[r.No,r.Gen]
theorem nums_text (c : TCheck) : ctBody c = (nums c).flatMap vt:=by
 unfold ctBody ctHead nums
 simp only [List.flatMap_append,List.flatMap_cons,List.flatMap_nil,List.append_nil,List.append_assoc]
 congr 5
 rw [List.flatMap_assoc]
 congr 1
 funext r
 simp [refT]
theorem nums_rng {c : TCheck} (h : checkOk c = true) : ∀ z ∈ nums c,0 ≤ z ∧ z ≤ 1000000000:=by
 obtain ⟨⟨h1,h2,h3,h4⟩,h5,h6⟩:=checkOk_rng h
 intro z hz
 unfold nums at hz
 simp only [List.mem_append,List.mem_cons,List.not_mem_nil,or_false,List.mem_flatMap] at hz
 rcases hz with (rfl | rfl | rfl | rfl | rfl) | ⟨r,hr,rfl | rfl⟩
 any_goals omega
 ·have:=h6 r hr; omega
 ·have:=h6 r hr; omega
theorem pairs_len (l : List TRef) : (l.flatMap fun r=>[r.No,r.Gen]).length = 2 * l.length:=by
 induction l with
 | nil=>rfl
 | cons x l ih=>simp only [List.flatMap_cons,List.length_append,ih,List.length_cons,List.length_nil]; omega
theorem nums_len (c : TCheck) : (nums c).length = 5 + 2 * c.Refs.length:=by
 unfold nums
 rw [List.length_append,pairs_len]; rfl
theorem pairs_get : ∀ (l : List TRef) (j : Nat) (h : j < l.length),(l.flatMap fun r=>[r.No,r.Gen])[2 * j]? = some l[j].No ∧ (l.flatMap fun r=>[r.No,r.Gen])[2 * j + 1]? = some l[j].Gen
 | [],j,h=>by simp at h
 | x :: l,0,_=>by simp
 | x :: l,j + 1,h=>by
  have:=pairs_get l j (by simpa using h)
  rw [show 2 * (j + 1) = 2 * j + 1 + 1 by omega,show 2 * j + 1 + 1 + 1 = (2 * j + 1) + 1 + 1 by omega]
  simpa using this
theorem impl_readB {t : List UInt8} (ht : t.length ≤ 8388608) {c : TCheck} (h : goodC t c) : F_impl_ReadCheck t = some (c,true):=by
 have hk:=good_ok h
 obtain ⟨h1,h2⟩:=good_read h
 have hb:=ctBody_len hk
 have hrg:=nums_rng hk
 obtain ⟨_,h5,_⟩:=checkOk_rng hk
 obtain ⟨b1,b2⟩:=rs_bnd h1
 have hnl:=nums_len c
 have l1 : iter (S_impl_ReadCheck_1 (ctBody c,true)) (0,[]) = some (.inr (nums c)):=by
  have:=iter_range (step:=S_impl_ReadCheck_1 (ctBody c,true)) (fun j=>((((nums c).take j).flatMap vt).length,(nums c).take j)) (nums c).length (r:=.inr (nums c)) ?_ ?_
  ·simpa using this
  ·intro j hj
   have hz:=hrg _ (List.getElem_mem hj)
   have hsp : ctBody c = ((nums c).take j).flatMap vt ++ (vt (nums c)[j] ++ ((nums c).drop (j + 1)).flatMap vt):=by
    rw [nums_text]
    conv=>lhs; rw [← List.take_append_drop j (nums c),List.drop_eq_getElem_cons hj,List.flatMap_append,List.flatMap_cons]
   have hlt : (((nums c).take j).flatMap vt).length < (ctBody c).length:=by
    have hv : 0 < (vt (nums c)[j]).length:=by
     obtain ⟨n,hn⟩ : ∃ n : Nat,(nums c)[j] = n:=⟨_,(Int.toNat_of_nonneg hz.1).symm⟩
     rw [hn,vt_nat,List.length_map]
     unfold vtl
     split <;> simp
    rw [hsp]
    simp only [List.length_append]
    omega
   have hrv : rvR (rv (ctBody c) (((nums c).take j).flatMap vt).length) = ((nums c)[j],((((nums c).take j).flatMap vt ++ vt (nums c)[j]).length : Int),true):=by
    conv=>lhs; rw [hsp]
    exact rv_at hz
   have hnx : ((nums c).take (j + 1)).flatMap vt = ((nums c).take j).flatMap vt ++ vt (nums c)[j]:=by
    rw [List.take_succ_eq_append_getElem hj,List.flatMap_append,List.flatMap_cons,List.flatMap_nil,List.append_nil]
   have htl : ((nums c).take j).length ≤ 30:=by rw [List.length_take]; omega
   rw [hnx,List.take_succ_eq_append_getElem hj]
   generalize hq : ((nums c).take j).flatMap vt = q at hlt hrv
   generalize hm : (nums c).take j = m at htl
   generalize (nums c)[j] = z at hrv
   unfold S_impl_ReadCheck_1
   dsimp only
   rw [if_pos (by simpa using hlt),impl_rv (t:=ctBody c) (by omega),ob,hrv,if_neg (by simp),app?_ok (by rw [List.length_singleton]; omega) (by rw [List.length_singleton]; omega)]
   rfl
  ·unfold S_impl_ReadCheck_1
   simp [nums_text]
 have l2 : iter (S_impl_ReadCheck_2 (nums c)) (5,[]) = some c.Refs:=by
  have:=iter_range (step:=S_impl_ReadCheck_2 (nums c)) (fun j=>(((5 + 2 * j : Nat) : Int),c.Refs.take j)) c.Refs.length (r:=c.Refs) ?_ ?_
  ·simpa using this
  ·intro j hj
   unfold S_impl_ReadCheck_2
   have ew : w64 (((5 + 2 * j : Nat) : Int) + 1) = ((5 + 2 * j + 1 : Nat) : Int):=w64_succ (by omega)
   have ew2 : w64 (((5 + 2 * j : Nat) : Int) + 2) = ((5 + 2 * (j + 1) : Nat) : Int):=by rw [w64_id (by omega) (by omega)]; omega
   obtain ⟨g1,g2⟩:=pairs_get c.Refs j hj
   have q1 : at? (nums c) ((5 + 2 * j : Nat) : Int) = some c.Refs[j].No:=at?_eq (by
    unfold nums; rw [List.getElem?_append_right (by simp)]; simpa using g1)
   have q2 : at? (nums c) ((5 + 2 * j + 1 : Nat) : Int) = some c.Refs[j].Gen:=at?_eq (by
    unfold nums; rw [List.getElem?_append_right (by simp <;> omega)]
    rw [show 5 + 2 * j + 1 - [c.Stamp,c.NextGen,c.NextSeq,c.NextValid,(c.Refs.length : Int)].length = 2 * j + 1 by simp <;> omega]
    exact g2)
   have htl : (c.Refs.take j).length ≤ 30:=by rw [List.length_take]; omega
   rw [List.take_succ_eq_append_getElem hj]
   generalize hm : c.Refs.take j = m at htl
   dsimp only
   rw [ew,if_pos (by simp only [decide_eq_true_eq]; omega),q1,ob,q2,ob,app?_ok (by rw [List.length_singleton]; omega) (by rw [List.length_singleton]; omega),ob,ew2]
  ·unfold S_impl_ReadCheck_2
   have ew : w64 (((5 + 2 * c.Refs.length : Nat) : Int) + 1) = ((5 + 2 * c.Refs.length + 1 : Nat) : Int):=w64_succ (by omega)
   rw [ew,if_neg (by simp only [decide_eq_true_eq]; omega)]
   simp
 obtain ⟨r,hr⟩:=h.2
 have htk : t.take (ctOut c).length = ctOut c:=by rw [hr,List.take_left]
 unfold F_impl_ReadCheck
 rw [impl_rs ht,ob,h1]
 rw [show rsR (some (ctBody c ++ sealL (ctBody c),(ctOut c).length)) = (ctBody c ++ sealL (ctBody c),((ctOut c).length : Int),true) from rfl]
 dsimp only
 rw [impl_us (by dsimp only at b2; omega),ob,if_neg (by simp),h2,show usR (some (ctBody c)) = (ctBody c,true) from rfl,if_neg (by simp),l1,ob,Sum.elim_inr]
 rw [if_neg (by simp only [decide_eq_true_eq]; omega),show at? (nums c) 0 = some c.Stamp from at?_eq (i:=0) (by simp [nums]),ob,show at? (nums c) 1 = some c.NextGen from at?_eq (i:=1) (by simp [nums]),ob,show at? (nums c) 2 = some c.NextSeq from at?_eq (i:=2) (by simp [nums]),ob,show at? (nums c) 3 = some c.NextValid from at?_eq (i:=3) (by simp [nums]),ob,l2,ob]
 rw [show ({ Stamp:=c.Stamp,NextGen:=c.NextGen,NextSeq:=c.NextSeq,NextValid:=c.NextValid,Refs:=c.Refs } : TCheck) = c from rfl,impl_checkText (by dsimp only; omega),ob,h.1]
 simp only [Bool.not_true,Bool.false_eq_true,if_false]
 rw [sub?_take b1,ob,htk,if_neg (by simp),ob]
 rfl
theorem spec_cur {s : List UInt8} (hs : s.length ≤ 8388608) (a : Nat) (bad : Bool) : F_spec_l06Var_w { mText:=s,mAt:=(a : Int),mBad:=bad } = some (if bad then (0,{ mText:=s,mAt:=(a : Int),mBad:=true }) else match rv s a with | some x=>((x.1 : Int),{ mText:=s,mAt:=(x.2 : Int),mBad:=false }) | none=>(0,{ mText:=s,mAt:=(a : Int),mBad:=true })):=by
 unfold F_spec_l06Var_w
 dsimp only
 rw [spec_rv (t:=s) (by omega) a,ob]
 cases bad with
 | true=>rfl
 | false =>
  cases rv s a with
  | none=>rfl
  | some x=>rfl
theorem spec_curA {s : List UInt8} (hs : s.length ≤ 8388608) (a : Nat) (bad : Bool) : ∃ (n : Int) (b : Nat) (bad' : Bool),F_spec_l06Var_w { mText:=s,mAt:=(a : Int),mBad:=bad } = some (n,{ mText:=s,mAt:=(b : Int),mBad:=bad' }):=by
 rw [spec_cur hs]
 cases bad with
 | true=>exact ⟨0,a,true,rfl⟩
 | false =>
  cases rv s a with
  | none=>exact ⟨0,a,true,rfl⟩
  | some x=>exact ⟨x.1,x.2,false,rfl⟩
theorem spec_curB {A B : List UInt8} {z : Int} (hs : (A ++ (vt z ++ B)).length ≤ 8388608) (h : 0 ≤ z ∧ z ≤ 1000000000) : F_spec_l06Var_w { mText:=A ++ (vt z ++ B),mAt:=(A.length : Int),mBad:=false } = some (z,{ mText:=A ++ (vt z ++ B),mAt:=((A ++ vt z).length : Int),mBad:=false }):=by
 obtain ⟨n,rfl⟩ : ∃ n : Nat,z = n:=⟨z.toNat,by omega⟩
 rw [spec_cur hs,rv_vt (n:=n) (r:=B) (by rw [List.drop_left]) (by omega)]
 simp
theorem spec_refsA {s : List UInt8} (hs : s.length ≤ 8388608) (v : Int × TL06Cur) (a : Nat) (bad : Bool) : ∃ (b : Nat) (bad' : Bool) (l : List TRef),iter (S_spec_ReadCheck_1 v) (0,s,(a : Int),bad,[]) = some (s,(b : Int),bad',l) ∧ l.length ≤ 20:=by
 have:=iter_inv (step:=S_spec_ReadCheck_1 v) (fun st=>∃ (j b : Nat) (bad' : Bool) (l : List TRef),st = ((j : Int),s,(b : Int),bad',l) ∧ l.length = j ∧ j ≤ 20) (fun st=>20 - st.1.toNat) (fun r=>∃ (b : Nat) (bad' : Bool) (l : List TRef),r = (s,(b : Int),bad',l) ∧ l.length ≤ 20) ?_ (0,s,(a : Int),bad,[]) ⟨0,a,bad,[],rfl,rfl,by omega⟩
 ·obtain ⟨r,h1,b,bad',l,h2,h3⟩:=this
  exact ⟨b,bad',l,by rw [h1,h2],h3⟩
 ·rintro _ ⟨j,b,bad',l,rfl,hl,hj⟩
  unfold S_spec_ReadCheck_1
  dsimp only
  by_cases c : (decide ((j : Int) < v.1) && (decide ((j : Int) < 20) && !bad')) = true
  ·simp only [Bool.and_eq_true,decide_eq_true_eq,Bool.not_eq_true'] at c
   obtain ⟨c1,c2,c3⟩:=c
   subst c3
   obtain ⟨n1,b1,d1,e1⟩:=spec_curA hs b false
   obtain ⟨n2,b2,d2,e2⟩:=spec_curA hs b1 d1
   refine .inl ⟨(((j + 1 : Nat) : Int),s,(b2 : Int),d2,l ++ [{ No:=n1,Gen:=n2 }]),?_,⟨j + 1,b2,d2,_,rfl,by simp [hl],by omega⟩,by simp only [Int.toNat_natCast]; omega⟩
   rw [if_pos (by simpa using c1),if_pos (by simpa using c2),ob,if_pos (by simp),e1,ob]
   dsimp only
   rw [e2,ob]
   dsimp only
   rw [app?_ok (by rw [List.length_singleton]; omega) (by rw [List.length_singleton]; omega),ob,w64_succ (by omega)]
  ·refine .inr ⟨(s,(b : Int),bad',l),?_,b,bad',l,rfl,by omega⟩
   have : (if decide ((j : Int) < v.1) = true then (if decide ((j : Int) < 20) = true then some (!bad') else some false) else some false) = some false:=by
    by_cases c1 : (j : Int) < v.1 <;> by_cases c2 : (j : Int) < 20 <;> cases bad' <;> simp_all
   rw [this,ob,if_neg (by simp)]
theorem spec_readA {t : List UInt8} (ht : t.length ≤ 8388608) : ∃ r,F_spec_ReadCheck t = some r ∧ (r.2 = true → goodC t r.1) ∧ (r.2 = false → r.1 = check0):=by
 have fail : ∃ r,some (check0,false) = some r ∧ (r.2 = true → goodC t r.1) ∧ (r.2 = false → r.1 = check0):=⟨_,rfl,by simp,by simp⟩
 unfold F_spec_ReadCheck
 rw [spec_rs ht,ob]
 cases h1 : rs t with
 | none =>
  rw [show rsR none = ([],0,false) from rfl,spec_us (by simp),ob,if_pos (by simp)]
  exact fail
 | some x =>
  obtain ⟨b1,b2⟩:=rs_bnd h1
  rw [show rsR (some x) = (x.1,(x.2 : Int),true) from rfl]
  dsimp only
  rw [spec_us (by omega),ob,if_neg (by simp)]
  cases h2 : us x.1 with
  | none=>rw [show usR none = ([],false) from rfl,if_pos (by simp)]; exact fail
  | some s =>
   have b3:=us_bnd h2
   rw [show usR (some s) = (s,true) from rfl,if_neg (by simp)]
   dsimp only
   have hs : s.length ≤ 8388608:=by omega
   obtain ⟨n1,a1,d1,e1⟩:=spec_curA hs 0 false
   obtain ⟨n2,a2,d2,e2⟩:=spec_curA hs a1 d1
   obtain ⟨n3,a3,d3,e3⟩:=spec_curA hs a2 d2
   obtain ⟨n4,a4,d4,e4⟩:=spec_curA hs a3 d3
   obtain ⟨n5,a5,d5,e5⟩:=spec_curA hs a4 d4
   obtain ⟨a6,d6,l,e6,hl⟩:=spec_refsA hs (n5,{ mText:=s,mAt:=(a5 : Int),mBad:=d5 }) a5 d5
   rw [show ((0 : Nat) : Int) = 0 from rfl] at e1
   rw [e1,ob]
   dsimp only
   rw [e2,ob]
   dsimp only
   rw [e3,ob]
   dsimp only
   rw [e4,ob]
   dsimp only
   rw [e5,ob]
   dsimp only
   rw [e6,ob]
   dsimp only
   rw [spec_checkText (by dsimp only; omega),ob]
   generalize hc : ({ Stamp:=n1,NextGen:=n2,NextSeq:=n3,NextValid:=n4,Refs:=l } : TCheck) = c
   cases d6 with
   | true=>exact fail
   | false =>
    rw [if_neg (by simp)]
    cases h8 : (checkText c).2 with
    | false=>exact fail
    | true =>
     rw [if_neg (by simp),sub?_take b1,ob]
     by_cases h9 : (checkText c).1 = t.take x.2
     ·rw [if_neg (by simpa using h9),ob,if_neg (by simp)]
      exact ⟨_,rfl,fun _=>by first | exact text_good h8 h9 | (dsimp only; rw [hc]; exact text_good h8 h9),fun h=>absurd h (by simp)⟩
     ·rw [if_pos (by simpa using h9),ob,if_pos rfl]
      exact fail
theorem spec_readB {t : List UInt8} (ht : t.length ≤ 8388608) {c : TCheck} (h : goodC t c) : F_spec_ReadCheck t = some (c,true):=by
 have hk:=good_ok h
 obtain ⟨h1,h2⟩:=good_read h
 have hb:=ctBody_len hk
 obtain ⟨⟨r1,r2,r3,r4⟩,h5,h6⟩:=checkOk_rng hk
 obtain ⟨b1,b2⟩:=rs_bnd h1
 have hs : (ctBody c).length ≤ 8388608:=by omega
 have rd : ∀ {A B : List UInt8} {z : Int},ctBody c = A ++ (vt z ++ B) → 0 ≤ z ∧ z ≤ 1000000000 → F_spec_l06Var_w { mText:=ctBody c,mAt:=(A.length : Int),mBad:=false } = some (z,{ mText:=ctBody c,mAt:=((A ++ vt z).length : Int),mBad:=false }):=by
  intro A B z he hz
  rw [he] at hs ⊢
  exact spec_curB hs hz
 have e1:=rd (A:=[]) (z:=c.Stamp) (B:=vt c.NextGen ++ (vt c.NextSeq ++ (vt c.NextValid ++ (vt c.Refs.length ++ c.Refs.flatMap refT)))) (by simp [ctBody,ctHead]) (by omega)
 have e2:=rd (A:=[] ++ vt c.Stamp) (z:=c.NextGen) (B:=vt c.NextSeq ++ (vt c.NextValid ++ (vt c.Refs.length ++ c.Refs.flatMap refT))) (by simp [ctBody,ctHead]) (by omega)
 have e3:=rd (A:=[] ++ vt c.Stamp ++ vt c.NextGen) (z:=c.NextSeq) (B:=vt c.NextValid ++ (vt c.Refs.length ++ c.Refs.flatMap refT)) (by simp [ctBody,ctHead]) (by omega)
 have e4:=rd (A:=[] ++ vt c.Stamp ++ vt c.NextGen ++ vt c.NextSeq) (z:=c.NextValid) (B:=vt c.Refs.length ++ c.Refs.flatMap refT) (by simp [ctBody,ctHead]) (by omega)
 have e5:=rd (A:=[] ++ vt c.Stamp ++ vt c.NextGen ++ vt c.NextSeq ++ vt c.NextValid) (z:=c.Refs.length) (B:=c.Refs.flatMap refT) (by simp [ctBody,ctHead]) (by omega)
 have hh : [] ++ vt c.Stamp ++ vt c.NextGen ++ vt c.NextSeq ++ vt c.NextValid ++ vt c.Refs.length = ctHead c:=by simp [ctHead]
 have e6 : ∀ v : TL06Cur,iter (S_spec_ReadCheck_1 ((c.Refs.length : Int),v)) (0,ctBody c,((ctHead c).length : Int),false,[]) = some (ctBody c,((ctBody c).length : Int),false,c.Refs):=by
  intro v
  have:=iter_range (step:=S_spec_ReadCheck_1 ((c.Refs.length : Int),v)) (fun j=>((j : Int),ctBody c,((ctHead c ++ (c.Refs.take j).flatMap refT).length : Int),false,c.Refs.take j)) c.Refs.length (r:=(ctBody c,((ctBody c).length : Int),false,c.Refs)) ?_ ?_
  ·simpa using this
  ·intro j hj
   have hr:=h6 _ (List.getElem_mem hj)
   have hsp : ctBody c = (ctHead c ++ (c.Refs.take j).flatMap refT) ++ (vt c.Refs[j].No ++ (vt c.Refs[j].Gen ++ (c.Refs.drop (j + 1)).flatMap refT)):=by
    unfold ctBody
    conv=>lhs; rw [← List.take_append_drop j c.Refs,List.drop_eq_getElem_cons hj,List.flatMap_append,List.flatMap_cons]
    simp [refT]
   have g1:=rd hsp (by omega)
   have g2:=rd (A:=(ctHead c ++ (c.Refs.take j).flatMap refT) ++ vt c.Refs[j].No) (z:=c.Refs[j].Gen) (B:=(c.Refs.drop (j + 1)).flatMap refT) (by rw [hsp]; simp) (by omega)
   have hnx : (c.Refs.take (j + 1)).flatMap refT = (c.Refs.take j).flatMap refT ++ (vt c.Refs[j].No ++ vt c.Refs[j].Gen):=by
    rw [List.take_succ_eq_append_getElem hj,List.flatMap_append,List.flatMap_cons,List.flatMap_nil,List.append_nil]; rfl
   have htl : (c.Refs.take j).length ≤ 30:=by rw [List.length_take]; omega
   unfold S_spec_ReadCheck_1
   dsimp only
   rw [if_pos (by simpa using hj),if_pos (by simp <;> omega),ob,if_pos (by simp),g1,ob]
   dsimp only
   rw [g2,ob]
   dsimp only
   rw [app?_ok (by rw [List.length_singleton]; omega) (by rw [List.length_singleton]; omega),ob,w64_succ (by omega),hnx,List.take_succ_eq_append_getElem hj]
   simp only [List.append_assoc]
  ·unfold S_spec_ReadCheck_1
   dsimp only
   rw [if_neg (by simp),ob,if_neg (by simp),List.take_length]
   rfl
 obtain ⟨r,hr⟩:=h.2
 have htk : t.take (ctOut c).length = ctOut c:=by rw [hr,List.take_left]
 unfold F_spec_ReadCheck
 rw [spec_rs ht,ob,h1,show rsR (some (ctBody c ++ sealL (ctBody c),(ctOut c).length)) = (ctBody c ++ sealL (ctBody c),((ctOut c).length : Int),true) from rfl]
 dsimp only
 rw [spec_us (by dsimp only at b2; omega),ob,if_neg (by simp),h2,show usR (some (ctBody c)) = (ctBody c,true) from rfl,if_neg (by simp)]
 dsimp only
 rw [show ((([] : List UInt8).length : Nat) : Int) = 0 from rfl] at e1
 rw [e1,ob]
 dsimp only
 rw [e2,ob]
 dsimp only
 rw [e3,ob]
 dsimp only
 rw [e4,ob]
 dsimp only
 rw [e5,ob]
 dsimp only
 rw [hh,e6,ob]
 dsimp only
 rw [show ({ Stamp:=c.Stamp,NextGen:=c.NextGen,NextSeq:=c.NextSeq,NextValid:=c.NextValid,Refs:=c.Refs } : TCheck) = c from rfl,spec_checkText (by dsimp only; omega),ob,if_neg (by simp),h.1]
 dsimp only
 rw [if_neg (by simp),sub?_take b1,ob]
 dsimp only
 rw [htk,if_neg (by simp),ob]
 rfl
noncomputable def readC (t : List UInt8) : TCheck × Bool:=(F_spec_ReadCheck t).getD (check0,false)
theorem readC_spec {t : List UInt8} (ht : t.length ≤ 8388608) : F_spec_ReadCheck t = some (readC t) ∧ F_impl_ReadCheck t = some (readC t) ∧ (readC t).1.Refs.length ≤ 11:=by
 obtain ⟨r,h1,h2,h3⟩:=spec_readA ht
 have e : readC t = r:=by unfold readC; rw [h1]; rfl
 refine ⟨by rw [e,h1],?_,?_⟩
 ·rw [e,← h1]
  exact read_same (impl_readA ht) (fun c h=>impl_readB ht h) ⟨r,h1,h2,h3⟩ (fun c h=>spec_readB ht h)
 ·rw [e]
  cases hr : r.2 with
  | true=>have:=(checkOk_rng (good_ok (h2 hr))).2.1; omega
  | false=>rw [h3 hr]; simp [check0]
theorem readC_good {t : List UInt8} (ht : t.length ≤ 8388608) : ((readC t).2 = true → goodC t (readC t).1) ∧ ((readC t).2 = false → (readC t).1 = check0):=by
 obtain ⟨r,h1,h2,h3⟩:=spec_readA ht
 have e : readC t = r:=by unfold readC; rw [h1]; rfl
 rw [e]; exact ⟨h2,h3⟩
theorem vt_ne (n : Int) : vt n ≠ []:=by
 unfold vt
 split
 ·unfold vtl
  split <;> simp
 ·simp
theorem readC_nil : (readC []).2 = false:=by
 cases h : (readC []).2 with
 | false=>rfl
 | true =>
  obtain ⟨_,r,hr⟩:=(readC_good (t:=[]) (by simp)).1 h
  exfalso
  unfold ctOut short at hr
  have:=congrArg List.length hr
  simp only [List.length_nil,List.length_append] at this
  have hv:=vt_ne (((ctBody (readC []).1 ++ sealL (ctBody (readC []).1)).length : Nat) : Int)
  have : (vt (((ctBody (readC []).1 ++ sealL (ctBody (readC []).1)).length : Nat) : Int)).length ≠ 0:=fun e=>hv (List.eq_nil_of_length_eq_zero e)
  simp only [List.length_append] at this
  omega
theorem readC_stamp {t : List UInt8} (ht : t.length ≤ 8388608) (h : (readC t).2 = true) : 1 ≤ (readC t).1.Stamp:=(checkOk_rng (good_ok ((readC_good ht).1 h))).1.1.1
def better (b : TCheck × Bool) (r : TCheck × Bool) : TCheck × Bool:=if r.2 && (!b.2 || decide (r.1.Stamp > b.1.Stamp)) then (r.1,true) else b
noncomputable def newest (d : TDisk) : TCheck × Bool:=better (better (check0,false) (readC (sectorT d 0 4).1)) (readC (sectorT d 4 4).1)
theorem sectorT_len {d : TDisk} (h : DkS d) (f : Nat) : (sectorT d f 4).1.length ≤ 8388608:=by
 unfold sectorT
 split
 ·have:=secT_len h f 4; dsimp only; omega
 ·simp
theorem sectorT_no {d : TDisk} {f : Nat} (h : (sectorT d f 4).2 = false) : (readC (sectorT d f 4).1).2 = false:=by
 unfold sectorT at h ⊢
 split at h
 ·cases h
 ·rename_i c; rw [if_neg c]; exact readC_nil
theorem better_refs {b r : TCheck × Bool} (h1 : b.1.Refs.length ≤ 11) (h2 : r.1.Refs.length ≤ 11) : (better b r).1.Refs.length ≤ 11:=by
 unfold better
 split
 ·exact h2
 ·exact h1
theorem newest_refs {d : TDisk} (h : DkS d) : (newest d).1.Refs.length ≤ 11 :=
 better_refs (better_refs (by simp [check0]) (readC_spec (sectorT_len h 0)).2.2) (readC_spec (sectorT_len h 4)).2.2
theorem impl_newest {d : TDisk} (h : DkS d) : F_impl_NewestCheck d = some (newest d):=by
 have t0:=impl_sectorText h (f:=0) (n:=4) (by omega) (by omega) (by omega)
 have t1:=impl_sectorText h (f:=4) (n:=4) (by omega) (by omega) (by omega)
 have r0:=(readC_spec (sectorT_len h 0)).2.1
 have r1:=(readC_spec (sectorT_len h 4)).2.1
 unfold F_impl_NewestCheck newest
 generalize sectorT d 0 4 = s0 at t0 r0 ⊢
 generalize sectorT d 4 4 = s1 at t1 r1 ⊢
 generalize readC s0.1 = c0 at r0 ⊢
 generalize readC s1.1 = c1 at r1 ⊢
 have a0 : at? ([0,4] : List Int) 0 = some 0:=rfl
 have a1 : at? ([0,4] : List Int) 1 = some 4:=rfl
 have w1 : w64 (0 + 1) = 1:=by rw [w64_id (by omega) (by omega)]; rfl
 have w2 : w64 (1 + 1) = 2:=by rw [w64_id (by omega) (by omega)]; rfl
 have e1 : S_impl_NewestCheck_1 d (false,0,0,0,0,0,[]) = some (.inl ((better (check0,false) c0).2,1,(better (check0,false) c0).1.Stamp,(better (check0,false) c0).1.NextGen,(better (check0,false) c0).1.NextSeq,(better (check0,false) c0).1.NextValid,(better (check0,false) c0).1.Refs)):=by
  unfold S_impl_NewestCheck_1 better
  rw [if_pos (by decide),a0,ob]
  rw [show ((0 : Nat) : Int) = 0 from rfl,show ((4 : Nat) : Int) = 4 from rfl] at t0
  rw [t0,ob,r0,ob,w1]
  cases c0.2 <;> simp [check0]
 rw [iter_next e1]
 generalize better (check0,false) c0 = b
 have e2 : S_impl_NewestCheck_1 d (b.2,1,b.1.Stamp,b.1.NextGen,b.1.NextSeq,b.1.NextValid,b.1.Refs) = some (.inl ((better b c1).2,2,(better b c1).1.Stamp,(better b c1).1.NextGen,(better b c1).1.NextSeq,(better b c1).1.NextValid,(better b c1).1.Refs)):=by
  unfold S_impl_NewestCheck_1 better
  rw [if_pos (by simp),a1,ob]
  rw [show ((4 : Nat) : Int) = 4 from rfl] at t1
  rw [t1,ob,r1,ob,w2]
  cases c1.2
  ·simp
  ·cases hb : b.2
   ·simp
   ·by_cases hc : c1.1.Stamp > b.1.Stamp <;> simp [hc,hb]
 rw [iter_next e2,iter_done (r:=((better b c1).2,(better b c1).1.Stamp,(better b c1).1.NextGen,(better b c1).1.NextSeq,(better b c1).1.NextValid,(better b c1).1.Refs))]
 ·rfl
 ·unfold S_impl_NewestCheck_1
  rw [if_neg (by simp)]
theorem spec_newest {d : TDisk} (h : DkS d) : F_spec_NewestCheck d = some (newest d):=by
 have t0:=spec_sectorText h (f:=0) (n:=4) (by omega) (by omega) (by omega)
 have t1:=spec_sectorText h (f:=4) (n:=4) (by omega) (by omega) (by omega)
 have r0:=(readC_spec (sectorT_len h 0)).1
 have r1:=(readC_spec (sectorT_len h 4)).1
 have n0:=sectorT_no (d:=d) (f:=0)
 have n1:=sectorT_no (d:=d) (f:=4)
 have g0:=readC_stamp (sectorT_len h 0)
 have g1:=readC_stamp (sectorT_len h 4)
 have k0:=(readC_good (sectorT_len h 0)).2
 unfold F_spec_NewestCheck newest
 generalize sectorT d 0 4 = s0 at t0 r0 n0 g0 k0 ⊢
 generalize sectorT d 4 4 = s1 at t1 r1 n1 g1 ⊢
 generalize readC s0.1 = c0 at r0 n0 g0 k0 ⊢
 generalize readC s1.1 = c1 at r1 n1 g1 ⊢
 have w1 : w64 (0 + 1) = 1:=by rw [w64_id (by omega) (by omega)]; rfl
 have w2 : w64 (1 + 1) = 2:=by rw [w64_id (by omega) (by omega)]; rfl
 have m0 : w64 (0 * 4) = 0:=by rw [w64_id (by omega) (by omega)]; rfl
 have m1 : w64 (1 * 4) = 4:=by rw [w64_id (by omega) (by omega)]; rfl
 have e1 : S_spec_NewestCheck_1 d (false,0,0,0,0,0,[]) = some (.inl ((better (check0,false) c0).2,1,(better (check0,false) c0).1.Stamp,(better (check0,false) c0).1.NextGen,(better (check0,false) c0).1.NextSeq,(better (check0,false) c0).1.NextValid,(better (check0,false) c0).1.Refs)):=by
  unfold S_spec_NewestCheck_1 better
  rw [if_pos (by decide)]
  dsimp only
  rw [m0]
  rw [show ((0 : Nat) : Int) = 0 from rfl,show ((4 : Nat) : Int) = 4 from rfl] at t0
  rw [t0,ob,r0,ob,w1]
  cases hs : s0.2
  ·simp [n0 hs,check0]
  ·cases hc : c0.2
   ·simp [check0]
   ·have:=g0 hc
    have h2 : c0.1.Stamp > 0:=by omega
    simp [h2,check0]
 rw [iter_next e1]
 have hb : (better (check0,false) c0).2 = false → (better (check0,false) c0).1.Stamp = 0:=by
  unfold better
  cases hc : c0.2 <;> simp [check0]
 generalize better (check0,false) c0 = b at hb ⊢
 have e2 : S_spec_NewestCheck_1 d (b.2,1,b.1.Stamp,b.1.NextGen,b.1.NextSeq,b.1.NextValid,b.1.Refs) = some (.inl ((better b c1).2,2,(better b c1).1.Stamp,(better b c1).1.NextGen,(better b c1).1.NextSeq,(better b c1).1.NextValid,(better b c1).1.Refs)):=by
  unfold S_spec_NewestCheck_1 better
  rw [if_pos (by simp)]
  dsimp only
  rw [m1]
  rw [show ((4 : Nat) : Int) = 4 from rfl] at t1
  rw [t1,ob,r1,ob,w2]
  cases hs : s1.2
  ·simp [n1 hs]
  ·cases hc : c1.2
   ·simp
   ·have hg:=g1 hc
    cases hbb : b.2
    ·have h0:=hb hbb
     have h2 : c1.1.Stamp > b.1.Stamp:=by omega
     simp [h2]
    ·by_cases h2 : c1.1.Stamp > b.1.Stamp <;> simp [h2,hbb]
 rw [iter_next e2,iter_done (r:=((better b c1).2,(better b c1).1.Stamp,(better b c1).1.NextGen,(better b c1).1.NextSeq,(better b c1).1.NextValid,(better b c1).1.Refs))]
 ·rfl
 ·unfold S_spec_NewestCheck_1
  rw [if_neg (by simp)]
theorem big_no {b : List Int} (h : ¬ (b.length : Int) > 1048576) : F_laws_big b = some false:=by unfold F_laws_big; simp; omega
theorem big_yes {b : List Int} (h : (b.length : Int) > 1048576) : F_laws_big b = some true:=by unfold F_laws_big; simp; omega
theorem secT_32 {d : TDisk} (h : diskOk d = true) (f : Nat) : ∀ m,f + m ≤ d.Sectors.length → (secT d f m).length = 32 * m
 | 0,_=>rfl
 | m + 1,hm=>by
  have h1:=secT_32 h f m (by omega)
  have h2:=rsec_32 h (a:=f + m) (by omega)
  rw [secT,List.length_append]; omega
theorem secT_get {d : TDisk} (h : diskOk d = true) (f : Nat) : ∀ m,f + m ≤ d.Sectors.length → ∀ j,j < 32 * m → (secT d f m)[j]? = (rsec d (f + j / 32))[j % 32]?
 | 0,_,j,hj=>by omega
 | m + 1,hm,j,hj=>by
  have h1:=secT_32 h f m (by omega)
  rw [secT]
  by_cases c : j < 32 * m
  ·rw [List.getElem?_append_left (by omega)]
   exact secT_get h f m (by omega) j c
  ·rw [List.getElem?_append_right (by omega),h1,show j / 32 = m by omega,show j % 32 = j - 32 * m by omega]
theorem secT_congr {d d' : TDisk} (f : Nat) : ∀ m,(∀ a,f ≤ a → a < f + m → rsec d a = rsec d' a) → secT d f m = secT d' f m
 | 0,_=>rfl
 | m + 1,h=>by
  rw [secT,secT,secT_congr f m (fun a h1 h2=>h a h1 (by omega)),h (f + m) (by omega) (by omega)]
theorem poke_byte {d : TDisk} (h : diskOk d = true) {b : Nat} {T : List UInt8} {a q : Nat} (ha : a < d.Sectors.length) (hq : q < 32) : (rsec (poke d b T) a)[q]? = if b ≤ 32 * a + q ∧ 32 * a + q < b + T.length then T[32 * a + q - b]? else (rsec d a)[q]?:=by
 have h32:=rsec_32 h ha
 rw [poke_get ha,List.getElem?_map,List.getElem?_range hq,Option.map_some]
 split
 ·rw [List.getD_eq_getElem?_getD,List.getElem?_eq_getElem (by omega)]; rfl
 ·rw [List.getD_eq_getElem?_getD,List.getElem?_eq_getElem (by omega)]; rfl
theorem poke_region {d : TDisk} (h : diskOk d = true) (f m : Nat) {T : List UInt8} (hf : f + m ≤ d.Sectors.length) (hT : T.length ≤ 32 * m) : ∃ r,secT (poke d (32 * f) T) f m = T ++ r:=by
 have ho:=poke_ok h (32 * f) T
 have h1:=secT_32 ho f m (by rw [poke_len]; exact hf)
 refine ⟨(secT (poke d (32 * f) T) f m).drop T.length,?_⟩
 conv=>lhs; rw [← List.take_append_drop T.length (secT (poke d (32 * f) T) f m)]
 congr 1
 refine List.ext_getElem? fun i=>?_
 by_cases c : i < T.length
 ·rw [List.getElem?_take_of_lt c,secT_get ho f m (by rw [poke_len]; exact hf) i (by omega),poke_byte h (by omega) (by omega),if_pos (by omega)]
  congr 1; omega
 ·rw [List.getElem?_eq_none (by simp; omega),List.getElem?_eq_none (by omega)]
theorem sectorT_in {d : TDisk} {f n : Nat} (h : f + n ≤ d.Sectors.length) : sectorT d f n = (secT d f n,true):=by unfold sectorT; rw [if_pos h]
theorem first_zero : ∀ n : Nat,n < 128 → 1 ≤ n → ofI (n : Int) ≠ 0:=by decide
theorem zeros_bad {t : List UInt8} (hl : t.length ≤ 8388608) (hz : ∀ b,t[0]? = some b → b = 0) : (readC t).2 = false:=by
 cases h : (readC t).2 with
 | false=>rfl
 | true =>
  obtain ⟨hk,r,hr⟩:=(readC_good hl).1 h
  have hlen : (ctOut (readC t).1).length ≤ 128:=by
   unfold checkText at hk
   split at hk
   ·split at hk
    ·exact absurd (congrArg Prod.snd hk) (by simp)
    ·omega
   ·exact absurd (congrArg Prod.snd hk) (by simp)
  unfold ctOut short at hlen hr
  generalize hB : ctBody (readC t).1 ++ sealL (ctBody (readC t).1) = B at hlen hr
  have h4 : 4 ≤ B.length:=by rw [← hB,List.length_append,sealL_len]; omega
  have h5 : B.length ≤ 128:=by rw [List.length_append] at hlen; omega
  have h6 : B.length < 128:=by
   by_cases e : B.length = 128
   ·exfalso
    have h0:=vt_ne (B.length : Int)
    have : 1 ≤ (vt (B.length : Int)).length:=by
     cases hv : vt (B.length : Int) with
     | nil=>exact absurd hv h0
     | cons a l=>simp
    rw [List.length_append] at hlen; omega
   ·omega
  have hv : vt (B.length : Int) = [ofI (B.length : Int)]:=by
   unfold vt
   rw [if_pos (by omega),vtl_small (by omega)]; simp
  have h0 : t[0]? = some (ofI (B.length : Int)):=by
   rw [hr,hv]; rfl
  exact absurd (hz _ h0) (first_zero _ h6 (by omega))
theorem first8_eq {n : Nat} {g : TLog} (h : W n (first8 n) g) (a : Nat) (ha : a < 8) : rsec g.Disk a = rsec (poke (poke (newDisk (8 + n * 8)) 256 headT) 128 (ctOut (checkOf (log1 n)))) a:=by
 rw [h.home a ha]
 unfold first8
 rw [fixd_poke h.rng,(open0_poke h.rng).2]
theorem base_ok {n : Nat} (h : 5 ≤ n ∧ n ≤ 11) : diskOk (poke (newDisk (8 + n * 8)) 256 headT) = true:=poke_ok (nd_ok h) _ _
theorem region1 {n : Nat} {d : TDisk} (hn : 5 ≤ n ∧ n ≤ 11) (hd : 8 ≤ d.Sectors.length) (h : ∀ a,4 ≤ a → a < 8 → rsec d a = rsec (poke (poke (newDisk (8 + n * 8)) 256 headT) 128 (ctOut (checkOf (log1 n)))) a) : sectorT d 4 4 = (secT d 4 4,true) ∧ goodC (secT d 4 4) (checkOf (log1 n)):=by
 refine ⟨sectorT_in (by omega),checkText_yes (log1_check n).1 (by have:=(log1_check n).2; omega),?_⟩
 rw [secT_congr 4 4 (fun a h1 h2=>h a h1 (by omega))]
 exact poke_region (base_ok hn) 4 4 (by rw [poke_len]; simp [newDisk]) (by have:=(log1_check n).2; omega)
theorem region0_zero {n : Nat} {g : TLog} (h : W n (first8 n) g) : (readC (sectorT g.Disk 0 4).1).2 = false:=by
 have hs:=h.sec
 have hn:=h.rng
 rw [sectorT_in (by omega)]
 refine zeros_bad (by rw [secT_32 h.ok 0 4 (by omega)]; omega) ?_
 intro b hb
 rw [secT_get h.ok 0 4 (by omega) 0 (by omega),first8_eq h _ (by omega)] at hb
 have hl : (newDisk (8 + n * 8)).Sectors.length = 8 + n * 8:=by simp [newDisk]
 rw [poke_byte (base_ok hn) (by rw [poke_len,hl]; omega) (by omega),if_neg (by omega),poke_byte (nd_ok hn) (by rw [hl]; omega) (by omega),if_neg (by omega),rsec_home rfl] at hb
 have hz : ((newDisk (8 + n * 8)).Sectors[0 + 0 / 32]?).getD [] = zero32:=by
  simp only [newDisk,Nat.zero_div,Nat.add_zero]
  rw [List.getElem?_replicate,if_pos (by omega)]; rfl
 rw [hz] at hb
 have : zero32[0 % 32]? = some 0:=by decide
 rw [this] at hb
 exact (Option.some.inj hb).symm
theorem readC_of {t : List UInt8} (ht : t.length ≤ 8388608) {c : TCheck} (h : goodC t c) : readC t = (c,true):=by
 have:=spec_readB ht h
 rw [(readC_spec ht).1] at this
 exact Option.some.inj this
theorem newest_drawn {n : Nat} {g : TLog} (h : W n (first8 n) g) : newest g.Disk = (checkOf (log1 n),true):=by
 have hs:=h.sec
 have hn:=h.rng
 have r1:=region1 (d:=g.Disk) hn (by omega) (fun a _ h2=>first8_eq h a h2)
 unfold newest
 have h0:=region0_zero h
 rw [r1.1,readC_of (by rw [secT_32 h.ok 4 4 (by omega)]; omega) r1.2]
 unfold better
 rw [h0]; rfl
theorem checkOf_len {n : Nat} {S0 : Nat → List UInt8} {g : TLog} (h : W n S0 g) : (checkOf g).Refs.length ≤ 1048576:=by
 have:=h.len; have:=h.rng
 unfold checkOf; simp; omega
theorem checkOf_stamp {n : Nat} {S0 : Nat → List UInt8} {g : TLog} (h : W n S0 g) : (checkOf g).Stamp = 2:=by
 unfold checkOf; simp only; rw [h.stamp]; rfl
theorem dr_keep {b : List Int} {i0 h0 : Int} (hi0 : IOk b i0) : Dr b (F_spec_l03Keep_w ⟨b,i0,h0⟩) fun l=>l.length ≤ 14:=by
 unfold F_spec_l03Keep_w
 have key : ∃ r,iter (S_spec_l03Keep_w_1 ⟨b,i0,h0⟩) (0,i0,h0,[]) = some r ∧ (IOk b r.1 ∧ r.2.2.length ≤ 14):=by
  refine iter_inv (fun s : Int × Int × Int × List Int=>(0 ≤ s.1 ∧ s.1 ≤ 14 ∧ (s.2.2.2.length : Int) = s.1) ∧ IOk b s.2.1) (fun s=>(15 - s.1).toNat) _ ?_ _ ⟨⟨by simp,by simp,by simp⟩,hi0⟩
  rintro ⟨k,i,h',l⟩ ⟨⟨q0,q1,q2⟩,hi⟩
  simp only at q0 q1 q2 hi
  unfold S_spec_l03Keep_w_1
  obtain ⟨n,i1,h1',e,hn,hi1⟩:=dr_below (h:=h') hi (n:=14) (by omega) (by omega)
  simp only
  rw [e,ob]
  by_cases hk : k < n
  ·left
   rw [if_pos (by simpa using hk)]
   obtain ⟨r,i2,h2',e2,hr,hi2⟩:=dr_below (h:=h1') hi1 (n:=3) (by omega) (by omega)
   simp only
   rw [e2,ob,app?_ok (by simp; omega) (by simp; omega),ob]
   refine ⟨_,rfl,⟨⟨?_,?_,?_⟩,hi2⟩,?_⟩
   ·simp only; rw [w64_id (by omega) (by omega)]; omega
   ·simp only; rw [w64_id (by omega) (by omega)]; omega
   ·simp only [List.length_append,List.length_singleton]; rw [w64_id (by omega) (by omega)]; omega
   ·simp only; rw [w64_id (by omega) (by omega)]; omega
  ·right
   rw [if_neg (by simpa using hk)]
   exact ⟨_,rfl,hi1,by show l.length ≤ 14; omega⟩
 obtain ⟨r,e,hi1,hl⟩:=key
 rw [show ({ mB:=b,mI:=i0,mH:=h0 } : TL01Cur).mI = i0 from rfl,show ({ mB:=b,mI:=i0,mH:=h0 } : TL01Cur).mH = h0 from rfl,e,ob]
 exact Dr.ret hi1 hl
theorem draw_keep {b : List Int} (hb : b.length ≤ 1048576) : ∃ l,F_spec_DrawKeep b = some l ∧ l.length ≤ 14:=by
 obtain ⟨h,e⟩:=dr_new hb
 unfold F_spec_DrawKeep
 rw [e,ob]
 exact Dr.get (dr_keep (iok0 hb)) fun g i h hg _=>⟨g,rfl,hg⟩
theorem impl_crash {d : TDisk} (h : diskOk d = true) (keep : List Int) (hk : keep.length ≤ 1000) (tear : Int) : ∃ x,F_impl_CrashDisk d keep tear = some x ∧ diskOk x = true ∧ x.Sectors.length = d.Sectors.length ∧ x.Cache = [] ∧ ∀ a : Nat,(∀ w ∈ d.Cache,w.At ≠ (a : Int)) → x.Sectors[a]? = d.Sectors[a]?:=by
 have hD:=DkS.ofOk h
 obtain ⟨o1,o2,o3,o4⟩:=diskOk_iff.1 h
 unfold F_impl_CrashDisk
 rw [impl_copy hD,ob,impl_diskOk hD,h,ob,if_pos rfl]
 have k1 : ∃ l,iter (S_impl_CrashDisk_1 d keep) (0,[]) = some l ∧ (l.length ≤ 60 ∧ ∀ w ∈ l,w ∈ d.Cache):=by
  refine iter_inv (fun s : Int × List TWrite=>(0 ≤ s.1 ∧ s.1 ≤ (d.Cache.length : Int) ∧ (s.2.length : Int) ≤ s.1) ∧ ∀ w ∈ s.2,w ∈ d.Cache) (fun s=>((d.Cache.length : Int) - s.1).toNat) _ ?_ _ ⟨⟨by simp,by simp,by simp⟩,by simp⟩
  rintro ⟨k,l⟩ ⟨⟨q0,q1,q2⟩,hl⟩
  simp only at q0 q1 q2 hl
  unfold S_impl_CrashDisk_1
  by_cases c : k < (d.Cache.length : Int)
  ·left
   rw [if_pos (by simpa using c)]
   obtain ⟨m,rfl⟩ : ∃ m : Nat,k = m:=⟨k.toNat,by omega⟩
   simp only
   rw [at?_nat (show m < d.Cache.length by omega),ob]
   have e5 : ∃ y : Bool,((if decide ((m : Int) < (keep.length : Int)) then (at? keep (m : Int)).bind fun v7=>(if ((Int.tmod v7 2) != 0) then some true else some false) else some false) : Option Bool) = some y:=by
    by_cases c1 : m < keep.length
    ·rw [if_pos (by simpa using c1),at?_nat c1,ob]
     split <;> exact ⟨_,rfl⟩
    ·rw [if_neg (by simpa using c1)]; exact ⟨_,rfl⟩
   obtain ⟨y,e5⟩:=e5
   rw [e5,ob]
   cases y
   ·refine ⟨_,rfl,⟨⟨?_,?_,?_⟩,hl⟩,?_⟩
    ·simp only; rw [w64_id (by omega) (by omega)]; omega
    ·simp only; rw [w64_id (by omega) (by omega)]; omega
    ·simp only; rw [w64_id (by omega) (by omega)]; omega
    ·simp only; rw [w64_id (by omega) (by omega)]; omega
   ·rw [if_pos rfl,app?_ok (by simp; omega) (by simp; omega),ob]
    refine ⟨_,rfl,⟨⟨?_,?_,?_⟩,?_⟩,?_⟩
    ·simp only; rw [w64_id (by omega) (by omega)]; omega
    ·simp only; rw [w64_id (by omega) (by omega)]; omega
    ·simp only [List.length_append,List.length_singleton]; rw [w64_id (by omega) (by omega)]; omega
    ·intro w hw
     rcases List.mem_append.1 hw with hw | hw
     ·exact hl w hw
     ·rw [List.mem_singleton] at hw; subst hw; exact List.getElem_mem _
    ·simp only; rw [w64_id (by omega) (by omega)]; omega
  ·right
   rw [if_neg (by simpa using c)]
   exact ⟨_,rfl,by show l.length ≤ 60; omega,hl⟩
 obtain ⟨l,e1,hl1,hl2⟩:=k1
 rw [e1,ob]
 have hz : ∃ z : Nat,Int.tmod (w64 ((w64 ((Int.tmod tear 33) + 32)) + 1)) 33 = (z : Int) ∧ z ≤ 32:=by
  have a1:=Int.tmod_lt_of_pos tear (show (0 : Int) < 33 by omega)
  have a2:=Int.lt_tmod_of_pos tear (show (0 : Int) < 33 by omega)
  rw [w64_id (n:=Int.tmod tear 33 + 32) (by omega) (by omega),w64_id (by omega) (by omega)]
  have b1:=Int.tmod_lt_of_pos (Int.tmod tear 33 + 32 + 1) (show (0 : Int) < 33 by omega)
  have b2:=Int.tmod_nonneg (b:=33) (show 0 ≤ Int.tmod tear 33 + 32 + 1 by omega)
  exact ⟨(Int.tmod (Int.tmod tear 33 + 32 + 1) 33).toNat,by omega,by omega⟩
 obtain ⟨z,ez,hz⟩:=hz
 have k2 : ∃ s,iter (S_impl_CrashDisk_2 tear l) (0,d.Sectors) = some s ∧ (s.length = d.Sectors.length ∧ (∀ t ∈ s,t.length = 32) ∧ ∀ a : Nat,(∀ w ∈ d.Cache,w.At ≠ (a : Int)) → s[a]? = d.Sectors[a]?):=by
  refine iter_inv (fun s : Int × List (List UInt8)=>(0 ≤ s.1 ∧ s.1 ≤ (l.length : Int)) ∧ s.2.length = d.Sectors.length ∧ (∀ t ∈ s.2,t.length = 32) ∧ ∀ a : Nat,(∀ w ∈ d.Cache,w.At ≠ (a : Int)) → s.2[a]? = d.Sectors[a]?) (fun s=>((l.length : Int) - s.1).toNat) _ ?_ _ ⟨⟨by simp,by simp⟩,rfl,o3,fun _ _=>rfl⟩
  rintro ⟨k,s⟩ ⟨⟨q0,q1⟩,q2,q3,q4⟩
  simp only at q0 q1 q2 q3 q4
  unfold S_impl_CrashDisk_2
  by_cases c : k < (l.length : Int)
  ·left
   rw [if_pos (by simpa using c)]
   obtain ⟨m,rfl⟩ : ∃ m : Nat,k = m:=⟨k.toNat,by omega⟩
   simp only
   have hm : m < l.length:=by omega
   have hmem:=hl2 _ (List.getElem_mem hm)
   rw [at?_nat hm,ob,ez]
   generalize l[m] = w at hmem
   obtain ⟨⟨w1,w2⟩,w3⟩:=o4 w hmem
   obtain ⟨a,ha⟩ : ∃ a : Nat,w.At = a:=⟨w.At.toNat,by omega⟩
   have hal : a < s.length:=by omega
   have hs32:=q3 _ (List.getElem_mem hal)
   have fin : ∀ y : Nat,y ≤ 32 → ∃ s',((sub? w.Text 0 (y : Int)).bind fun v13=>(at? s w.At).bind fun v14=>(sub? v14 (y : Int) (v14.length : Int)).bind fun v15=>(cat? v13 v15).bind fun v16=>(at? s w.At).bind fun v17=>(some (set' s w.At v16)).bind fun v18=>some (.inl (w64 ((m : Int) + 1),v18)) : Option ((Int × (List (List UInt8))) ⊕ (List (List UInt8)))) = some (.inl s') ∧ ((0 ≤ s'.1 ∧ s'.1 ≤ (l.length : Int)) ∧ s'.2.length = d.Sectors.length ∧ (∀ t ∈ s'.2,t.length = 32) ∧ ∀ a : Nat,(∀ w ∈ d.Cache,w.At ≠ (a : Int)) → s'.2[a]? = d.Sectors[a]?) ∧ ((l.length : Int) - s'.1).toNat < ((l.length : Int) - (m : Int)).toNat:=by
    intro y hy
    rw [ha,sub?_take (by omega),ob,at?_nat hal,ob,sub?_tail (by omega),ob,cat?_ok (by simp; omega),ob,ob,ob,set'_nat,w64_succ (by omega)]
    refine ⟨_,rfl,⟨⟨by simp only; omega,by simp only; omega⟩,by simp only [List.length_set]; exact q2,?_,?_⟩,by simp only; omega⟩
    ·intro t ht
     rcases List.mem_or_eq_of_mem_set ht with ht | ht
     ·exact q3 t ht
     ·rw [ht]; simp; omega
    ·intro b hb
     have:=hb w hmem
     show (s.set a _)[b]? = _
     rw [List.getElem?_set_ne (by omega)]
     exact q4 b hb
   by_cases c2 : ((m : Int) == w64 ((l.length : Int) - 1)) = true
   ·rw [if_pos c2]
    exact fin z hz
   ·rw [if_neg c2]
    exact fin 32 (by omega)
  ·right
   rw [if_neg (by simpa using c)]
   exact ⟨_,rfl,q2,q3,q4⟩
 obtain ⟨s,e2,hs1,hs2,hs3⟩:=k2
 rw [e2,ob]
 exact ⟨_,rfl,diskOk_iff.2 ⟨by simp only; omega,by simp,hs2,by simp⟩,hs1,rfl,hs3⟩
theorem pure_FnChecksTorn {x : List Int} (_w : x.length ≤ maxLen ∧ ∀ a ∈ x,(Lit.int .u8 a).wf = true) : F_laws_FnChecksTorn x = some true:=by
 unfold F_laws_FnChecksTorn
 by_cases hb : (x.length : Int) > 1048576
 ·rw [big_yes hb]; rfl
 rw [big_no hb,ob,if_neg (by simp)]
 have hx : x.length ≤ 1048576:=by omega
 obtain ⟨g,e1,n,hn,hw,hm⟩:=draw_log hx
 obtain ⟨p,e2,hp,hp2⟩:=dr_places hx
 obtain ⟨kp,e3,hkp⟩:=draw_keep hx
 have hs:=hw.sec
 have hl:=hw.len
 have hck:=hw.check (by omega)
 have hrl:=checkOf_len hw
 have hst:=checkOf_stamp hw
 have hct:=checkText_yes hck.1 (by omega)
 have hD:=DkS.ofOk hw.ok
 obtain ⟨w1,w2,j,hwst⟩:=writeB_poke hw.ok hw.cache (s:=0) (T:=ctOut (checkOf g)) (by omega) (by omega) (by omega)
 have hwb:=spec_writeB hw.ok (s:=0) (by omega) (T:=ctOut (checkOf g)) (by omega)
 generalize writeB g.Disk 0 (ctOut (checkOf g)) = wb at w1 w2 hwst hwb
 obtain ⟨d1,b1⟩:=wb
 simp only at w1 w2 hwst
 subst w1
 obtain ⟨y,e4,hy1,hy2,hy3,hy4⟩:=impl_crash hwst.ok kp (by omega) (p[0]'(by omega))
 have hyl : y.Sectors.length = 8 + 8 * n:=by rw [hy2,hwst.sec,hs]
 have hhome : ∀ a,4 ≤ a → a < 8 → rsec y a = rsec g.Disk a:=by
  intro a h1 h2
  rw [rsec_home hy3,hy4 a (fun w hw'=>by have:=hwst.le w hw'; omega),hwst.sec,rsec_home hw.cache]
 have hDy:=DkS.ofOk hy1
 have r1:=region1 (d:=y) hw.rng (by omega) (fun a h1 h2=>by rw [hhome a h1 h2]; exact first8_eq hw a h2)
 have l0:=secT_32 hy1 0 4 (by omega)
 have l1:=secT_32 hy1 4 4 (by omega)
 have hold:=newest_drawn hw
 have c1:=log1_check n
 have c1t:=checkText_yes c1.1 (by omega)
 have c1l : (checkOf (log1 n)).Refs.length ≤ 1048576:=by simp [checkOf,log1]
 have hpl : w64 (4 * Int.tmod (checkOf g).Stamp 2) = ((0 : Nat) : Int):=by rw [hst]; rfl
 have hread:=(readC_spec (t:=secT y 0 4) (by omega))
 rw [e1,ob,spec_checkOf (by omega),ob,spec_checkText hrl,ob,hct,hpl,hwb,ob,e2,ob,e3,ob,show (0 : Int) = ((0 : Nat) : Int) from rfl,at?_nat (by omega),ob]
 dsimp only
 rw [e4,ob,impl_newest hDy,ob,spec_newest hD,ob,hold]
 dsimp only
 have hst4:=spec_sectorText hDy (f:=0) (n:=4) (by omega) (by omega) (by omega)
 have hst4' : F_spec_SectorText y ((0 : Nat) : Int) 4 = some (sectorT y 0 4):=hst4
 rw [hst4',sectorT_in (by omega)]
 have hnewest : newest y = better (better (check0,false) (readC (secT y 0 4))) (checkOf (log1 n),true):=by
  unfold newest
  rw [r1.1,readC_of (by omega) r1.2,sectorT_in (by omega)]
 have hrefs:=newest_refs hDy
 rw [spec_checkText (by omega),ob,spec_checkText c1l,ob,ob,c1t]
 dsimp only
 rw [hread.1,ob,spec_checkText (by have:=hread.2.2; omega),ob,hnewest]
 cases hclash : (readC (secT y 0 4)).2
 ·have hb0 : better (check0,false) (readC (secT y 0 4)) = (check0,false):=by unfold better; rw [hclash]; rfl
  rw [hb0]
  have hb1 : better (check0,false) (checkOf (log1 n),true) = (checkOf (log1 n),true):=rfl
  rw [hb1,c1t]
  simp
 ·have hb0 : better (check0,false) (readC (secT y 0 4)) = ((readC (secT y 0 4)).1,true):=by unfold better; rw [hclash]; rfl
  rw [hb0]
  by_cases c : (checkOf (log1 n)).Stamp > (readC (secT y 0 4)).1.Stamp
  ·have hb1 : better ((readC (secT y 0 4)).1,true) (checkOf (log1 n),true) = (checkOf (log1 n),true):=by
    unfold better
    simp only [Bool.not_true,Bool.false_or,Bool.true_and]
    rw [if_pos (by simpa using c)]
   rw [hb1,c1t]
   simp
  ·have hb1 : better ((readC (secT y 0 4)).1,true) (checkOf (log1 n),true) = ((readC (secT y 0 4)).1,true):=by
    unfold better
    simp only [Bool.not_true,Bool.false_or,Bool.true_and]
    rw [if_neg (by simpa using c)]
   rw [hb1]
   simp
end Go.Proofs.Ytldndhdohlfpgaa.V
