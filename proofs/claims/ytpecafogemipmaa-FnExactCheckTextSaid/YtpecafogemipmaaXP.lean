/- The pure part. -/
import Derived.Test.YtpecafogemipmaaXT
/- Loops that count, numbers, words: plain lists and numbers. -/
namespace Go.Proofs.Ytpecafogemipmaa.V
open Go Go.RowKit

/-! ### loops that count -/
theorem iter_range {σ ρ : Type} {step : σ → Option (σ ⊕ ρ)} (st : Nat → σ) (n : Nat) {r : ρ} (hs : ∀ i, i < n → step (st i) = some (.inl (st (i + 1)))) (he : step (st n) = some (.inr r)) : iter step (st 0) = some r := by
  have key : ∀ d i, i + d = n → iter step (st i) = some r := by
    intro d
    induction d with
    | zero => intro i hi; have : i = n := by omega
              subst this; exact iter_done he
    | succ d ih => intro i hi; rw [iter_next (hs i (by omega))]; exact ih (i + 1) (by omega)
  exact key n 0 (by omega)

/-! ### numbers -/
theorem w64_id {n : Int} (h : -9223372036854775808 ≤ n) (h' : n < 9223372036854775808) : w64 n = n := by
  unfold w64 IntKind.wrap
  simp [IntKind.bits, IntKind.signed]
  omega
theorem w64_nat {n : Nat} (h : n < 9223372036854775808) : w64 (n : Int) = n := w64_id (by omega) (by omega)
theorem w64_succ {n : Nat} (h : n < 9223372036854775807) : w64 ((n : Int) + 1) = ((n + 1 : Nat) : Int) := by rw [w64_id (by omega) (by omega)]; omega
theorem u8_wrap (n : Int) : IntKind.u8.wrap n = n % 256 := by
  unfold IntKind.wrap
  simp [IntKind.bits, IntKind.signed]
theorem u32_wrap (n : Int) : IntKind.u32.wrap n = n % 4294967296 := by
  unfold IntKind.wrap
  simp [IntKind.bits, IntKind.signed]
theorem at?_nat {α : Type} {l : List α} {i : Nat} (h : i < l.length) : at? l (i : Int) = some l[i] := by
  unfold at?
  rw [if_pos ⟨by omega, by omega⟩]
  simp [h]
theorem bt?_nat {s : List UInt8} {i : Nat} (h : i < s.length) : bt? s (i : Int) = some s[i] := by
  unfold bt?
  rw [if_pos (by omega)]
  simp [h]
theorem cat?_ok {s t : List UInt8} (h : s.length + t.length ≤ 4611686018427387904) : cat? s t = some (s ++ t) := by unfold cat?; rw [if_pos h]
theorem app?_ok {α : Type} {byt : Nat} {l m : List α} (h : l.length + m.length ≤ 1099511627776) (h2 : (l.length + m.length) * byt ≤ 140737488355328) : app? byt l m = some (l ++ m) := by unfold app?; rw [if_pos ⟨h, h2⟩]

theorem andv127 {n : Nat} (h' : n < 9223372036854775808) : andv .i64 n 127 = ((n % 128 : Nat) : Int) := by
  show IntKind.i64.wrap ((BitVec.ofInt 64 (n : Int) &&& BitVec.ofInt 64 127).toNat : Int) = _
  have e1 : BitVec.ofInt 64 (n : Int) = BitVec.ofNat 64 n := by simp
  have e2 : BitVec.ofInt 64 (127 : Int) = BitVec.ofNat 64 127 := by simp
  rw [e1, e2]
  have e3 : (BitVec.ofNat 64 n &&& BitVec.ofNat 64 127).toNat = n % 128 := by
    rw [BitVec.toNat_and]
    simp only [BitVec.toNat_ofNat]
    rw [Nat.mod_eq_of_lt (a := n) (by omega)]
    exact Nat.and_two_pow_sub_one_eq_mod n 7
  rw [e3]
  exact w64_nat (by omega)
theorem orv128 {n : Nat} (h : n < 128) : orv .i64 n 128 = ((n + 128 : Nat) : Int) := by
  show IntKind.i64.wrap ((BitVec.ofInt 64 (n : Int) ||| BitVec.ofInt 64 128).toNat : Int) = _
  have e1 : BitVec.ofInt 64 (n : Int) = BitVec.ofNat 64 n := by simp
  have e2 : BitVec.ofInt 64 (128 : Int) = BitVec.ofNat 64 128 := by simp
  rw [e1, e2]
  have e3 : (BitVec.ofNat 64 n ||| BitVec.ofNat 64 128).toNat = n + 128 := by
    rw [BitVec.toNat_or]
    simp only [BitVec.toNat_ofNat]
    rw [Nat.mod_eq_of_lt (a := n) (by omega)]
    have := Nat.two_pow_add_eq_or_of_lt (i := 7) (b := n) (by omega) 1
    rw [Nat.or_comm] at this
    simp at this ⊢
    omega
  rw [e3]
  exact w64_nat (by omega)
theorem andv1 {n : Nat} (h' : n < 4294967296) : andv .u32 n 1 = ((n % 2 : Nat) : Int) := by
  show IntKind.u32.wrap ((BitVec.ofInt 32 (n : Int) &&& BitVec.ofInt 32 1).toNat : Int) = _
  have e1 : BitVec.ofInt 32 (n : Int) = BitVec.ofNat 32 n := by simp
  have e2 : BitVec.ofInt 32 (1 : Int) = BitVec.ofNat 32 1 := by simp
  rw [e1, e2]
  have e3 : (BitVec.ofNat 32 n &&& BitVec.ofNat 32 1).toNat = n % 2 := by
    rw [BitVec.toNat_and]
    simp only [BitVec.toNat_ofNat]
    rw [Nat.mod_eq_of_lt (a := n) (by omega)]
    exact Nat.and_two_pow_sub_one_eq_mod n 1
  rw [e3, u32_wrap]
  omega
theorem shrv7 (n : Int) : shrv .i64 n 7 = n / 128 := by
  unfold shrv
  rw [Int.fdiv_eq_ediv_of_nonneg _ (by decide)]
  rfl
theorem shrv1 (n : Int) : shrv .u32 n 1 = n / 2 := by
  unfold shrv
  rw [Int.fdiv_eq_ediv_of_nonneg _ (by decide)]
  rfl

/-! ### numbers as words -/
def vtl (n : Nat) : List Int := if h : 127 < n then ((n % 128 + 128 : Nat) : Int) :: vtl (n / 128) else [(n : Int)]
  termination_by n
  decreasing_by omega
theorem vtl_big {n : Nat} (h : 127 < n) : vtl n = ((n % 128 + 128 : Nat) : Int) :: vtl (n / 128) := by rw [vtl, dif_pos h]
theorem vtl_small {n : Nat} (h : n ≤ 127) : vtl n = [(n : Int)] := by rw [vtl, dif_neg (by omega)]
theorem vtl_len : ∀ (k n : Nat), n < 128 ^ k → (vtl n).length ≤ k + 1
  | 0, n, h => by rw [vtl_small (by simp at h; omega)]; simp
  | k + 1, n, h => by
    by_cases hb : 127 < n
    · rw [vtl_big hb]
      have := vtl_len k (n / 128) (by rw [Nat.pow_succ] at h; exact Nat.div_lt_of_lt_mul (by rw [Nat.mul_comm]; exact h))
      simp; omega
    · rw [vtl_small (by omega)]; simp
theorem vtl_len10 {n : Nat} (h : n < 9223372036854775808) : (vtl n).length ≤ 11 := vtl_len 10 n (Nat.lt_trans h (by decide))

theorem ofI_u8 (n : Int) : ofI (IntKind.u8.wrap n) = ofI (n % 256) := by rw [u8_wrap]

/-- The loop that both have: what is left, and what was laid. -/
theorem var_loop {step : Int × List Int → Option ((Int × List Int) ⊕ (Int × List Int))}
    (hbig : ∀ (n : Nat) out, 127 < n → n < 9223372036854775808 → out.length ≤ 1000 → step ((n : Int), out) = some (.inl (((n / 128 : Nat) : Int), out ++ [((n % 128 + 128 : Nat) : Int)])))
    (hsmall : ∀ (n : Int) out, n ≤ 127 → step (n, out) = some (.inr (n, out))) :
    ∀ (n : Nat) (out : List Int), n < 9223372036854775808 → out.length + 11 ≤ 1000 → ∃ (m : Nat) (o : List Int), iter step ((n : Int), out) = some ((m : Int), o) ∧ m ≤ 127 ∧ o ++ [(m : Int)] = out ++ vtl n ∧ o.length ≤ 1000 := by
  have key : ∀ (k n : Nat) (out : List Int), n < 128 ^ k → n < 9223372036854775808 → out.length + k ≤ 1000 → ∃ (m : Nat) (o : List Int), iter step ((n : Int), out) = some ((m : Int), o) ∧ m ≤ 127 ∧ o ++ [(m : Int)] = out ++ vtl n ∧ o.length ≤ 1000 := by
    intro k
    induction k with
    | zero =>
      intro n out hk hn ho
      have h1 : n ≤ 127 := by simp at hk; omega
      exact ⟨n, out, iter_done (hsmall n out (by omega)), h1, by rw [vtl_small h1], by omega⟩
    | succ k ih =>
      intro n out hk hn ho
      by_cases hb : 127 < n
      · obtain ⟨m, o, h1, h2, h3, h4⟩ := ih (n / 128) (out ++ [((n % 128 + 128 : Nat) : Int)]) (by rw [Nat.pow_succ] at hk; exact Nat.div_lt_of_lt_mul (by rw [Nat.mul_comm]; exact hk)) (by omega) (by simp; omega)
        refine ⟨m, o, ?_, h2, ?_, h4⟩
        · rw [iter_next (hbig n out hb hn (by omega))]; exact h1
        · rw [h3, vtl_big hb]; simp
      · exact ⟨n, out, iter_done (hsmall n out (by omega)), by omega, by rw [vtl_small (by omega)], by omega⟩
  intro n out hn ho
  exact key 11 n out (Nat.lt_trans hn (by decide)) hn ho

def vt (n : Int) : List UInt8 := if 0 ≤ n then (vtl n.toNat).map ofI else [ofI (n % 256)]

theorem spec_var {n : Int} (h : -9223372036854775808 ≤ n) (h' : n < 9223372036854775808) : F_spec_l01Var n = some (vt n) := by
  have hsmall : ∀ (n : Int) out, n ≤ 127 → S_spec_l01Var_1 (n, out) = some (.inr (n, out)) := by
    intro n out hn
    unfold S_spec_l01Var_1
    simp [show ¬ n > 127 by omega]
  unfold F_spec_l01Var vt
  by_cases h0 : 0 ≤ n
  · obtain ⟨m, rfl⟩ : ∃ m : Nat, n = m := ⟨n.toNat, by omega⟩
    obtain ⟨m', o, h1, h2, h3, h4⟩ := var_loop (step := S_spec_l01Var_1) (by
      intro n out hb hn ho
      unfold S_spec_l01Var_1
      have e1 : w64 (Int.tmod (n : Int) 128 + 128) = ((n % 128 + 128 : Nat) : Int) := by
        rw [Int.tmod_eq_emod_of_nonneg (by omega), w64_id (by omega) (by omega)]; omega
      have e2 : w64 (Int.tdiv (n : Int) 128) = ((n / 128 : Nat) : Int) := by
        rw [Int.tdiv_eq_ediv_of_nonneg (by omega), w64_id (by omega) (by omega)]; omega
      have e3 : IntKind.u8.wrap ((n % 128 + 128 : Nat) : Int) = ((n % 128 + 128 : Nat) : Int) := by rw [u8_wrap]; omega
      simp only [show decide ((n : Int) > 127) = true from by simp; omega, if_true, e1, e2, e3]
      rw [app?_ok (by simp; omega) (by simp; omega)]
      rfl) hsmall m [] (by omega) (by simp)
    rw [if_pos h0, h1]
    simp only [Option.bind_some]
    rw [app?_ok (by simp; omega) (by simp; omega)]
    simp only [Option.bind_some, u8_wrap]
    rw [show ((m' : Int) % 256) = m' by omega, h3]
    simp
  · rw [if_neg h0, iter_done (hsmall n [] (by omega))]
    simp only [Option.bind_some]
    rw [app?_ok (by simp) (by simp)]
    simp [u8_wrap]
theorem impl_var {n : Int} (h : -9223372036854775808 ≤ n) (h' : n < 9223372036854775808) : F_impl_varText n = some (vt n) := by
  have hsmall : ∀ (n : Int) out, n ≤ 127 → S_impl_varText_1 (n, out) = some (.inr (n, out)) := by
    intro n out hn
    unfold S_impl_varText_1
    simp [show ¬ n > 127 by omega]
  unfold F_impl_varText vt
  by_cases h0 : 0 ≤ n
  · obtain ⟨m, rfl⟩ : ∃ m : Nat, n = m := ⟨n.toNat, by omega⟩
    obtain ⟨m', o, h1, h2, h3, h4⟩ := var_loop (step := S_impl_varText_1) (by
      intro n out hb hn ho
      unfold S_impl_varText_1
      have e1 : orv .i64 (andv .i64 (n : Int) 127) 128 = ((n % 128 + 128 : Nat) : Int) := by
        rw [andv127 hn, orv128 (by omega)]
      have e2 : shrv .i64 (n : Int) 7 = ((n / 128 : Nat) : Int) := by rw [shrv7]; omega
      have e3 : IntKind.u8.wrap ((n % 128 + 128 : Nat) : Int) = ((n % 128 + 128 : Nat) : Int) := by rw [u8_wrap]; omega
      simp only [show decide ((n : Int) > 127) = true from by simp; omega, if_true, e1, e2, e3]
      rw [app?_ok (by simp; omega) (by simp; omega)]
      rfl) hsmall m [] (by omega) (by simp)
    rw [if_pos h0, h1]
    simp only [Option.bind_some]
    rw [app?_ok (by simp; omega) (by simp; omega)]
    simp only [Option.bind_some, u8_wrap]
    rw [show ((m' : Int) % 256) = m' by omega, h3]
    simp
  · rw [if_neg h0, iter_done (hsmall n [] (by omega))]
    simp only [Option.bind_some]
    rw [app?_ok (by simp) (by simp)]
    simp [u8_wrap]
theorem vt_len {n : Int} (h' : n < 9223372036854775808) : (vt n).length ≤ 11 := by
  unfold vt
  split
  · simp; exact vtl_len10 (by omega)
  · simp
end Go.Proofs.Ytpecafogemipmaa.V
/- Sums, words, what a record must be. -/
namespace Go.Proofs.Ytpecafogemipmaa.V
open Go Go.RowKit

/-! ### sums -/
def sumBit (n : Nat) : Nat := if n % 2 = 1 then (xorv .u32 ((n / 2 : Nat) : Int) 3558460437).toNat else n / 2
theorem xorv_range (x y : Int) : 0 ≤ xorv .u32 x y ∧ xorv .u32 x y < 4294967296 := by
  unfold xorv
  rw [u32_wrap]
  omega
theorem sumBit_lt {n : Nat} (h : n < 4294967296) : sumBit n < 4294967296 := by
  unfold sumBit
  have := xorv_range ((n / 2 : Nat) : Int) 3558460437
  split <;> omega
def iterK {α : Type} (f : α → α) : Nat → α → α
  | 0, a => a
  | k + 1, a => f (iterK f k a)
theorem iterK_lt (k : Nat) {n : Nat} (h : n < 4294967296) : iterK sumBit k n < 4294967296 := by
  induction k with
  | zero => exact h
  | succ k ih => exact sumBit_lt ih
theorem spec_sum2 {n : Nat} (h : n < 4294967296) : iter S_spec_SumMore_2 ((n : Int), 0) = some ((iterK sumBit 8 n : Nat) : Int) := by
  refine iter_range (fun k => (((iterK sumBit k n : Nat) : Int), (k : Int))) 8 ?_ ?_
  · intro k hk
    have hl := iterK_lt k h
    unfold S_spec_SumMore_2
    have e0 : w64 ((k : Int) + 1) = ((k + 1 : Nat) : Int) := w64_succ (by omega)
    generalize hm : iterK sumBit k n = m at hl
    have e1 : IntKind.u32.wrap (Int.tdiv (m : Int) 2) = ((m / 2 : Nat) : Int) := by
      rw [u32_wrap, Int.tdiv_eq_ediv_of_nonneg (by omega)]; omega
    have e2 : Int.tmod (m : Int) 2 = ((m % 2 : Nat) : Int) := by rw [Int.tmod_eq_emod_of_nonneg (by omega)]; omega
    simp only [show decide ((k : Int) < 8) = true from by simp; omega, if_true, e0, e1, e2]
    have e3 : iterK sumBit (k + 1) n = sumBit m := by simp [iterK, hm]
    rw [e3]
    unfold sumBit
    by_cases hb : m % 2 = 1
    · have := xorv_range ((m / 2 : Nat) : Int) 3558460437
      simp only [hb, if_true]
      rw [if_pos (by simp)]
      congr 3
    · rw [if_neg (by simp; omega), if_neg hb]
  · unfold S_spec_SumMore_2
    simp
theorem impl_sum2 {n : Nat} (h : n < 4294967296) : iter S_impl_SumMore_2 ((n : Int), 0) = some ((iterK sumBit 8 n : Nat) : Int) := by
  refine iter_range (fun k => (((iterK sumBit k n : Nat) : Int), (k : Int))) 8 ?_ ?_
  · intro k hk
    have hl := iterK_lt k h
    unfold S_impl_SumMore_2
    have e0 : w64 ((k : Int) + 1) = ((k + 1 : Nat) : Int) := w64_succ (by omega)
    generalize hm : iterK sumBit k n = m at hl
    have e1 : shrv .u32 (m : Int) 1 = ((m / 2 : Nat) : Int) := by rw [shrv1]; omega
    have e2 : andv .u32 (m : Int) 1 = ((m % 2 : Nat) : Int) := andv1 hl
    simp only [show decide ((k : Int) < 8) = true from by simp; omega, if_true, e0, e1, e2]
    have e3 : iterK sumBit (k + 1) n = sumBit m := by simp [iterK, hm]
    rw [e3]
    unfold sumBit
    by_cases hb : m % 2 = 1
    · have := xorv_range ((m / 2 : Nat) : Int) 3558460437
      simp only [hb, if_true]
      rw [if_pos (by simp)]
      congr 3
    · rw [if_neg (by simp; omega), if_neg hb]
  · unfold S_impl_SumMore_2
    simp
def sumB (n : Nat) (c : UInt8) : Nat := iterK sumBit 8 (xorv .u32 (n : Int) (c.toNat : Int)).toNat
def sumL (n : Nat) (s : List UInt8) : Nat := s.foldl sumB n
theorem sumB_lt (n : Nat) (c : UInt8) : sumB n c < 4294967296 := by
  have := xorv_range (n : Int) (c.toNat : Int)
  exact iterK_lt 8 (by omega)
theorem sumL_lt {n : Nat} (h : n < 4294967296) (s : List UInt8) : sumL n s < 4294967296 := by
  unfold sumL
  induction s generalizing n with
  | nil => exact h
  | cons c s ih => exact ih (sumB_lt n c)
theorem sum_loop {step : List UInt8 → Int × Int → Option ((Int × Int) ⊕ Int)} {s : List UInt8} (hs : s.length < 9223372036854775807) {n : Nat}
    (h1 : ∀ (m i : Nat) (h : i < s.length), step s ((m : Int), (i : Int)) = some (.inl ((sumB m s[i] : Nat), ((i + 1 : Nat) : Int))))
    (h2 : ∀ m : Nat, step s ((m : Int), (s.length : Int)) = some (.inr (m : Int))) : iter (step s) ((n : Int), 0) = some ((sumL n s : Nat) : Int) := by
  refine iter_range (fun i => (((sumL n (s.take i) : Nat) : Int), (i : Int))) s.length ?_ ?_
  · intro i hi
    have e : sumL n (s.take (i + 1)) = sumB (sumL n (s.take i)) s[i] := by
      unfold sumL
      rw [List.take_succ_eq_append_getElem hi, List.foldl_append]
      rfl
    rw [h1 _ i hi, e]
  · rw [List.take_length]; exact h2 _
theorem u8_u32 (c : UInt8) : IntKind.u32.wrap (c.toNat : Int) = c.toNat := by
  rw [u32_wrap]
  have := c.toNat_lt
  omega
theorem spec_sum {s : List UInt8} (hs : s.length < 9223372036854775807) (n : Nat) : F_spec_SumMore (n : Int) s = some ((sumL n s : Nat) : Int) := by
  unfold F_spec_SumMore
  rw [sum_loop (step := S_spec_SumMore_1) hs]
  · rfl
  · intro m i hi
    unfold S_spec_SumMore_1
    simp only [show decide ((i : Int) < (s.length : Int)) = true from by simp; omega, if_true, bt?_nat hi, Option.bind_some, u8_u32, w64_succ (show i < 9223372036854775807 by omega)]
    have hx := xorv_range (m : Int) ((s[i]).toNat : Int)
    have : xorv .u32 (m : Int) ((s[i]).toNat : Int) = ((xorv .u32 (m : Int) ((s[i]).toNat : Int)).toNat : Int) := by omega
    rw [this, spec_sum2 (by omega)]
    rfl
  · intro m
    unfold S_spec_SumMore_1
    simp
theorem impl_sum {s : List UInt8} (hs : s.length < 9223372036854775807) (n : Nat) : F_impl_SumMore (n : Int) s = some ((sumL n s : Nat) : Int) := by
  unfold F_impl_SumMore
  rw [sum_loop (step := S_impl_SumMore_1) hs]
  · rfl
  · intro m i hi
    unfold S_impl_SumMore_1
    simp only [show decide ((i : Int) < (s.length : Int)) = true from by simp; omega, if_true, bt?_nat hi, Option.bind_some, u8_u32, w64_succ (show i < 9223372036854775807 by omega)]
    have hx := xorv_range (m : Int) ((s[i]).toNat : Int)
    have : xorv .u32 (m : Int) ((s[i]).toNat : Int) = ((xorv .u32 (m : Int) ((s[i]).toNat : Int)).toNat : Int) := by omega
    rw [this, impl_sum2 (by omega)]
    rfl
  · intro m
    unfold S_impl_SumMore_1
    simp
def four (n : Int) : List UInt8 := [IntKind.u8.wrap (shrv .u32 n 24), IntKind.u8.wrap (shrv .u32 n 16), IntKind.u8.wrap (shrv .u32 n 8), IntKind.u8.wrap n].map ofI
def sealL (s : List UInt8) : List UInt8 := four (sumL 4294967295 s : Nat)
theorem sealL_len (s : List UInt8) : (sealL s).length = 4 := rfl
theorem spec_sumOf {s : List UInt8} (hs : s.length < 9223372036854775807) : F_spec_SumOf s = some ((sumL 4294967295 s : Nat) : Int) := by
  unfold F_spec_SumOf
  have := spec_sum hs 4294967295
  rw [show (4294967295 : Int) = ((4294967295 : Nat) : Int) from rfl, this]; rfl
theorem impl_sumOf {s : List UInt8} (hs : s.length < 9223372036854775807) : F_impl_SumOf s = some ((sumL 4294967295 s : Nat) : Int) := by
  unfold F_impl_SumOf
  have := impl_sum hs 4294967295
  rw [show (4294967295 : Int) = ((4294967295 : Nat) : Int) from rfl, this]; rfl
theorem spec_four (n : Int) : F_spec_l02Four n = some (four n) := rfl
theorem impl_seal {s : List UInt8} (hs : s.length < 9223372036854775807) : F_impl_seal s = some (sealL s) := by
  unfold F_impl_seal
  rw [impl_sumOf hs]; rfl
def sealed (s : List UInt8) : List UInt8 × Bool := if 20000 < s.length then ([], false) else (s ++ sealL s, true)
theorem spec_sealed {s : List UInt8} (hs : s.length < 9223372036854775807) : F_spec_Sealed s = some (sealed s) := by
  unfold F_spec_Sealed sealed
  by_cases h : 20000 < s.length
  · rw [if_pos (by simp; omega), if_pos h]
  · rw [if_neg (by simp; omega), if_neg h, spec_sumOf hs]
    simp only [Option.bind_some, spec_four]
    rw [cat?_ok (by show s.length + 4 ≤ _; omega)]
    rfl
theorem impl_sealed {s : List UInt8} (hs : s.length < 9223372036854775807) : F_impl_Sealed s = some (sealed s) := by
  unfold F_impl_Sealed sealed
  by_cases h : 20000 < s.length
  · rw [if_pos (by simp; omega), if_pos h]
  · rw [if_neg (by simp; omega), if_neg h, impl_seal hs]
    simp only [Option.bind_some]
    rw [cat?_ok (by show s.length + 4 ≤ _; omega)]
    rfl

/-! ### words -/
def inR (n lo hi : Int) : Bool := decide (lo ≤ n) && decide (n ≤ hi)
theorem spec_in (n lo hi : Int) : F_spec_l01In n lo hi = some (inR n lo hi) := by
  unfold F_spec_l01In inR
  by_cases h : lo ≤ n <;> simp [h]
theorem impl_in (n lo hi : Int) : F_impl_in n lo hi = some (inR n lo hi) := by
  unfold F_impl_in inR
  by_cases h : lo ≤ n <;> simp [h]
def lowB (c : UInt8) : Bool := decide (97 ≤ c.toNat) && decide (c.toNat ≤ 122)
def wordOk (s : List UInt8) : Bool := s.all lowB && inR s.length 1 8
theorem iter_all {σ ρ : Type} {step : σ → Option (σ ⊕ ρ)} (st : Nat → σ) (n : Nat) (p : Nat → Bool) {bad good : ρ} (h1 : ∀ i, i < n → p i = true → step (st i) = some (.inl (st (i + 1)))) (h2 : ∀ i, i < n → p i = false → step (st i) = some (.inr bad)) (he : step (st n) = some (.inr good)) :
    iter step (st 0) = some (if (List.range n).all p then good else bad) := by
  have key : ∀ d i, i + d = n → iter step (st i) = some (if ((List.range n).drop i).all p then good else bad) := by
    intro d
    induction d with
    | zero =>
      intro i hi
      have : i = n := by omega
      subst this
      rw [iter_done he, List.drop_eq_nil_of_le (by simp)]; simp
    | succ d ih =>
      intro i hi
      have hd : (List.range n).drop i = i :: (List.range n).drop (i + 1) := by
        rw [List.drop_eq_getElem_cons (by simp; omega)]; simp
      rw [hd]
      cases hp : p i with
      | true => rw [iter_next (h1 i (by omega) hp), ih (i + 1) (by omega)]; simp [hp]
      | false => rw [iter_done (h2 i (by omega) hp)]; simp [hp]
  simpa using key n 0 (by omega)
theorem all_range {α : Type} (l : List α) (p : α → Bool) : (List.range l.length).all (fun i => match l[i]? with | some x => p x | none => true) = l.all p := by
  rw [Bool.eq_iff_iff, List.all_eq_true, List.all_eq_true]
  constructor
  · intro h x hx
    obtain ⟨i, hi⟩ := List.getElem?_of_mem hx
    have := h i (List.mem_range.2 (List.getElem?_eq_some_iff.1 hi).1)
    simpa [hi] using this
  · intro h i hi
    have hi' := List.mem_range.1 hi
    rw [List.getElem?_eq_getElem hi']
    exact h _ (List.getElem_mem hi')
theorem spec_word {s : List UInt8} (hs : s.length < 9223372036854775807) : F_spec_WordOk s = some (wordOk s) := by
  have hl : iter (S_spec_WordOk_1 s) 0 = some (if s.all lowB then .inr () else .inl false) := by
    rw [← all_range]
    refine iter_all (fun i => (i : Int)) s.length _ ?_ ?_ ?_
    · intro i hi hp
      rw [List.getElem?_eq_getElem hi] at hp
      simp only [lowB, Bool.and_eq_true, decide_eq_true_eq] at hp
      unfold S_spec_WordOk_1
      simp only [show decide ((i : Int) < (s.length : Int)) = true from by simp; omega, if_true, bt?_nat hi, Option.bind_some]
      rw [if_neg (by simp; omega), if_neg (by simp; omega)]
      simp [w64_succ (show i < 9223372036854775807 by omega)]
    · intro i hi hp
      rw [List.getElem?_eq_getElem hi] at hp
      simp only [lowB, Bool.and_eq_false_iff, decide_eq_false_iff_not] at hp
      unfold S_spec_WordOk_1
      simp only [show decide ((i : Int) < (s.length : Int)) = true from by simp; omega, if_true, bt?_nat hi, Option.bind_some]
      by_cases h : (s[i]).toNat < 97
      · rw [if_pos (by simp; omega)]; rfl
      · rw [if_neg (by simp; omega), if_pos (by simp; omega)]; rfl
    · unfold S_spec_WordOk_1
      simp
  unfold F_spec_WordOk
  rw [hl]
  unfold wordOk
  cases s.all lowB <;> simp [spec_in]
theorem impl_word {s : List UInt8} (hs : s.length < 9223372036854775807) : F_impl_WordOk s = some (wordOk s) := by
  have hl : iter (S_impl_WordOk_1 s) 0 = some (if s.all lowB then .inr () else .inl false) := by
    rw [← all_range]
    refine iter_all (fun i => (i : Int)) s.length _ ?_ ?_ ?_
    · intro i hi hp
      rw [List.getElem?_eq_getElem hi] at hp
      simp only [lowB, Bool.and_eq_true, decide_eq_true_eq] at hp
      unfold S_impl_WordOk_1
      simp only [show decide ((i : Int) < (s.length : Int)) = true from by simp; omega, if_true, bt?_nat hi, Option.bind_some]
      rw [if_neg (by simp; omega), if_neg (by simp; omega)]
      simp [w64_succ (show i < 9223372036854775807 by omega)]
    · intro i hi hp
      rw [List.getElem?_eq_getElem hi] at hp
      simp only [lowB, Bool.and_eq_false_iff, decide_eq_false_iff_not] at hp
      unfold S_impl_WordOk_1
      simp only [show decide ((i : Int) < (s.length : Int)) = true from by simp; omega, if_true, bt?_nat hi, Option.bind_some]
      by_cases h : (s[i]).toNat < 97
      · rw [if_pos (by simp; omega)]; rfl
      · rw [if_neg (by simp; omega), if_pos (by simp; omega)]; rfl
    · unfold S_impl_WordOk_1
      simp
  unfold F_impl_WordOk
  rw [impl_in, Option.bind_some, hl]
  unfold wordOk
  cases s.all lowB <;> cases inR (s.length : Int) 1 8 <;> simp
end Go.Proofs.Ytpecafogemipmaa.V
/- What a record must be, and its text; frames. -/
namespace Go.Proofs.Ytpecafogemipmaa.V
open Go Go.RowKit

/-- The lengths of what a record holds are no more than a machine's. -/
structure RecS (x : TRec) : Prop where
  user : x.User.length ≤ 1048576
  name : x.Name.length ≤ 1048576
  text : x.Text.length ≤ 1048576

def recOk (x : TRec) : Bool := inR x.Kind 1 5 && inR x.Valid 1 9999 &&
  (if x.Kind = 1 then wordOk x.User && wordOk x.Name && inR x.Next 1 10000 else x.User == [] && x.Name == [] && x.Next == 0) &&
  (if x.Kind = 3 ∨ x.Kind = 4 ∨ x.Kind = 5 then inR x.Uid 1 9999 else x.Uid == 0) &&
  (if x.Kind = 3 ∨ x.Kind = 4 then inR x.Flags 0 7 else x.Flags == 0) &&
  (if x.Kind = 3 then decide (x.Text.length ≤ 100) else x.Text == [])

theorem kinds {n : Int} : inR n 1 5 = true → n = 1 ∨ n = 2 ∨ n = 3 ∨ n = 4 ∨ n = 5 := by
  unfold inR
  intro h
  simp only [Bool.and_eq_true, decide_eq_true_eq] at h
  omega
theorem kinds_no {n : Int} : inR n 1 5 = false → n ≠ 1 ∧ n ≠ 2 ∧ n ≠ 3 ∧ n ≠ 4 ∧ n ≠ 5 := by
  unfold inR
  intro h
  simp only [Bool.and_eq_false_iff, decide_eq_false_iff_not] at h
  omega
theorem iteS {α : Type} {p : Prop} [Decidable p] {a b : α} : (if p then some a else some b) = some (if p then a else b) := by split <;> rfl
theorem spec_recOk {x : TRec} (h : RecS x) : F_spec_RecOk x = some (recOk x) := by
  have h1 := spec_word (s := x.User) (by have := h.user; omega)
  have h2 := spec_word (s := x.Name) (by have := h.name; omega)
  unfold F_spec_RecOk recOk
  simp only [spec_in, h1, h2, Option.bind_some]
  cases hk : inR x.Kind 1 5 with
  | false => simp
  | true =>
    cases hv : inR x.Valid 1 9999 with
    | false => simp
    | true =>
      rcases kinds hk with k | k | k | k | k <;> simp [k, iteS] <;> grind
theorem impl_recOk {x : TRec} (h : RecS x) : F_impl_RecOk x = some (recOk x) := by
  have h1 := impl_word (s := x.User) (by have := h.user; omega)
  have h2 := impl_word (s := x.Name) (by have := h.name; omega)
  unfold F_impl_RecOk recOk
  simp only [impl_in, h1, h2, Option.bind_some]
  cases hv : inR x.Valid 1 9999 with
  | false => simp
  | true =>
    cases hk : inR x.Kind 1 5 with
    | false =>
      obtain ⟨k1, k2, k3, k4, k5⟩ := kinds_no hk
      simp [k1, k2, k3, k4, k5]
    | true =>
      rcases kinds hk with k | k | k | k | k <;> simp [k, iteS] <;> grind
end Go.Proofs.Ytpecafogemipmaa.V
/- The text of a record; frames; sizes. -/
namespace Go.Proofs.Ytpecafogemipmaa.V
open Go Go.RowKit

theorem recOk_rng {x : TRec} (h : recOk x = true) : (0 ≤ x.Valid ∧ x.Valid ≤ 10000) ∧ (0 ≤ x.Uid ∧ x.Uid ≤ 10000) ∧ (0 ≤ x.Next ∧ x.Next ≤ 10000) ∧ (0 ≤ x.Flags ∧ x.Flags ≤ 10000) ∧ 1 ≤ x.Kind ∧ x.Kind ≤ 5 := by
  unfold recOk inR at h
  grind
def short (s : List UInt8) : List UInt8 := vt s.length ++ s
def recT (x : TRec) : List UInt8 := [ofI (IntKind.u8.wrap x.Kind)] ++ vt x.Valid ++ vt x.Uid ++ vt x.Next ++ vt x.Flags ++ short x.User ++ short x.Name ++ short x.Text
def recText (x : TRec) : List UInt8 × Bool := if recOk x then (recT x, true) else ([], false)
theorem short_len {s : List UInt8} (h : s.length ≤ 1048576) : (short s).length ≤ s.length + 11 := by
  unfold short
  have := vt_len (n := s.length) (by omega)
  simp; omega
theorem spec_short {s : List UInt8} (h : s.length ≤ 1048576) : F_spec_l06Short s = some (short s) := by
  unfold F_spec_l06Short
  have := vt_len (n := s.length) (by omega)
  rw [spec_var (by omega) (by omega), Option.bind_some, cat?_ok (by omega)]
  rfl
theorem spec_recText {x : TRec} (h : RecS x) : F_spec_RecText x = some (recText x) := by
  unfold F_spec_RecText recText
  rw [spec_recOk h, Option.bind_some]
  cases hk : recOk x with
  | false => rfl
  | true =>
    obtain ⟨r1, r2, r3, r4, _⟩ := recOk_rng hk
    have l1 := vt_len (n := x.Valid) (by omega)
    have l2 := vt_len (n := x.Uid) (by omega)
    have l3 := vt_len (n := x.Next) (by omega)
    have l4 := vt_len (n := x.Flags) (by omega)
    have l5 := short_len h.user
    have l6 := short_len h.name
    have l7 := short_len h.text
    have b1 := h.user
    have b2 := h.name
    have b3 := h.text
    simp only [if_true]
    rw [spec_var (by omega) (by omega), Option.bind_some, cat?_ok (by simp; omega), Option.bind_some,
      spec_var (by omega) (by omega), Option.bind_some, cat?_ok (by simp; omega), Option.bind_some,
      spec_var (by omega) (by omega), Option.bind_some, cat?_ok (by simp; omega), Option.bind_some,
      spec_var (by omega) (by omega), Option.bind_some, cat?_ok (by simp; omega), Option.bind_some,
      spec_short h.user, Option.bind_some, cat?_ok (by simp; omega), Option.bind_some,
      spec_short h.name, Option.bind_some, cat?_ok (by simp; omega), Option.bind_some,
      spec_short h.text, Option.bind_some, cat?_ok (by simp; omega), Option.bind_some]
    rfl
theorem at?_lit {α : Type} {l : List α} {i : Int} {x : α} (h0 : 0 ≤ i) (h : l[i.toNat]? = some x) : at? l i = some x := by
  unfold at?
  have := (List.getElem?_eq_some_iff.1 h).1
  rw [if_pos ⟨h0, by omega⟩]
  exact h
theorem impl_recText {x : TRec} (h : RecS x) : F_impl_RecText x = some (recText x) := by
  unfold F_impl_RecText recText
  rw [impl_recOk h, Option.bind_some]
  cases hk : recOk x with
  | false => rfl
  | true =>
    obtain ⟨r1, r2, r3, r4, _⟩ := recOk_rng hk
    have l1 := vt_len (n := x.Valid) (by omega)
    have l2 := vt_len (n := x.Uid) (by omega)
    have l3 := vt_len (n := x.Next) (by omega)
    have l4 := vt_len (n := x.Flags) (by omega)
    have b1 := h.user
    have b2 := h.name
    have b3 := h.text
    have l5 := vt_len (n := x.User.length) (by omega)
    have l6 := vt_len (n := x.Name.length) (by omega)
    have l7 := vt_len (n := x.Text.length) (by omega)
    simp only [if_true]
    have s1 : ∀ (i : Nat) (n : Int) (out : List UInt8), [x.Valid, x.Uid, x.Next, x.Flags][i]? = some n → out.length ≤ 1000 → S_impl_RecText_1 x (out, (i : Int)) = some (.inl (out ++ vt n, ((i + 1 : Nat) : Int))) := by
      intro i n out hi ho
      have hl := (List.getElem?_eq_some_iff.1 hi).1
      simp at hl
      have hn : 0 ≤ n ∧ n ≤ 10000 := by
        rcases i with _ | _ | _ | _ | i <;> simp at hi <;> first | omega | skip
      have := vt_len (n := n) (by omega)
      unfold S_impl_RecText_1; dsimp only
      rw [if_pos (by simp; omega), at?_lit (by simp) (by simpa using hi), Option.bind_some, impl_var (by omega) (by omega), Option.bind_some, cat?_ok (by omega), Option.bind_some, w64_succ (by omega)]
    have s2 : ∀ (i : Nat) (s out : List UInt8), [x.User, x.Name, x.Text][i]? = some s → out.length ≤ 10000000 → S_impl_RecText_2 x (out, (i : Int)) = some (.inl (out ++ short s, ((i + 1 : Nat) : Int))) := by
      intro i s out hi ho
      have hl := (List.getElem?_eq_some_iff.1 hi).1
      simp at hl
      have hn : s.length ≤ 1048576 := by
        rcases i with _ | _ | _ | i <;> simp at hi <;> first | (subst hi; omega) | skip
      have := vt_len (n := s.length) (by omega)
      unfold S_impl_RecText_2; dsimp only
      rw [if_pos (by simp; omega), at?_lit (by simp) (by simpa using hi), Option.bind_some, impl_var (by omega) (by omega), Option.bind_some, cat?_ok (by omega), Option.bind_some, cat?_ok (by simp; omega), Option.bind_some, w64_succ (by omega)]
      rfl
    have z : (0 : Int) = ((0 : Nat) : Int) := rfl
    rw [z, iter_next (s1 0 x.Valid _ rfl (by simp)), iter_next (s1 1 x.Uid _ rfl (by simp; omega)), iter_next (s1 2 x.Next _ rfl (by simp; omega)), iter_next (s1 3 x.Flags _ rfl (by simp; omega)),
      iter_done (r := _) (by unfold S_impl_RecText_1; rw [if_neg (by simp)]), Option.bind_some]
    have l8 : (short x.User).length ≤ x.User.length + 11 := short_len h.user
    have l9 : (short x.Name).length ≤ x.Name.length + 11 := short_len h.name
    rw [iter_next (s2 0 x.User _ rfl (by simp; omega)), iter_next (s2 1 x.Name _ rfl (by simp; omega)), iter_next (s2 2 x.Text _ rfl (by simp; omega)),
      iter_done (r := _) (by unfold S_impl_RecText_2; rw [if_neg (by simp)]), Option.bind_some]
    rfl
end Go.Proofs.Ytpecafogemipmaa.V
/- What the statements' own functions need: loops over lists. -/
namespace Go.Proofs.Ytpecafogemipmaa.V
open Go Go.RowKit

theorem lit_i64 {n : Int} (h : (Lit.int .i64 n).wf = true) : -9223372036854775808 ≤ n ∧ n < 9223372036854775808 := by
  have h1 : (decide (IntKind.i64.min ≤ n) && decide (n ≤ IntKind.i64.max)) = true := h
  simp [IntKind.min, IntKind.max, IntKind.bits, IntKind.signed] at h1
  omega
theorem iter_ex {σ ρ : Type} {step : σ → Option (σ ⊕ ρ)} (n : Nat) (I : Nat → σ → Prop) (Q : ρ → Prop) (h : ∀ i s, i < n → I i s → (∃ s', step s = some (.inl s') ∧ I (i + 1) s') ∨ ∃ r, step s = some (.inr r) ∧ Q r) (he : ∀ s, I n s → ∃ r, step s = some (.inr r) ∧ Q r) : ∀ s, I 0 s → ∃ r, iter step s = some r ∧ Q r := by
  have key : ∀ d i s, i + d = n → I i s → ∃ r, iter step s = some r ∧ Q r := by
    intro d
    induction d with
    | zero =>
      intro i s hi hs
      have : i = n := by omega
      subst this
      obtain ⟨r, h1, h2⟩ := he s hs
      exact ⟨r, iter_done h1, h2⟩
    | succ d ih =>
      intro i s hi hs
      rcases h i s (by omega) hs with ⟨s', h1, h2⟩ | ⟨r, h1, h2⟩
      · obtain ⟨r, h3, h4⟩ := ih (i + 1) s' (by omega) h2
        exact ⟨r, by rw [iter_next h1]; exact h3, h4⟩
      · exact ⟨r, iter_done h1, h2⟩
  exact fun s hs => key n 0 s (by omega) hs

theorem set'_nat {α : Type} {l : List α} {i : Nat} {x : α} : set' l (i : Int) x = l.set i x := by simp [set']
theorem at?_set {α : Type} {l : List α} {i : Nat} {x : α} (h : i < l.length) : at? (l.set i x) (i : Int) = some x := by
  rw [at?_nat (by simpa using h)]; simp
theorem at?_eq {α : Type} {l : List α} {i : Nat} {x : α} (h : l[i]? = some x) : at? l (i : Int) = some x := by
  obtain ⟨h1, rfl⟩ := List.getElem?_eq_some_iff.1 h
  exact at?_nat h1
theorem dlt {i : Nat} {n : Nat} (h : i < n) : decide ((i : Int) < (n : Int)) = true := by simpa using h
theorem dnlt {n : Nat} : decide ((n : Int) < (n : Int)) = false := by simp

/-- Copied one by one. -/
theorem to_loop {α : Type} {l : List α} {z : α} {step : Int × List α → Option ((Int × List α) ⊕ List α)} (hl : l.length < 9223372036854775807)
    (h1 : ∀ (i : Nat) (h : i < l.length) (m : List α), m.length = l.length → step ((i : Int), m) = some (.inl (((i + 1 : Nat) : Int), m.set i l[i])))
    (h2 : ∀ m : List α, step ((l.length : Int), m) = some (.inr m)) : iter step (0, List.replicate l.length z) = some l := by
  have := iter_range (step := step) (fun i => ((i : Int), l.take i ++ List.replicate (l.length - i) z)) l.length (r := l) ?_ ?_
  · simpa using this
  · intro i hi
    rw [h1 i hi _ (by simp; omega)]
    have e : (l.take i ++ List.replicate (l.length - i) z).set i l[i] = l.take (i + 1) ++ List.replicate (l.length - (i + 1)) z := by
      have e1 : l.length - i = (l.length - (i + 1)) + 1 := by omega
      have e2 : (l.take i).length = i := by simp; omega
      rw [e1, List.replicate_succ, List.set_append_right _ _ (by omega), e2, Nat.sub_self, List.set_cons_zero, List.take_succ_eq_append_getElem hi, List.append_assoc]
      rfl
    rw [e]
  · simp [h2]
/-- Marked one by one: what stands at a place tells the place. -/
theorem mark_loop {α : Type} {l : List α} {k m0 : Nat} {g : Nat → α → α} {step : Int × Int × List α → Option ((Int × Int × List α) ⊕ (Int × List α))}
    (h1 : ∀ (i m : Nat) (l' : List α) (h : i < l'.length), i < l.length → m = m0 + k * i → step ((m : Int), (i : Int), l') = some (.inl (((m + k : Nat) : Int), ((i + 1 : Nat) : Int), l'.set i (g m l'[i]))))
    (h2 : ∀ (m : Nat) (l' : List α), l'.length = l.length → step ((m : Int), (l.length : Int), l') = some (.inr ((m : Int), l'))) :
    iter step ((m0 : Int), 0, l) = some (((m0 + k * l.length : Nat) : Int), l.mapIdx fun i x => g (m0 + k * i) x) := by
  have := iter_range (step := step) (fun i => (((m0 + k * i : Nat) : Int), (i : Int), (l.take i).mapIdx (fun i x => g (m0 + k * i) x) ++ l.drop i)) l.length (r := (((m0 + k * l.length : Nat) : Int), l.mapIdx fun i x => g (m0 + k * i) x)) ?_ ?_
  · simpa using this
  · intro i hi
    have hlen : i < ((l.take i).mapIdx (fun i x => g (m0 + k * i) x) ++ l.drop i).length := by simp; omega
    rw [h1 i _ _ hlen hi rfl]
    have e0 : ((l.take i).mapIdx (fun i x => g (m0 + k * i) x)).length = i := by simp; omega
    have e1 : ((l.take i).mapIdx (fun i x => g (m0 + k * i) x) ++ l.drop i)[i] = l[i] := by
      rw [List.getElem_append_right (by omega)]
      simp [e0]
    have e : ((l.take i).mapIdx (fun i x => g (m0 + k * i) x) ++ l.drop i).set i (g (m0 + k * i) l[i]) = (l.take (i + 1)).mapIdx (fun i x => g (m0 + k * i) x) ++ l.drop (i + 1) := by
      rw [List.set_append_right _ _ (by omega), e0, Nat.sub_self, List.drop_eq_getElem_cons hi, List.set_cons_zero, List.take_succ_eq_append_getElem hi, List.mapIdx_append]
      have : (l.take i).length = i := by simp; omega
      simp [this]
    rw [e1, e, Nat.mul_succ, Nat.add_assoc]
  · rw [h2 _ _ (by simp)]
    simp
theorem held_loop {α : Type} {l : List α} {k m0 : Nat} {ρ : Type} {r : Int → ρ} {g : Nat → α → α} {step : Int × Int → Option ((Int × Int) ⊕ ρ)}
    (h1 : ∀ (i m : Nat) (h : i < l.length), m = m0 + k * i → step ((m : Int), (i : Int)) = some (.inl (((m + k : Nat) : Int), ((i + 1 : Nat) : Int))))
    (h2 : ∀ (m : Nat), step ((m : Int), (l.length : Int)) = some (.inr (r (m : Int)))) :
    iter step ((m0 : Int), 0) = some (r ((m0 + k * l.length : Nat) : Int)) := by
  refine iter_range (step := step) (fun i => (((m0 + k * i : Nat) : Int), (i : Int))) l.length (r := r ((m0 + k * l.length : Nat) : Int)) ?_ ?_
  · intro i hi
    rw [h1 i _ hi rfl, Nat.mul_succ, Nat.add_assoc]
  · exact h2 _
theorem mk?_ok {α : Type} {byt : Nat} {z : α} {n : Nat} (h : n ≤ 1099511627776) (h2 : n * byt ≤ 140737488355328) : mk? byt z (n : Int) = some (List.replicate n z) := by
  unfold mk?
  have h3 : ((n * byt : Nat) : Int) ≤ 140737488355328 := by omega
  rw [if_pos ⟨by omega, by rw [Int.mul_comm]; rw [Int.natCast_mul] at h3; exact h3, by omega⟩]; simp
/-- A scan that ends where something is found. -/
theorem any_loop {α ρ : Type} {l : List α} {k : Nat} (hk : k ≤ l.length) {q : α → Bool} {step : Int → Option (Int ⊕ ρ)} {bad good : ρ} (h1 : ∀ (i : Nat) (h : i < l.length), i < k → step (i : Int) = if q l[i] then some (.inr bad) else some (.inl ((i + 1 : Nat) : Int))) (h2 : step (k : Int) = some (.inr good)) : iter step 0 = some (if (l.take k).any q then bad else good) := by
  have key : ∀ d i, i + d = k → iter step (i : Int) = some (if ((l.take k).drop i).any q then bad else good) := by
    intro d
    induction d with
    | zero => intro i hi; have : i = k := by omega
              subst this; rw [iter_done h2, List.drop_eq_nil_of_le (by simp; omega)]; simp
    | succ d ih =>
      intro i hi
      have hd : (l.take k).drop i = l[i] :: (l.take k).drop (i + 1) := by
        rw [List.drop_eq_getElem_cons (by simp; omega)]; simp
      rw [hd, List.any_cons]
      have hs := h1 i (by omega) (by omega)
      cases hq : q l[i] with
      | true => rw [hq] at hs; rw [iter_done hs]; simp
      | false => rw [hq] at hs; rw [iter_next hs, ih (i + 1) (by omega)]; simp
  simpa using key k 0 (by omega)
theorem idx_loop {α : Type} {l : List α} {q : α → Bool} {step : Int → Option (Int ⊕ (Int ⊕ Unit))} (h1 : ∀ (i : Nat) (h : i < l.length), step (i : Int) = if q l[i] then some (.inr (.inl (i : Int))) else some (.inl ((i + 1 : Nat) : Int))) (h2 : step (l.length : Int) = some (.inr (.inr ()))) : iter step 0 = some (match l.findIdx? q with | some i => .inl (i : Int) | none => .inr ()) := by
  have key : ∀ d i, i + d = l.length → iter step (i : Int) = some (match (l.drop i).findIdx? q with | some j => .inl ((i + j : Nat) : Int) | none => .inr ()) := by
    intro d
    induction d with
    | zero => intro i hi; have : i = l.length := by omega
              subst this; rw [iter_done h2, List.drop_eq_nil_of_le (by simp)]; simp
    | succ d ih =>
      intro i hi
      have hs := h1 i (by omega)
      rw [List.drop_eq_getElem_cons (by omega), List.findIdx?_cons]
      cases hq : q l[i] with
      | true => rw [hq] at hs; rw [iter_done hs]; simp
      | false =>
        rw [hq] at hs; rw [iter_next hs, ih (i + 1) (by omega)]
        cases (l.drop (i + 1)).findIdx? q with
        | none => simp
        | some j => simp; omega
  have := key l.length 0 (by omega)
  simp only [List.drop_zero, Nat.zero_add] at this
  exact this
def idxI : Option Nat → Int
  | some i => i
  | none => -1
theorem idx_any {α : Type} {l : List α} {q : α → Bool} : decide (idxI (l.findIdx? q) ≥ 0) = l.any q := by
  rw [← List.findIdx?_isSome]
  cases l.findIdx? q <;> simp [idxI]
theorem sub?_take {α : Type} {l : List α} {i : Nat} (h : i ≤ l.length) : sub? l 0 (i : Int) = some (l.take i) := by
  unfold sub?
  simp
  omega
end Go.Proofs.Ytpecafogemipmaa.V
/- The functions that the statements are made of. -/
namespace Go.Proofs.Ytpecafogemipmaa.V
open Go Go.RowKit
set_option maxRecDepth 100000
structure Sz_TCheck (x : TCheck) : Prop where
  sRefs : x.Refs.length ≤ 1048576
structure Sz_TRec (x : TRec) : Prop where
  sUser : x.User.length ≤ 1048576
  sName : x.Name.length ≤ 1048576
  sText : x.Text.length ≤ 1048576
structure Sz_TItem (x : TItem) : Prop where
  sRec : Sz_TRec x.Rec
structure Sz_TFrame (x : TFrame) : Prop where
  sBody : x.Body.length ≤ 1048576
structure Sz_TL06Cur (x : TL06Cur) : Prop where
  smText : x.mText.length ≤ 1048576
theorem p_laws_toRef {x : TRef} : F_laws_toRef x = some x := by
  unfold F_laws_toRef
  rfl
theorem p_laws_toRefS {x : List TRef} (h : x.length ≤ 1048576) : F_laws_toRefS x = some x := by
  unfold F_laws_toRefS
  have hl := h
  rw [mk?_ok (by omega) (by omega), Option.bind_some, to_loop (step := S_laws_toRefS_1 x) (by omega)]
  · rfl
  · intro i hi m hm
    unfold S_laws_toRefS_1
    have he := p_laws_toRef (x := x[i])
    simp only [dlt hi, if_true, at?_nat hi, at?_nat (show i < m.length by omega), Option.bind_some, set'_nat, w64_succ (show i < 9223372036854775807 by omega), he]
  · intro m
    unfold S_laws_toRefS_1
    simp
theorem p_laws_toCheck {x : TCheck} (h : Sz_TCheck x) : F_laws_toCheck x = some x := by
  unfold F_laws_toCheck
  simp only [p_laws_toRefS (x := x.Refs) h.sRefs, Option.bind_some]
theorem p_laws_eqRef {x : TRef} : F_laws_eqRef x x = some true := by
  unfold F_laws_eqRef
  simp []
theorem p_laws_eqRefS {x : List TRef} (h : x.length ≤ 1048576) : F_laws_eqRefS x x = some true := by
  unfold F_laws_eqRefS
  have hl := h
  have key : iter (S_laws_eqRefS_1 x x) 0 = some (.inr ()) := by
    refine iter_range (fun i => (i : Int)) x.length ?_ ?_
    · intro i hi
      unfold S_laws_eqRefS_1
      have he := p_laws_eqRef (x := x[i])
      simp only [dlt hi, if_true, at?_nat hi, Option.bind_some, w64_succ (show i < 9223372036854775807 by omega), he]
      try simp
    · unfold S_laws_eqRefS_1
      simp
  rw [key]
  simp
theorem p_laws_eqCheck {x : TCheck} (h : Sz_TCheck x) : F_laws_eqCheck x x = some true := by
  unfold F_laws_eqCheck
  simp [p_laws_eqRefS (x := x.Refs) h.sRefs]
theorem p_slices_IndexFunc_Ref_CheckOk_1 {x0 : List TRef} {x1 : TRef} {q : TRef → Bool} (hl : x0.length ≤ 9223372036854775806) (hq : ∀ y ∈ x0, F_impl_CheckOk_1_w y x1 = some (q y)) : F_slices_IndexFunc_Ref_CheckOk_1 x0 x1 = some (idxI (x0.findIdx? q)) := by
  unfold F_slices_IndexFunc_Ref_CheckOk_1
  rw [idx_loop (l := x0) (q := q) ?_ ?_]
  · cases x0.findIdx? q <;> rfl
  · intro i hi
    unfold S_slices_IndexFunc_Ref_CheckOk_1_1
    simp only [dlt hi, if_true, at?_nat hi, Option.bind_some, hq _ (List.getElem_mem hi), w64_succ (show i < 9223372036854775807 by omega)]
  · unfold S_slices_IndexFunc_Ref_CheckOk_1_1
    simp
theorem p_slices_ContainsFunc_Ref_CheckOk_1 {x0 : List TRef} {x1 : TRef} {q : TRef → Bool} (hl : x0.length ≤ 9223372036854775806) (hq : ∀ y ∈ x0, F_impl_CheckOk_1_w y x1 = some (q y)) : F_slices_ContainsFunc_Ref_CheckOk_1 x0 x1 = some (x0.any q) := by
  unfold F_slices_ContainsFunc_Ref_CheckOk_1
  rw [p_slices_IndexFunc_Ref_CheckOk_1 hl hq, Option.bind_some, idx_any]
theorem p_laws_szRefS {x : List TRef} {n : Int} (w : (x.length ≤ maxLen ∧ ∀ a ∈ x, wf_TRef a)) (h0 : 0 ≤ n) (h1 : n ≤ 1048576) : ∃ r, F_laws_szRefS x n = some r ∧ r ≤ n ∧ -1 ≤ r ∧ (0 ≤ r → x.length ≤ 1048576) := by
  unfold F_laws_szRefS
  have hw : (x.length : Int) ≤ 9223372036854775807 := by have := w.1; unfold maxLen at this; omega
  have e0 : w64 (n - (x.length : Int)) = n - x.length := w64_id (by omega) (by omega)
  rw [e0]
  by_cases c0 : n - (x.length : Int) < 0
  · rw [if_pos (by simpa using c0)]; exact ⟨-1, rfl, by omega, by omega, fun h => absurd h (by omega)⟩
  rw [if_neg (by simpa using c0)]
  exact ⟨_, rfl, by omega, by omega, fun _ => by omega⟩
theorem p_laws_szCheck {x : TCheck} {n : Int} (w : wf_TCheck x) (h0 : 0 ≤ n) (h1 : n ≤ 1048576) : ∃ r, F_laws_szCheck x n = some r ∧ r ≤ n ∧ -1 ≤ r ∧ (0 ≤ r → Sz_TCheck x) := by
  unfold F_laws_szCheck
  obtain ⟨r1, f1, g1, b1, q1⟩ := p_laws_szRefS (x := x.Refs) (n := n) w.2.2.2.2.1 (by omega) (by omega)
  simp only [f1, Option.bind_some]
  by_cases c1 : r1 < 0
  · rw [if_pos (by simpa using c1)]; exact ⟨-1, rfl, by omega, by omega, fun h => absurd h (by omega)⟩
  rw [if_neg (by simpa using c1)]
  exact ⟨_, rfl, by omega, by omega, fun _ => ⟨q1 (by omega)⟩⟩
end Go.Proofs.Ytpecafogemipmaa.V
/- What a check must be, and its text. -/
namespace Go.Proofs.Ytpecafogemipmaa.V
open Go Go.RowKit
set_option maxRecDepth 100000

def lastG (l : List TRef) : Nat → Int
  | 0 => 0
  | i + 1 => match l[i]? with | some r => r.Gen | none => 0
theorem lastG_succ {l : List TRef} {i : Nat} (h : i < l.length) : lastG l (i + 1) = l[i].Gen := by simp [lastG, h]
def anyNo (l : List TRef) (n : Int) : Bool := l.any fun q => q.No == n
def okS (l : List TRef) (ng : Int) (i : Nat) : Bool := match l[i]? with
  | some r => inR r.No 0 10 && inR r.Gen 1 (w64 (ng - 1)) && (i == 0 || decide (lastG l i < r.Gen)) && !anyNo (l.take i) r.No
  | none => true
def okI (l : List TRef) (ng : Int) (i : Nat) : Bool := match l[i]? with
  | some r => inR r.Gen (w64 (lastG l i + 1)) (w64 (ng - 1)) && inR r.No 0 10 && !anyNo (l.take i) r.No
  | none => true
theorem inR_iff {n lo hi : Int} : inR n lo hi = true ↔ lo ≤ n ∧ n ≤ hi := by unfold inR; simp
/-- Both look at the same. -/
theorem ok_same {l : List TRef} {ng : Int} (h : 1 ≤ ng) (h' : ng ≤ 1000000000) : (List.range l.length).all (okS l ng) = (List.range l.length).all (okI l ng) := by
  have hw : w64 (ng - 1) = ng - 1 := w64_id (by omega) (by omega)
  rw [Bool.eq_iff_iff, List.all_eq_true, List.all_eq_true]
  constructor
  · intro hs i hi
    have hi' := List.mem_range.1 hi
    have h1 := hs i hi
    unfold okS at h1
    unfold okI
    rw [List.getElem?_eq_getElem hi'] at h1 ⊢
    simp only [Bool.and_eq_true, inR_iff, hw] at h1 ⊢
    obtain ⟨⟨⟨a, b⟩, c⟩, d⟩ := h1
    refine ⟨⟨⟨?_, b.2⟩, a⟩, d⟩
    cases i with
    | zero => simp only [lastG]; rw [w64_id (by omega) (by omega)]; omega
    | succ j =>
      have h2 := hs j (List.mem_range.2 (by omega))
      unfold okS at h2
      rw [List.getElem?_eq_getElem (by omega)] at h2
      simp only [Bool.and_eq_true, inR_iff, hw] at h2
      rw [lastG_succ (by omega)] at c ⊢
      simp at c
      rw [w64_id (by omega) (by omega)]; omega
  · intro hs
    have key : ∀ i, i < l.length → okS l ng i = true := by
      intro i
      induction i with
      | zero =>
        intro hi
        have h1 := hs 0 (List.mem_range.2 hi)
        unfold okI at h1
        unfold okS
        rw [List.getElem?_eq_getElem hi] at h1 ⊢
        simp only [Bool.and_eq_true, inR_iff, hw, lastG] at h1 ⊢
        rw [w64_id (by omega) (by omega)] at h1
        obtain ⟨⟨a, b⟩, c⟩ := h1
        exact ⟨⟨⟨b, by omega, a.2⟩, by simp⟩, c⟩
      | succ j ih =>
        intro hi
        have h1 := hs (j + 1) (List.mem_range.2 hi)
        have h2 := ih (by omega)
        unfold okI at h1
        unfold okS at h2 ⊢
        rw [List.getElem?_eq_getElem hi] at h1 ⊢
        rw [List.getElem?_eq_getElem (by omega)] at h2
        simp only [Bool.and_eq_true, inR_iff, hw] at h1 h2 ⊢
        rw [lastG_succ (by omega)] at h1 ⊢
        rw [w64_id (by omega) (by omega)] at h1
        obtain ⟨⟨a, b⟩, c⟩ := h1
        exact ⟨⟨⟨b, by omega, a.2⟩, by simp; omega⟩, c⟩
    exact fun i hi => key i (List.mem_range.1 hi)

def stamps (c : TCheck) : Bool := inR c.Stamp 1 1000000000 && inR c.NextGen 1 1000000000 && inR c.NextSeq 1 1000000000 && inR c.NextValid 1 1000000000
def checkOk (c : TCheck) : Bool := stamps c && inR c.Refs.length 1 11 && (List.range c.Refs.length).all (okS c.Refs c.NextGen)

theorem spec_checkOk {c : TCheck} (h : c.Refs.length ≤ 1048576) : F_spec_CheckOk c = some (checkOk c) := by
  have hl : iter (S_spec_CheckOk_1 c) 0 = some (if (List.range c.Refs.length).all (okS c.Refs c.NextGen) then .inr () else .inl false) := by
    refine iter_all (fun i => (i : Int)) c.Refs.length _ ?_ ?_ ?_
    all_goals first
      | (unfold S_spec_CheckOk_1; simp; done)
      | skip
    all_goals
      intro i hi hp
      have inner : iter (S_spec_CheckOk_2 c (i : Int) c.Refs[i]) 0 = some (if anyNo (c.Refs.take i) c.Refs[i].No then .inl false else .inr ()) := by
        refine any_loop (by omega) ?_ ?_
        · intro j hj hji
          unfold S_spec_CheckOk_2
          simp only [dlt hji, if_true, at?_nat hj, Option.bind_some, w64_succ (show j < 9223372036854775807 by omega)]
        · unfold S_spec_CheckOk_2
          simp
      have hprev : (if decide ((i : Int) > 0) then (at? c.Refs (w64 ((i : Int) - 1))).bind fun v13 => (if decide (v13.Gen ≥ c.Refs[i].Gen) then some true else some false) else some false) = some (!(i == 0 || decide (lastG c.Refs i < c.Refs[i].Gen))) := by
        cases i with
        | zero => simp
        | succ j =>
          have e : w64 (((j + 1 : Nat) : Int) - 1) = (j : Int) := by rw [w64_id (by omega) (by omega)]; omega
          rw [if_pos (by simp), e, at?_nat (show j < c.Refs.length by omega), lastG_succ (by omega)]
          simp only [Option.bind_some]
          by_cases hc : c.Refs[j].Gen < c.Refs[j + 1].Gen
          · rw [if_neg (by simpa using hc)]; simp [hc]
          · rw [if_pos (by simp; omega)]; simp [hc]
      unfold okS at hp
      rw [List.getElem?_eq_getElem hi] at hp
      dsimp only at hp
      unfold S_spec_CheckOk_1
      simp only [dlt hi, if_true, at?_nat hi, Option.bind_some, spec_in, inner, hprev]
      generalize inR c.Refs[i].No 0 10 = b1 at hp ⊢
      generalize inR c.Refs[i].Gen 1 (w64 (c.NextGen - 1)) = b2 at hp ⊢
      generalize (i == 0 || decide (lastG c.Refs i < c.Refs[i].Gen)) = b3 at hp ⊢
      generalize anyNo (c.Refs.take i) c.Refs[i].No = b4 at hp ⊢
      revert hp
      cases b1 <;> cases b2 <;> cases b3 <;> cases b4 <;> simp [w64_succ (show i < 9223372036854775807 by omega)]
  unfold F_spec_CheckOk checkOk stamps
  simp only [spec_in, hl, Option.bind_some]
  cases inR c.Stamp 1 1000000000 <;> cases inR c.NextGen 1 1000000000 <;> cases inR c.NextSeq 1 1000000000 <;> cases inR c.NextValid 1 1000000000 <;> cases inR (c.Refs.length : Int) 1 11 <;> cases (List.range c.Refs.length).all (okS c.Refs c.NextGen) <;> simp
theorem impl_checkOk {c : TCheck} (h : c.Refs.length ≤ 1048576) : F_impl_CheckOk c = some (checkOk c) := by
  have hs : iter (S_impl_CheckOk_1 c) 0 = some (if stamps c then .inr () else .inl false) := by
    have e1 : iter (S_impl_CheckOk_1 c) 0 = some (if ([c.Stamp, c.NextGen, c.NextSeq, c.NextValid].take 4).any (fun n => !inR n 1 1000000000) then .inl false else .inr ()) := by
      refine any_loop (by simp) ?_ ?_
      · intro i hi _
        unfold S_impl_CheckOk_1
        simp only [dlt hi, if_true, at?_nat hi, Option.bind_some, impl_in, w64_succ (show i < 9223372036854775807 by simp at hi; omega)]
        cases inR [c.Stamp, c.NextGen, c.NextSeq, c.NextValid][i] 1 1000000000 <;> simp
      · unfold S_impl_CheckOk_1
        simp
    rw [e1]
    unfold stamps
    simp
    cases inR c.Stamp 1 1000000000 <;> cases inR c.NextGen 1 1000000000 <;> cases inR c.NextSeq 1 1000000000 <;> cases inR c.NextValid 1 1000000000 <;> simp
  have hl : iter (S_impl_CheckOk_2 c) (0, 0) = some (if (List.range c.Refs.length).all (okI c.Refs c.NextGen) then .inr () else .inl false) := by
    refine iter_all (fun i => (lastG c.Refs i, (i : Int))) c.Refs.length _ ?_ ?_ ?_
    all_goals first
      | (unfold S_impl_CheckOk_2; simp; done)
      | skip
    all_goals
      intro i hi hp
      have hc := p_slices_ContainsFunc_Ref_CheckOk_1 (x0 := c.Refs.take i) (x1 := c.Refs[i]) (q := fun q => q.No == c.Refs[i].No) (by simp; omega) (fun y _ => rfl)
      unfold okI at hp
      rw [List.getElem?_eq_getElem hi] at hp
      dsimp only at hp
      unfold S_impl_CheckOk_2
      simp only [dlt hi, if_true, at?_nat hi, Option.bind_some, impl_in, sub?_take (Nat.le_of_lt hi), hc, lastG_succ hi]
      unfold anyNo at hp
      generalize inR c.Refs[i].No 0 10 = b1 at hp ⊢
      generalize inR c.Refs[i].Gen (w64 (lastG c.Refs i + 1)) (w64 (c.NextGen - 1)) = b2 at hp ⊢
      generalize (c.Refs.take i).any (fun q => q.No == c.Refs[i].No) = b4 at hp ⊢
      revert hp
      cases b1 <;> cases b2 <;> cases b4 <;> simp [w64_succ (show i < 9223372036854775807 by omega)]
  unfold F_impl_CheckOk checkOk
  rw [hs]
  cases hst : stamps c with
  | false => simp
  | true =>
    have hng : 1 ≤ c.NextGen ∧ c.NextGen ≤ 1000000000 := by
      unfold stamps at hst
      simp only [Bool.and_eq_true, inR_iff] at hst
      exact hst.1.1.2
    simp only [if_true, Option.bind_some, Sum.elim_inr, impl_in, hl, ok_same hng.1 hng.2]
    cases inR (c.Refs.length : Int) 1 11 <;> cases (List.range c.Refs.length).all (okI c.Refs c.NextGen) <;> simp
theorem pure_FnExactCheckOk {x : TCheck} (w : wf_TCheck x) : F_laws_FnExactCheckOk x = some true := by
  obtain ⟨r, h1, h2, h3, h4⟩ := p_laws_szCheck w (n := 1048576) (by omega) (by omega)
  unfold F_laws_FnExactCheckOk
  rw [h1, Option.bind_some]
  by_cases hr : r < 0
  · rw [if_pos (by simpa using hr)]
  · have hs := h4 (by omega)
    rw [if_neg (by simpa using hr)]
    simp [p_laws_toCheck hs, spec_checkOk hs.sRefs, impl_checkOk hs.sRefs, p_laws_eqCheck hs]
end Go.Proofs.Ytpecafogemipmaa.V
/- The text of a check. -/
namespace Go.Proofs.Ytpecafogemipmaa.V
open Go Go.RowKit
set_option maxRecDepth 100000

def ctHead (c : TCheck) : List UInt8 := vt c.Stamp ++ vt c.NextGen ++ vt c.NextSeq ++ vt c.NextValid ++ vt c.Refs.length
def refT (r : TRef) : List UInt8 := vt r.No ++ vt r.Gen
def ctBody (c : TCheck) : List UInt8 := ctHead c ++ c.Refs.flatMap refT
def ctOut (c : TCheck) : List UInt8 := short (ctBody c ++ sealL (ctBody c))
def checkText (c : TCheck) : List UInt8 × Bool := if checkOk c then (if 128 < (ctOut c).length then ([], false) else (ctOut c, true)) else ([], false)
theorem checkOk_rng {c : TCheck} (h : checkOk c = true) : ((1 ≤ c.Stamp ∧ c.Stamp ≤ 1000000000) ∧ (1 ≤ c.NextGen ∧ c.NextGen ≤ 1000000000) ∧ (1 ≤ c.NextSeq ∧ c.NextSeq ≤ 1000000000) ∧ (1 ≤ c.NextValid ∧ c.NextValid ≤ 1000000000)) ∧ (1 ≤ c.Refs.length ∧ c.Refs.length ≤ 11) ∧ ∀ r ∈ c.Refs, (0 ≤ r.No ∧ r.No ≤ 10) ∧ 1 ≤ r.Gen ∧ r.Gen ≤ 1000000000 := by
  unfold checkOk stamps at h
  simp only [Bool.and_eq_true, inR_iff] at h
  obtain ⟨⟨⟨⟨⟨h1, h2⟩, h3⟩, h4⟩, h5⟩, h6⟩ := h
  refine ⟨⟨h1, h2, h3, h4⟩, by omega, ?_⟩
  intro r hr
  obtain ⟨i, hi⟩ := List.getElem?_of_mem hr
  have h7 := List.all_eq_true.1 h6 i (List.mem_range.2 (List.getElem?_eq_some_iff.1 hi).1)
  unfold okS at h7
  rw [hi] at h7
  simp only [Bool.and_eq_true, inR_iff] at h7
  rw [w64_id (by omega) (by omega)] at h7
  obtain ⟨⟨⟨a, b⟩, _⟩, _⟩ := h7
  omega
theorem refT_len {r : TRef} (h : (0 ≤ r.No ∧ r.No ≤ 10) ∧ 1 ≤ r.Gen ∧ r.Gen ≤ 1000000000) : (refT r).length ≤ 22 := by
  have l1 := vt_len (n := r.No) (by omega)
  have l2 := vt_len (n := r.Gen) (by omega)
  unfold refT
  simp; omega
theorem fm_len {α : Type} {f : α → List UInt8} {k : Nat} : ∀ (l : List α), (∀ x ∈ l, (f x).length ≤ k) → (l.flatMap f).length ≤ k * l.length
  | [], _ => by simp
  | x :: l, h => by
    have h1 := fm_len l (fun y hy => h y (by simp [hy]))
    have h2 := h x (by simp)
    simp only [List.flatMap_cons, List.length_append, List.length_cons, Nat.mul_succ]
    omega
theorem ctHead_len {c : TCheck} (h : checkOk c = true) : (ctHead c).length ≤ 55 := by
  obtain ⟨⟨h1, h2, h3, h4⟩, h5, _⟩ := checkOk_rng h
  have l1 := vt_len (n := c.Stamp) (by omega)
  have l2 := vt_len (n := c.NextGen) (by omega)
  have l3 := vt_len (n := c.NextSeq) (by omega)
  have l4 := vt_len (n := c.NextValid) (by omega)
  have l5 := vt_len (n := c.Refs.length) (by omega)
  unfold ctHead
  simp; omega
theorem ctBody_len {c : TCheck} (h : checkOk c = true) : (ctBody c).length ≤ 297 := by
  have h1 := ctHead_len h
  obtain ⟨_, h5, h6⟩ := checkOk_rng h
  have h2 := fm_len (f := refT) (k := 22) c.Refs (fun r hr => refT_len (h6 r hr))
  unfold ctBody
  simp only [List.length_append]
  omega
/-- Something for each, one behind the other. -/
theorem cat_loop {α : Type} {l : List α} {f : α → List UInt8} {step : List UInt8 × Int → Option ((List UInt8 × Int) ⊕ List UInt8)} {y : List UInt8} {b : Nat}
    (hb : ∀ i, i ≤ l.length → (y ++ (l.take i).flatMap f).length ≤ b)
    (h1 : ∀ (i : Nat) (h : i < l.length) (a : List UInt8), a.length ≤ b → step (a, (i : Int)) = some (.inl (a ++ f l[i], ((i + 1 : Nat) : Int))))
    (h2 : ∀ a, step (a, (l.length : Int)) = some (.inr a)) : iter step (y, 0) = some (y ++ l.flatMap f) := by
  have := iter_range (step := step) (fun i => (y ++ (l.take i).flatMap f, (i : Int))) l.length (r := y ++ l.flatMap f) ?_ ?_
  · simpa using this
  · intro i hi
    rw [h1 i hi _ (hb i (by omega)), List.take_succ_eq_append_getElem hi, List.flatMap_append, List.append_assoc]
    simp
  · rw [h2]; simp
theorem spec_checkText {c : TCheck} (h : c.Refs.length ≤ 1048576) : F_spec_CheckText c = some (checkText c) := by
  unfold F_spec_CheckText checkText
  rw [spec_checkOk h, Option.bind_some]
  cases hk : checkOk c with
  | false => rfl
  | true =>
    obtain ⟨⟨h1, h2, h3, h4⟩, h5, h6⟩ := checkOk_rng hk
    have l1 := vt_len (n := c.Stamp) (by omega)
    have l2 := vt_len (n := c.NextGen) (by omega)
    have l3 := vt_len (n := c.NextSeq) (by omega)
    have l4 := vt_len (n := c.NextValid) (by omega)
    have l5 := vt_len (n := c.Refs.length) (by omega)
    have lb := ctBody_len hk
    have hl : iter (S_spec_CheckText_1 c) (ctHead c, 0) = some (ctBody c) := by
      refine cat_loop (l := c.Refs) (f := refT) (b := 297) ?_ ?_ ?_
      · intro i hi
        have h7 := fm_len (f := refT) (k := 22) (c.Refs.take i) (fun r hr => refT_len (h6 r (List.mem_of_mem_take hr)))
        have h8 := ctHead_len hk
        simp only [List.length_append, List.length_take] at h7 ⊢
        omega
      · intro i hi a ha
        have hr := h6 _ (List.getElem_mem hi)
        have q1 := vt_len (n := c.Refs[i].No) (by omega)
        have q2 := vt_len (n := c.Refs[i].Gen) (by omega)
        unfold S_spec_CheckText_1
        simp only [dlt hi, if_true, at?_nat hi, Option.bind_some, w64_succ (show i < 9223372036854775807 by omega)]
        rw [spec_var (by omega) (by omega), Option.bind_some, cat?_ok (by omega), Option.bind_some, spec_var (by omega) (by omega), Option.bind_some, cat?_ok (by simp; omega), Option.bind_some]
        simp [refT]
      · intro a
        unfold S_spec_CheckText_1
        simp
    simp only [if_true]
    rw [spec_var (by omega) (by omega), Option.bind_some, spec_var (by omega) (by omega), Option.bind_some, cat?_ok (by omega), Option.bind_some, spec_var (by omega) (by omega), Option.bind_some, cat?_ok (by simp; omega), Option.bind_some, spec_var (by omega) (by omega), Option.bind_some, cat?_ok (by simp; omega), Option.bind_some, spec_var (by omega) (by omega), Option.bind_some, cat?_ok (by simp; omega), Option.bind_some]
    rw [show vt c.Stamp ++ vt c.NextGen ++ vt c.NextSeq ++ vt c.NextValid ++ vt c.Refs.length = ctHead c from rfl, hl, Option.bind_some, spec_sealed (by omega), Option.bind_some]
    unfold sealed
    rw [if_neg (by omega)]
    simp only []
    rw [spec_short (by rw [List.length_append, sealL_len]; omega), Option.bind_some]
    show _ = some (if 128 < (ctOut c).length then ([], false) else (ctOut c, true))
    unfold ctOut
    by_cases hc : 128 < (short (ctBody c ++ sealL (ctBody c))).length
    · have hc' : (128 : Int) < ((short (ctBody c ++ sealL (ctBody c))).length : Int) := by omega
      rw [if_pos hc]; simp [hc']
    · have hc' : ¬ (128 : Int) < ((short (ctBody c ++ sealL (ctBody c))).length : Int) := by omega
      rw [if_neg hc]; simp [hc']
theorem impl_checkText {c : TCheck} (h : c.Refs.length ≤ 1048576) : F_impl_CheckText c = some (checkText c) := by
  unfold F_impl_CheckText checkText
  rw [impl_checkOk h, Option.bind_some]
  cases hk : checkOk c with
  | false => rfl
  | true =>
    obtain ⟨⟨h1, h2, h3, h4⟩, h5, h6⟩ := checkOk_rng hk
    have l1 := vt_len (n := c.Stamp) (by omega)
    have l2 := vt_len (n := c.NextGen) (by omega)
    have l3 := vt_len (n := c.NextSeq) (by omega)
    have l4 := vt_len (n := c.NextValid) (by omega)
    have l5 := vt_len (n := c.Refs.length) (by omega)
    have lb := ctBody_len hk
    have hl : iter (S_impl_CheckText_1 c) (ctHead c, 0) = some (ctBody c) := by
      refine cat_loop (l := c.Refs) (f := refT) (b := 297) ?_ ?_ ?_
      · intro i hi
        have h7 := fm_len (f := refT) (k := 22) (c.Refs.take i) (fun r hr => refT_len (h6 r (List.mem_of_mem_take hr)))
        have h8 := ctHead_len hk
        simp only [List.length_append, List.length_take] at h7 ⊢
        omega
      · intro i hi a ha
        have hr := h6 _ (List.getElem_mem hi)
        have q1 := vt_len (n := c.Refs[i].No) (by omega)
        have q2 := vt_len (n := c.Refs[i].Gen) (by omega)
        unfold S_impl_CheckText_1
        simp only [dlt hi, if_true, at?_nat hi, Option.bind_some, w64_succ (show i < 9223372036854775807 by omega)]
        rw [impl_var (by omega) (by omega), Option.bind_some, impl_var (by omega) (by omega), Option.bind_some, cat?_ok (by omega), Option.bind_some, cat?_ok (by simp; omega), Option.bind_some]
        simp [refT]
      · intro a
        unfold S_impl_CheckText_1
        simp
    simp only [if_true]
    rw [impl_var (by omega) (by omega), Option.bind_some, impl_var (by omega) (by omega), Option.bind_some, cat?_ok (by omega), Option.bind_some, impl_var (by omega) (by omega), Option.bind_some, cat?_ok (by simp; omega), Option.bind_some, impl_var (by omega) (by omega), Option.bind_some, cat?_ok (by simp; omega), Option.bind_some, impl_var (by omega) (by omega), Option.bind_some, cat?_ok (by simp; omega), Option.bind_some]
    rw [show vt c.Stamp ++ vt c.NextGen ++ vt c.NextSeq ++ vt c.NextValid ++ vt c.Refs.length = ctHead c from rfl, hl, Option.bind_some, impl_seal (by omega), Option.bind_some, cat?_ok (by rw [sealL_len]; omega), Option.bind_some]
    have e4 : (ctBody c ++ sealL (ctBody c)).length = (ctBody c).length + 4 := by rw [List.length_append, sealL_len]
    have q1 := vt_len (n := ((ctBody c ++ sealL (ctBody c)).length : Nat)) (by omega)
    rw [impl_var (by omega) (by omega), Option.bind_some, cat?_ok (by omega), Option.bind_some]
    show _ = some (if 128 < (ctOut c).length then ([], false) else (ctOut c, true))
    rw [show vt ((ctBody c ++ sealL (ctBody c)).length : Nat) ++ (ctBody c ++ sealL (ctBody c)) = ctOut c from rfl]
    by_cases hc : 128 < (ctOut c).length
    · rw [if_pos hc, if_pos (by simp; omega)]
    · rw [if_neg hc, if_neg (by simp; omega)]
theorem pure_FnExactCheckText {x : TCheck} (w : wf_TCheck x) : F_laws_FnExactCheckText x = some true := by
  obtain ⟨r, h1, h2, h3, h4⟩ := p_laws_szCheck w (n := 1048576) (by omega) (by omega)
  unfold F_laws_FnExactCheckText
  rw [h1, Option.bind_some]
  by_cases hr : r < 0
  · rw [if_pos (by simpa using hr)]
  · have hs := h4 (by omega)
    rw [if_neg (by simpa using hr)]
    simp [p_laws_toCheck hs, spec_checkText hs.sRefs, impl_checkText hs.sRefs, p_laws_eqCheck hs]
end Go.Proofs.Ytpecafogemipmaa.V
