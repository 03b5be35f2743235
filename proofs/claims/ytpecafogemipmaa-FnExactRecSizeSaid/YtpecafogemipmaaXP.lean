/- The pure part. -/
import Derived.Test.YtpecafogemipmaaXT
/- Loops that count, numbers, words: plain lists and numbers. -/
namespace Go.Proofs.Ytpecafogemipmaa.V
open Go Go.RowKit

/-! ### loops that count -/
theorem iter_range {σ ρ : Type} {step : σ → Option (σ ⊕ ρ)} (st : Nat → σ) (n : Nat) {r : ρ} (hs : ∀ i, i < n → step (st i) = some (.inl (st (i + 1)))) (he : step (st n) = some (.inr r)) : iter step (st 0) = some r := by
  have key : ∀ d i, i + d = n → iter step (st i) = some r := by
    intro d
    induction d with
    | zero => intro i hi; have : i = n := by omega
              subst this; exact iter_done he
    | succ d ih => intro i hi; rw [iter_next (hs i (by omega))]; exact ih (i + 1) (by omega)
  exact key n 0 (by omega)

/-! ### numbers -/
theorem w64_id {n : Int} (h : -9223372036854775808 ≤ n) (h' : n < 9223372036854775808) : w64 n = n := by
  unfold w64 IntKind.wrap
  simp [IntKind.bits, IntKind.signed]
  omega
theorem w64_nat {n : Nat} (h : n < 9223372036854775808) : w64 (n : Int) = n := w64_id (by omega) (by omega)
theorem w64_succ {n : Nat} (h : n < 9223372036854775807) : w64 ((n : Int) + 1) = ((n + 1 : Nat) : Int) := by rw [w64_id (by omega) (by omega)]; omega
theorem u8_wrap (n : Int) : IntKind.u8.wrap n = n % 256 := by
  unfold IntKind.wrap
  simp [IntKind.bits, IntKind.signed]
theorem u32_wrap (n : Int) : IntKind.u32.wrap n = n % 4294967296 := by
  unfold IntKind.wrap
  simp [IntKind.bits, IntKind.signed]
theorem at?_nat {α : Type} {l : List α} {i : Nat} (h : i < l.length) : at? l (i : Int) = some l[i] := by
  unfold at?
  rw [if_pos ⟨by omega, by omega⟩]
  simp [h]
theorem bt?_nat {s : List UInt8} {i : Nat} (h : i < s.length) : bt? s (i : Int) = some s[i] := by
  unfold bt?
  rw [if_pos (by omega)]
  simp [h]
theorem cat?_ok {s t : List UInt8} (h : s.length + t.length ≤ 4611686018427387904) : cat? s t = some (s ++ t) := by unfold cat?; rw [if_pos h]
theorem app?_ok {α : Type} {byt : Nat} {l m : List α} (h : l.length + m.length ≤ 1099511627776) (h2 : (l.length + m.length) * byt ≤ 140737488355328) : app? byt l m = some (l ++ m) := by unfold app?; rw [if_pos ⟨h, h2⟩]

theorem andv127 {n : Nat} (h' : n < 9223372036854775808) : andv .i64 n 127 = ((n % 128 : Nat) : Int) := by
  show IntKind.i64.wrap ((BitVec.ofInt 64 (n : Int) &&& BitVec.ofInt 64 127).toNat : Int) = _
  have e1 : BitVec.ofInt 64 (n : Int) = BitVec.ofNat 64 n := by simp
  have e2 : BitVec.ofInt 64 (127 : Int) = BitVec.ofNat 64 127 := by simp
  rw [e1, e2]
  have e3 : (BitVec.ofNat 64 n &&& BitVec.ofNat 64 127).toNat = n % 128 := by
    rw [BitVec.toNat_and]
    simp only [BitVec.toNat_ofNat]
    rw [Nat.mod_eq_of_lt (a := n) (by omega)]
    exact Nat.and_two_pow_sub_one_eq_mod n 7
  rw [e3]
  exact w64_nat (by omega)
theorem orv128 {n : Nat} (h : n < 128) : orv .i64 n 128 = ((n + 128 : Nat) : Int) := by
  show IntKind.i64.wrap ((BitVec.ofInt 64 (n : Int) ||| BitVec.ofInt 64 128).toNat : Int) = _
  have e1 : BitVec.ofInt 64 (n : Int) = BitVec.ofNat 64 n := by simp
  have e2 : BitVec.ofInt 64 (128 : Int) = BitVec.ofNat 64 128 := by simp
  rw [e1, e2]
  have e3 : (BitVec.ofNat 64 n ||| BitVec.ofNat 64 128).toNat = n + 128 := by
    rw [BitVec.toNat_or]
    simp only [BitVec.toNat_ofNat]
    rw [Nat.mod_eq_of_lt (a := n) (by omega)]
    have := Nat.two_pow_add_eq_or_of_lt (i := 7) (b := n) (by omega) 1
    rw [Nat.or_comm] at this
    simp at this ⊢
    omega
  rw [e3]
  exact w64_nat (by omega)
theorem andv1 {n : Nat} (h' : n < 4294967296) : andv .u32 n 1 = ((n % 2 : Nat) : Int) := by
  show IntKind.u32.wrap ((BitVec.ofInt 32 (n : Int) &&& BitVec.ofInt 32 1).toNat : Int) = _
  have e1 : BitVec.ofInt 32 (n : Int) = BitVec.ofNat 32 n := by simp
  have e2 : BitVec.ofInt 32 (1 : Int) = BitVec.ofNat 32 1 := by simp
  rw [e1, e2]
  have e3 : (BitVec.ofNat 32 n &&& BitVec.ofNat 32 1).toNat = n % 2 := by
    rw [BitVec.toNat_and]
    simp only [BitVec.toNat_ofNat]
    rw [Nat.mod_eq_of_lt (a := n) (by omega)]
    exact Nat.and_two_pow_sub_one_eq_mod n 1
  rw [e3, u32_wrap]
  omega
theorem shrv7 (n : Int) : shrv .i64 n 7 = n / 128 := by
  unfold shrv
  rw [Int.fdiv_eq_ediv_of_nonneg _ (by decide)]
  rfl
theorem shrv1 (n : Int) : shrv .u32 n 1 = n / 2 := by
  unfold shrv
  rw [Int.fdiv_eq_ediv_of_nonneg _ (by decide)]
  rfl

/-! ### numbers as words -/
def vtl (n : Nat) : List Int := if h : 127 < n then ((n % 128 + 128 : Nat) : Int) :: vtl (n / 128) else [(n : Int)]
  termination_by n
  decreasing_by omega
theorem vtl_big {n : Nat} (h : 127 < n) : vtl n = ((n % 128 + 128 : Nat) : Int) :: vtl (n / 128) := by rw [vtl, dif_pos h]
theorem vtl_small {n : Nat} (h : n ≤ 127) : vtl n = [(n : Int)] := by rw [vtl, dif_neg (by omega)]
theorem vtl_len : ∀ (k n : Nat), n < 128 ^ k → (vtl n).length ≤ k + 1
  | 0, n, h => by rw [vtl_small (by simp at h; omega)]; simp
  | k + 1, n, h => by
    by_cases hb : 127 < n
    · rw [vtl_big hb]
      have := vtl_len k (n / 128) (by rw [Nat.pow_succ] at h; exact Nat.div_lt_of_lt_mul (by rw [Nat.mul_comm]; exact h))
      simp; omega
    · rw [vtl_small (by omega)]; simp
theorem vtl_len10 {n : Nat} (h : n < 9223372036854775808) : (vtl n).length ≤ 11 := vtl_len 10 n (Nat.lt_trans h (by decide))

theorem ofI_u8 (n : Int) : ofI (IntKind.u8.wrap n) = ofI (n % 256) := by rw [u8_wrap]

/-- The loop that both have: what is left, and what was laid. -/
theorem var_loop {step : Int × List Int → Option ((Int × List Int) ⊕ (Int × List Int))}
    (hbig : ∀ (n : Nat) out, 127 < n → n < 9223372036854775808 → out.length ≤ 1000 → step ((n : Int), out) = some (.inl (((n / 128 : Nat) : Int), out ++ [((n % 128 + 128 : Nat) : Int)])))
    (hsmall : ∀ (n : Int) out, n ≤ 127 → step (n, out) = some (.inr (n, out))) :
    ∀ (n : Nat) (out : List Int), n < 9223372036854775808 → out.length + 11 ≤ 1000 → ∃ (m : Nat) (o : List Int), iter step ((n : Int), out) = some ((m : Int), o) ∧ m ≤ 127 ∧ o ++ [(m : Int)] = out ++ vtl n ∧ o.length ≤ 1000 := by
  have key : ∀ (k n : Nat) (out : List Int), n < 128 ^ k → n < 9223372036854775808 → out.length + k ≤ 1000 → ∃ (m : Nat) (o : List Int), iter step ((n : Int), out) = some ((m : Int), o) ∧ m ≤ 127 ∧ o ++ [(m : Int)] = out ++ vtl n ∧ o.length ≤ 1000 := by
    intro k
    induction k with
    | zero =>
      intro n out hk hn ho
      have h1 : n ≤ 127 := by simp at hk; omega
      exact ⟨n, out, iter_done (hsmall n out (by omega)), h1, by rw [vtl_small h1], by omega⟩
    | succ k ih =>
      intro n out hk hn ho
      by_cases hb : 127 < n
      · obtain ⟨m, o, h1, h2, h3, h4⟩ := ih (n / 128) (out ++ [((n % 128 + 128 : Nat) : Int)]) (by rw [Nat.pow_succ] at hk; exact Nat.div_lt_of_lt_mul (by rw [Nat.mul_comm]; exact hk)) (by omega) (by simp; omega)
        refine ⟨m, o, ?_, h2, ?_, h4⟩
        · rw [iter_next (hbig n out hb hn (by omega))]; exact h1
        · rw [h3, vtl_big hb]; simp
      · exact ⟨n, out, iter_done (hsmall n out (by omega)), by omega, by rw [vtl_small (by omega)], by omega⟩
  intro n out hn ho
  exact key 11 n out (Nat.lt_trans hn (by decide)) hn ho

def vt (n : Int) : List UInt8 := if 0 ≤ n then (vtl n.toNat).map ofI else [ofI (n % 256)]

theorem spec_var {n : Int} (h : -9223372036854775808 ≤ n) (h' : n < 9223372036854775808) : F_spec_l01Var n = some (vt n) := by
  have hsmall : ∀ (n : Int) out, n ≤ 127 → S_spec_l01Var_1 (n, out) = some (.inr (n, out)) := by
    intro n out hn
    unfold S_spec_l01Var_1
    simp [show ¬ n > 127 by omega]
  unfold F_spec_l01Var vt
  by_cases h0 : 0 ≤ n
  · obtain ⟨m, rfl⟩ : ∃ m : Nat, n = m := ⟨n.toNat, by omega⟩
    obtain ⟨m', o, h1, h2, h3, h4⟩ := var_loop (step := S_spec_l01Var_1) (by
      intro n out hb hn ho
      unfold S_spec_l01Var_1
      have e1 : w64 (Int.tmod (n : Int) 128 + 128) = ((n % 128 + 128 : Nat) : Int) := by
        rw [Int.tmod_eq_emod_of_nonneg (by omega), w64_id (by omega) (by omega)]; omega
      have e2 : w64 (Int.tdiv (n : Int) 128) = ((n / 128 : Nat) : Int) := by
        rw [Int.tdiv_eq_ediv_of_nonneg (by omega), w64_id (by omega) (by omega)]; omega
      have e3 : IntKind.u8.wrap ((n % 128 + 128 : Nat) : Int) = ((n % 128 + 128 : Nat) : Int) := by rw [u8_wrap]; omega
      simp only [show decide ((n : Int) > 127) = true from by simp; omega, if_true, e1, e2, e3]
      rw [app?_ok (by simp; omega) (by simp; omega)]
      rfl) hsmall m [] (by omega) (by simp)
    rw [if_pos h0, h1]
    simp only [Option.bind_some]
    rw [app?_ok (by simp; omega) (by simp; omega)]
    simp only [Option.bind_some, u8_wrap]
    rw [show ((m' : Int) % 256) = m' by omega, h3]
    simp
  · rw [if_neg h0, iter_done (hsmall n [] (by omega))]
    simp only [Option.bind_some]
    rw [app?_ok (by simp) (by simp)]
    simp [u8_wrap]
theorem impl_var {n : Int} (h : -9223372036854775808 ≤ n) (h' : n < 9223372036854775808) : F_impl_varText n = some (vt n) := by
  have hsmall : ∀ (n : Int) out, n ≤ 127 → S_impl_varText_1 (n, out) = some (.inr (n, out)) := by
    intro n out hn
    unfold S_impl_varText_1
    simp [show ¬ n > 127 by omega]
  unfold F_impl_varText vt
  by_cases h0 : 0 ≤ n
  · obtain ⟨m, rfl⟩ : ∃ m : Nat, n = m := ⟨n.toNat, by omega⟩
    obtain ⟨m', o, h1, h2, h3, h4⟩ := var_loop (step := S_impl_varText_1) (by
      intro n out hb hn ho
      unfold S_impl_varText_1
      have e1 : orv .i64 (andv .i64 (n : Int) 127) 128 = ((n % 128 + 128 : Nat) : Int) := by
        rw [andv127 hn, orv128 (by omega)]
      have e2 : shrv .i64 (n : Int) 7 = ((n / 128 : Nat) : Int) := by rw [shrv7]; omega
      have e3 : IntKind.u8.wrap ((n % 128 + 128 : Nat) : Int) = ((n % 128 + 128 : Nat) : Int) := by rw [u8_wrap]; omega
      simp only [show decide ((n : Int) > 127) = true from by simp; omega, if_true, e1, e2, e3]
      rw [app?_ok (by simp; omega) (by simp; omega)]
      rfl) hsmall m [] (by omega) (by simp)
    rw [if_pos h0, h1]
    simp only [Option.bind_some]
    rw [app?_ok (by simp; omega) (by simp; omega)]
    simp only [Option.bind_some, u8_wrap]
    rw [show ((m' : Int) % 256) = m' by omega, h3]
    simp
  · rw [if_neg h0, iter_done (hsmall n [] (by omega))]
    simp only [Option.bind_some]
    rw [app?_ok (by simp) (by simp)]
    simp [u8_wrap]
theorem vt_len {n : Int} (h' : n < 9223372036854775808) : (vt n).length ≤ 11 := by
  unfold vt
  split
  · simp; exact vtl_len10 (by omega)
  · simp
end Go.Proofs.Ytpecafogemipmaa.V
/- Sums, words, what a record must be. -/
namespace Go.Proofs.Ytpecafogemipmaa.V
open Go Go.RowKit

/-! ### sums -/
def sumBit (n : Nat) : Nat := if n % 2 = 1 then (xorv .u32 ((n / 2 : Nat) : Int) 3558460437).toNat else n / 2
theorem xorv_range (x y : Int) : 0 ≤ xorv .u32 x y ∧ xorv .u32 x y < 4294967296 := by
  unfold xorv
  rw [u32_wrap]
  omega
theorem sumBit_lt {n : Nat} (h : n < 4294967296) : sumBit n < 4294967296 := by
  unfold sumBit
  have := xorv_range ((n / 2 : Nat) : Int) 3558460437
  split <;> omega
def iterK {α : Type} (f : α → α) : Nat → α → α
  | 0, a => a
  | k + 1, a => f (iterK f k a)
theorem iterK_lt (k : Nat) {n : Nat} (h : n < 4294967296) : iterK sumBit k n < 4294967296 := by
  induction k with
  | zero => exact h
  | succ k ih => exact sumBit_lt ih
theorem spec_sum2 {n : Nat} (h : n < 4294967296) : iter S_spec_SumMore_2 ((n : Int), 0) = some ((iterK sumBit 8 n : Nat) : Int) := by
  refine iter_range (fun k => (((iterK sumBit k n : Nat) : Int), (k : Int))) 8 ?_ ?_
  · intro k hk
    have hl := iterK_lt k h
    unfold S_spec_SumMore_2
    have e0 : w64 ((k : Int) + 1) = ((k + 1 : Nat) : Int) := w64_succ (by omega)
    generalize hm : iterK sumBit k n = m at hl
    have e1 : IntKind.u32.wrap (Int.tdiv (m : Int) 2) = ((m / 2 : Nat) : Int) := by
      rw [u32_wrap, Int.tdiv_eq_ediv_of_nonneg (by omega)]; omega
    have e2 : Int.tmod (m : Int) 2 = ((m % 2 : Nat) : Int) := by rw [Int.tmod_eq_emod_of_nonneg (by omega)]; omega
    simp only [show decide ((k : Int) < 8) = true from by simp; omega, if_true, e0, e1, e2]
    have e3 : iterK sumBit (k + 1) n = sumBit m := by simp [iterK, hm]
    rw [e3]
    unfold sumBit
    by_cases hb : m % 2 = 1
    · have := xorv_range ((m / 2 : Nat) : Int) 3558460437
      simp only [hb, if_true]
      rw [if_pos (by simp)]
      congr 3
    · rw [if_neg (by simp; omega), if_neg hb]
  · unfold S_spec_SumMore_2
    simp
theorem impl_sum2 {n : Nat} (h : n < 4294967296) : iter S_impl_SumMore_2 ((n : Int), 0) = some ((iterK sumBit 8 n : Nat) : Int) := by
  refine iter_range (fun k => (((iterK sumBit k n : Nat) : Int), (k : Int))) 8 ?_ ?_
  · intro k hk
    have hl := iterK_lt k h
    unfold S_impl_SumMore_2
    have e0 : w64 ((k : Int) + 1) = ((k + 1 : Nat) : Int) := w64_succ (by omega)
    generalize hm : iterK sumBit k n = m at hl
    have e1 : shrv .u32 (m : Int) 1 = ((m / 2 : Nat) : Int) := by rw [shrv1]; omega
    have e2 : andv .u32 (m : Int) 1 = ((m % 2 : Nat) : Int) := andv1 hl
    simp only [show decide ((k : Int) < 8) = true from by simp; omega, if_true, e0, e1, e2]
    have e3 : iterK sumBit (k + 1) n = sumBit m := by simp [iterK, hm]
    rw [e3]
    unfold sumBit
    by_cases hb : m % 2 = 1
    · have := xorv_range ((m / 2 : Nat) : Int) 3558460437
      simp only [hb, if_true]
      rw [if_pos (by simp)]
      congr 3
    · rw [if_neg (by simp; omega), if_neg hb]
  · unfold S_impl_SumMore_2
    simp
def sumB (n : Nat) (c : UInt8) : Nat := iterK sumBit 8 (xorv .u32 (n : Int) (c.toNat : Int)).toNat
def sumL (n : Nat) (s : List UInt8) : Nat := s.foldl sumB n
theorem sumB_lt (n : Nat) (c : UInt8) : sumB n c < 4294967296 := by
  have := xorv_range (n : Int) (c.toNat : Int)
  exact iterK_lt 8 (by omega)
theorem sumL_lt {n : Nat} (h : n < 4294967296) (s : List UInt8) : sumL n s < 4294967296 := by
  unfold sumL
  induction s generalizing n with
  | nil => exact h
  | cons c s ih => exact ih (sumB_lt n c)
theorem sum_loop {step : List UInt8 → Int × Int → Option ((Int × Int) ⊕ Int)} {s : List UInt8} (hs : s.length < 9223372036854775807) {n : Nat}
    (h1 : ∀ (m i : Nat) (h : i < s.length), step s ((m : Int), (i : Int)) = some (.inl ((sumB m s[i] : Nat), ((i + 1 : Nat) : Int))))
    (h2 : ∀ m : Nat, step s ((m : Int), (s.length : Int)) = some (.inr (m : Int))) : iter (step s) ((n : Int), 0) = some ((sumL n s : Nat) : Int) := by
  refine iter_range (fun i => (((sumL n (s.take i) : Nat) : Int), (i : Int))) s.length ?_ ?_
  · intro i hi
    have e : sumL n (s.take (i + 1)) = sumB (sumL n (s.take i)) s[i] := by
      unfold sumL
      rw [List.take_succ_eq_append_getElem hi, List.foldl_append]
      rfl
    rw [h1 _ i hi, e]
  · rw [List.take_length]; exact h2 _
theorem u8_u32 (c : UInt8) : IntKind.u32.wrap (c.toNat : Int) = c.toNat := by
  rw [u32_wrap]
  have := c.toNat_lt
  omega
theorem spec_sum {s : List UInt8} (hs : s.length < 9223372036854775807) (n : Nat) : F_spec_SumMore (n : Int) s = some ((sumL n s : Nat) : Int) := by
  unfold F_spec_SumMore
  rw [sum_loop (step := S_spec_SumMore_1) hs]
  · rfl
  · intro m i hi
    unfold S_spec_SumMore_1
    simp only [show decide ((i : Int) < (s.length : Int)) = true from by simp; omega, if_true, bt?_nat hi, Option.bind_some, u8_u32, w64_succ (show i < 9223372036854775807 by omega)]
    have hx := xorv_range (m : Int) ((s[i]).toNat : Int)
    have : xorv .u32 (m : Int) ((s[i]).toNat : Int) = ((xorv .u32 (m : Int) ((s[i]).toNat : Int)).toNat : Int) := by omega
    rw [this, spec_sum2 (by omega)]
    rfl
  · intro m
    unfold S_spec_SumMore_1
    simp
theorem impl_sum {s : List UInt8} (hs : s.length < 9223372036854775807) (n : Nat) : F_impl_SumMore (n : Int) s = some ((sumL n s : Nat) : Int) := by
  unfold F_impl_SumMore
  rw [sum_loop (step := S_impl_SumMore_1) hs]
  · rfl
  · intro m i hi
    unfold S_impl_SumMore_1
    simp only [show decide ((i : Int) < (s.length : Int)) = true from by simp; omega, if_true, bt?_nat hi, Option.bind_some, u8_u32, w64_succ (show i < 9223372036854775807 by omega)]
    have hx := xorv_range (m : Int) ((s[i]).toNat : Int)
    have : xorv .u32 (m : Int) ((s[i]).toNat : Int) = ((xorv .u32 (m : Int) ((s[i]).toNat : Int)).toNat : Int) := by omega
    rw [this, impl_sum2 (by omega)]
    rfl
  · intro m
    unfold S_impl_SumMore_1
    simp
def four (n : Int) : List UInt8 := [IntKind.u8.wrap (shrv .u32 n 24), IntKind.u8.wrap (shrv .u32 n 16), IntKind.u8.wrap (shrv .u32 n 8), IntKind.u8.wrap n].map ofI
def sealL (s : List UInt8) : List UInt8 := four (sumL 4294967295 s : Nat)
theorem sealL_len (s : List UInt8) : (sealL s).length = 4 := rfl
theorem spec_sumOf {s : List UInt8} (hs : s.length < 9223372036854775807) : F_spec_SumOf s = some ((sumL 4294967295 s : Nat) : Int) := by
  unfold F_spec_SumOf
  have := spec_sum hs 4294967295
  rw [show (4294967295 : Int) = ((4294967295 : Nat) : Int) from rfl, this]; rfl
theorem impl_sumOf {s : List UInt8} (hs : s.length < 9223372036854775807) : F_impl_SumOf s = some ((sumL 4294967295 s : Nat) : Int) := by
  unfold F_impl_SumOf
  have := impl_sum hs 4294967295
  rw [show (4294967295 : Int) = ((4294967295 : Nat) : Int) from rfl, this]; rfl
theorem spec_four (n : Int) : F_spec_l02Four n = some (four n) := rfl
theorem impl_seal {s : List UInt8} (hs : s.length < 9223372036854775807) : F_impl_seal s = some (sealL s) := by
  unfold F_impl_seal
  rw [impl_sumOf hs]; rfl
def sealed (s : List UInt8) : List UInt8 × Bool := if 20000 < s.length then ([], false) else (s ++ sealL s, true)
theorem spec_sealed {s : List UInt8} (hs : s.length < 9223372036854775807) : F_spec_Sealed s = some (sealed s) := by
  unfold F_spec_Sealed sealed
  by_cases h : 20000 < s.length
  · rw [if_pos (by simp; omega), if_pos h]
  · rw [if_neg (by simp; omega), if_neg h, spec_sumOf hs]
    simp only [Option.bind_some, spec_four]
    rw [cat?_ok (by show s.length + 4 ≤ _; omega)]
    rfl
theorem impl_sealed {s : List UInt8} (hs : s.length < 9223372036854775807) : F_impl_Sealed s = some (sealed s) := by
  unfold F_impl_Sealed sealed
  by_cases h : 20000 < s.length
  · rw [if_pos (by simp; omega), if_pos h]
  · rw [if_neg (by simp; omega), if_neg h, impl_seal hs]
    simp only [Option.bind_some]
    rw [cat?_ok (by show s.length + 4 ≤ _; omega)]
    rfl

/-! ### words -/
def inR (n lo hi : Int) : Bool := decide (lo ≤ n) && decide (n ≤ hi)
theorem spec_in (n lo hi : Int) : F_spec_l01In n lo hi = some (inR n lo hi) := by
  unfold F_spec_l01In inR
  by_cases h : lo ≤ n <;> simp [h]
theorem impl_in (n lo hi : Int) : F_impl_in n lo hi = some (inR n lo hi) := by
  unfold F_impl_in inR
  by_cases h : lo ≤ n <;> simp [h]
def lowB (c : UInt8) : Bool := decide (97 ≤ c.toNat) && decide (c.toNat ≤ 122)
def wordOk (s : List UInt8) : Bool := s.all lowB && inR s.length 1 8
theorem iter_all {σ ρ : Type} {step : σ → Option (σ ⊕ ρ)} (st : Nat → σ) (n : Nat) (p : Nat → Bool) {bad good : ρ} (h1 : ∀ i, i < n → p i = true → step (st i) = some (.inl (st (i + 1)))) (h2 : ∀ i, i < n → p i = false → step (st i) = some (.inr bad)) (he : step (st n) = some (.inr good)) :
    iter step (st 0) = some (if (List.range n).all p then good else bad) := by
  have key : ∀ d i, i + d = n → iter step (st i) = some (if ((List.range n).drop i).all p then good else bad) := by
    intro d
    induction d with
    | zero =>
      intro i hi
      have : i = n := by omega
      subst this
      rw [iter_done he, List.drop_eq_nil_of_le (by simp)]; simp
    | succ d ih =>
      intro i hi
      have hd : (List.range n).drop i = i :: (List.range n).drop (i + 1) := by
        rw [List.drop_eq_getElem_cons (by simp; omega)]; simp
      rw [hd]
      cases hp : p i with
      | true => rw [iter_next (h1 i (by omega) hp), ih (i + 1) (by omega)]; simp [hp]
      | false => rw [iter_done (h2 i (by omega) hp)]; simp [hp]
  simpa using key n 0 (by omega)
theorem all_range {α : Type} (l : List α) (p : α → Bool) : (List.range l.length).all (fun i => match l[i]? with | some x => p x | none => true) = l.all p := by
  rw [Bool.eq_iff_iff, List.all_eq_true, List.all_eq_true]
  constructor
  · intro h x hx
    obtain ⟨i, hi⟩ := List.getElem?_of_mem hx
    have := h i (List.mem_range.2 (List.getElem?_eq_some_iff.1 hi).1)
    simpa [hi] using this
  · intro h i hi
    have hi' := List.mem_range.1 hi
    rw [List.getElem?_eq_getElem hi']
    exact h _ (List.getElem_mem hi')
theorem spec_word {s : List UInt8} (hs : s.length < 9223372036854775807) : F_spec_WordOk s = some (wordOk s) := by
  have hl : iter (S_spec_WordOk_1 s) 0 = some (if s.all lowB then .inr () else .inl false) := by
    rw [← all_range]
    refine iter_all (fun i => (i : Int)) s.length _ ?_ ?_ ?_
    · intro i hi hp
      rw [List.getElem?_eq_getElem hi] at hp
      simp only [lowB, Bool.and_eq_true, decide_eq_true_eq] at hp
      unfold S_spec_WordOk_1
      simp only [show decide ((i : Int) < (s.length : Int)) = true from by simp; omega, if_true, bt?_nat hi, Option.bind_some]
      rw [if_neg (by simp; omega), if_neg (by simp; omega)]
      simp [w64_succ (show i < 9223372036854775807 by omega)]
    · intro i hi hp
      rw [List.getElem?_eq_getElem hi] at hp
      simp only [lowB, Bool.and_eq_false_iff, decide_eq_false_iff_not] at hp
      unfold S_spec_WordOk_1
      simp only [show decide ((i : Int) < (s.length : Int)) = true from by simp; omega, if_true, bt?_nat hi, Option.bind_some]
      by_cases h : (s[i]).toNat < 97
      · rw [if_pos (by simp; omega)]; rfl
      · rw [if_neg (by simp; omega), if_pos (by simp; omega)]; rfl
    · unfold S_spec_WordOk_1
      simp
  unfold F_spec_WordOk
  rw [hl]
  unfold wordOk
  cases s.all lowB <;> simp [spec_in]
theorem impl_word {s : List UInt8} (hs : s.length < 9223372036854775807) : F_impl_WordOk s = some (wordOk s) := by
  have hl : iter (S_impl_WordOk_1 s) 0 = some (if s.all lowB then .inr () else .inl false) := by
    rw [← all_range]
    refine iter_all (fun i => (i : Int)) s.length _ ?_ ?_ ?_
    · intro i hi hp
      rw [List.getElem?_eq_getElem hi] at hp
      simp only [lowB, Bool.and_eq_true, decide_eq_true_eq] at hp
      unfold S_impl_WordOk_1
      simp only [show decide ((i : Int) < (s.length : Int)) = true from by simp; omega, if_true, bt?_nat hi, Option.bind_some]
      rw [if_neg (by simp; omega), if_neg (by simp; omega)]
      simp [w64_succ (show i < 9223372036854775807 by omega)]
    · intro i hi hp
      rw [List.getElem?_eq_getElem hi] at hp
      simp only [lowB, Bool.and_eq_false_iff, decide_eq_false_iff_not] at hp
      unfold S_impl_WordOk_1
      simp only [show decide ((i : Int) < (s.length : Int)) = true from by simp; omega, if_true, bt?_nat hi, Option.bind_some]
      by_cases h : (s[i]).toNat < 97
      · rw [if_pos (by simp; omega)]; rfl
      · rw [if_neg (by simp; omega), if_pos (by simp; omega)]; rfl
    · unfold S_impl_WordOk_1
      simp
  unfold F_impl_WordOk
  rw [impl_in, Option.bind_some, hl]
  unfold wordOk
  cases s.all lowB <;> cases inR (s.length : Int) 1 8 <;> simp
end Go.Proofs.Ytpecafogemipmaa.V
/- What a record must be, and its text; frames. -/
namespace Go.Proofs.Ytpecafogemipmaa.V
open Go Go.RowKit

/-- The lengths of what a record holds are no more than a machine's. -/
structure RecS (x : TRec) : Prop where
  user : x.User.length ≤ 1048576
  name : x.Name.length ≤ 1048576
  text : x.Text.length ≤ 1048576

def recOk (x : TRec) : Bool := inR x.Kind 1 5 && inR x.Valid 1 9999 &&
  (if x.Kind = 1 then wordOk x.User && wordOk x.Name && inR x.Next 1 10000 else x.User == [] && x.Name == [] && x.Next == 0) &&
  (if x.Kind = 3 ∨ x.Kind = 4 ∨ x.Kind = 5 then inR x.Uid 1 9999 else x.Uid == 0) &&
  (if x.Kind = 3 ∨ x.Kind = 4 then inR x.Flags 0 7 else x.Flags == 0) &&
  (if x.Kind = 3 then decide (x.Text.length ≤ 100) else x.Text == [])

theorem kinds {n : Int} : inR n 1 5 = true → n = 1 ∨ n = 2 ∨ n = 3 ∨ n = 4 ∨ n = 5 := by
  unfold inR
  intro h
  simp only [Bool.and_eq_true, decide_eq_true_eq] at h
  omega
theorem kinds_no {n : Int} : inR n 1 5 = false → n ≠ 1 ∧ n ≠ 2 ∧ n ≠ 3 ∧ n ≠ 4 ∧ n ≠ 5 := by
  unfold inR
  intro h
  simp only [Bool.and_eq_false_iff, decide_eq_false_iff_not] at h
  omega
theorem iteS {α : Type} {p : Prop} [Decidable p] {a b : α} : (if p then some a else some b) = some (if p then a else b) := by split <;> rfl
theorem spec_recOk {x : TRec} (h : RecS x) : F_spec_RecOk x = some (recOk x) := by
  have h1 := spec_word (s := x.User) (by have := h.user; omega)
  have h2 := spec_word (s := x.Name) (by have := h.name; omega)
  unfold F_spec_RecOk recOk
  simp only [spec_in, h1, h2, Option.bind_some]
  cases hk : inR x.Kind 1 5 with
  | false => simp
  | true =>
    cases hv : inR x.Valid 1 9999 with
    | false => simp
    | true =>
      rcases kinds hk with k | k | k | k | k <;> simp [k, iteS] <;> grind
theorem impl_recOk {x : TRec} (h : RecS x) : F_impl_RecOk x = some (recOk x) := by
  have h1 := impl_word (s := x.User) (by have := h.user; omega)
  have h2 := impl_word (s := x.Name) (by have := h.name; omega)
  unfold F_impl_RecOk recOk
  simp only [impl_in, h1, h2, Option.bind_some]
  cases hv : inR x.Valid 1 9999 with
  | false => simp
  | true =>
    cases hk : inR x.Kind 1 5 with
    | false =>
      obtain ⟨k1, k2, k3, k4, k5⟩ := kinds_no hk
      simp [k1, k2, k3, k4, k5]
    | true =>
      rcases kinds hk with k | k | k | k | k <;> simp [k, iteS] <;> grind
end Go.Proofs.Ytpecafogemipmaa.V
/- The text of a record; frames; sizes. -/
namespace Go.Proofs.Ytpecafogemipmaa.V
open Go Go.RowKit

theorem recOk_rng {x : TRec} (h : recOk x = true) : (0 ≤ x.Valid ∧ x.Valid ≤ 10000) ∧ (0 ≤ x.Uid ∧ x.Uid ≤ 10000) ∧ (0 ≤ x.Next ∧ x.Next ≤ 10000) ∧ (0 ≤ x.Flags ∧ x.Flags ≤ 10000) ∧ 1 ≤ x.Kind ∧ x.Kind ≤ 5 := by
  unfold recOk inR at h
  grind
def short (s : List UInt8) : List UInt8 := vt s.length ++ s
def recT (x : TRec) : List UInt8 := [ofI (IntKind.u8.wrap x.Kind)] ++ vt x.Valid ++ vt x.Uid ++ vt x.Next ++ vt x.Flags ++ short x.User ++ short x.Name ++ short x.Text
def recText (x : TRec) : List UInt8 × Bool := if recOk x then (recT x, true) else ([], false)
theorem short_len {s : List UInt8} (h : s.length ≤ 1048576) : (short s).length ≤ s.length + 11 := by
  unfold short
  have := vt_len (n := s.length) (by omega)
  simp; omega
theorem spec_short {s : List UInt8} (h : s.length ≤ 1048576) : F_spec_l06Short s = some (short s) := by
  unfold F_spec_l06Short
  have := vt_len (n := s.length) (by omega)
  rw [spec_var (by omega) (by omega), Option.bind_some, cat?_ok (by omega)]
  rfl
theorem spec_recText {x : TRec} (h : RecS x) : F_spec_RecText x = some (recText x) := by
  unfold F_spec_RecText recText
  rw [spec_recOk h, Option.bind_some]
  cases hk : recOk x with
  | false => rfl
  | true =>
    obtain ⟨r1, r2, r3, r4, _⟩ := recOk_rng hk
    have l1 := vt_len (n := x.Valid) (by omega)
    have l2 := vt_len (n := x.Uid) (by omega)
    have l3 := vt_len (n := x.Next) (by omega)
    have l4 := vt_len (n := x.Flags) (by omega)
    have l5 := short_len h.user
    have l6 := short_len h.name
    have l7 := short_len h.text
    have b1 := h.user
    have b2 := h.name
    have b3 := h.text
    simp only [if_true]
    rw [spec_var (by omega) (by omega), Option.bind_some, cat?_ok (by simp; omega), Option.bind_some,
      spec_var (by omega) (by omega), Option.bind_some, cat?_ok (by simp; omega), Option.bind_some,
      spec_var (by omega) (by omega), Option.bind_some, cat?_ok (by simp; omega), Option.bind_some,
      spec_var (by omega) (by omega), Option.bind_some, cat?_ok (by simp; omega), Option.bind_some,
      spec_short h.user, Option.bind_some, cat?_ok (by simp; omega), Option.bind_some,
      spec_short h.name, Option.bind_some, cat?_ok (by simp; omega), Option.bind_some,
      spec_short h.text, Option.bind_some, cat?_ok (by simp; omega), Option.bind_some]
    rfl
theorem at?_lit {α : Type} {l : List α} {i : Int} {x : α} (h0 : 0 ≤ i) (h : l[i.toNat]? = some x) : at? l i = some x := by
  unfold at?
  have := (List.getElem?_eq_some_iff.1 h).1
  rw [if_pos ⟨h0, by omega⟩]
  exact h
theorem impl_recText {x : TRec} (h : RecS x) : F_impl_RecText x = some (recText x) := by
  unfold F_impl_RecText recText
  rw [impl_recOk h, Option.bind_some]
  cases hk : recOk x with
  | false => rfl
  | true =>
    obtain ⟨r1, r2, r3, r4, _⟩ := recOk_rng hk
    have l1 := vt_len (n := x.Valid) (by omega)
    have l2 := vt_len (n := x.Uid) (by omega)
    have l3 := vt_len (n := x.Next) (by omega)
    have l4 := vt_len (n := x.Flags) (by omega)
    have b1 := h.user
    have b2 := h.name
    have b3 := h.text
    have l5 := vt_len (n := x.User.length) (by omega)
    have l6 := vt_len (n := x.Name.length) (by omega)
    have l7 := vt_len (n := x.Text.length) (by omega)
    simp only [if_true]
    have s1 : ∀ (i : Nat) (n : Int) (out : List UInt8), [x.Valid, x.Uid, x.Next, x.Flags][i]? = some n → out.length ≤ 1000 → S_impl_RecText_1 x (out, (i : Int)) = some (.inl (out ++ vt n, ((i + 1 : Nat) : Int))) := by
      intro i n out hi ho
      have hl := (List.getElem?_eq_some_iff.1 hi).1
      simp at hl
      have hn : 0 ≤ n ∧ n ≤ 10000 := by
        rcases i with _ | _ | _ | _ | i <;> simp at hi <;> first | omega | skip
      have := vt_len (n := n) (by omega)
      unfold S_impl_RecText_1; dsimp only
      rw [if_pos (by simp; omega), at?_lit (by simp) (by simpa using hi), Option.bind_some, impl_var (by omega) (by omega), Option.bind_some, cat?_ok (by omega), Option.bind_some, w64_succ (by omega)]
    have s2 : ∀ (i : Nat) (s out : List UInt8), [x.User, x.Name, x.Text][i]? = some s → out.length ≤ 10000000 → S_impl_RecText_2 x (out, (i : Int)) = some (.inl (out ++ short s, ((i + 1 : Nat) : Int))) := by
      intro i s out hi ho
      have hl := (List.getElem?_eq_some_iff.1 hi).1
      simp at hl
      have hn : s.length ≤ 1048576 := by
        rcases i with _ | _ | _ | i <;> simp at hi <;> first | (subst hi; omega) | skip
      have := vt_len (n := s.length) (by omega)
      unfold S_impl_RecText_2; dsimp only
      rw [if_pos (by simp; omega), at?_lit (by simp) (by simpa using hi), Option.bind_some, impl_var (by omega) (by omega), Option.bind_some, cat?_ok (by omega), Option.bind_some, cat?_ok (by simp; omega), Option.bind_some, w64_succ (by omega)]
      rfl
    have z : (0 : Int) = ((0 : Nat) : Int) := rfl
    rw [z, iter_next (s1 0 x.Valid _ rfl (by simp)), iter_next (s1 1 x.Uid _ rfl (by simp; omega)), iter_next (s1 2 x.Next _ rfl (by simp; omega)), iter_next (s1 3 x.Flags _ rfl (by simp; omega)),
      iter_done (r := _) (by unfold S_impl_RecText_1; rw [if_neg (by simp)]), Option.bind_some]
    have l8 : (short x.User).length ≤ x.User.length + 11 := short_len h.user
    have l9 : (short x.Name).length ≤ x.Name.length + 11 := short_len h.name
    rw [iter_next (s2 0 x.User _ rfl (by simp; omega)), iter_next (s2 1 x.Name _ rfl (by simp; omega)), iter_next (s2 2 x.Text _ rfl (by simp; omega)),
      iter_done (r := _) (by unfold S_impl_RecText_2; rw [if_neg (by simp)]), Option.bind_some]
    rfl
end Go.Proofs.Ytpecafogemipmaa.V
/- Frames; the size of a record. -/
namespace Go.Proofs.Ytpecafogemipmaa.V
open Go Go.RowKit

theorem recOk_lens {x : TRec} (hk : recOk x = true) : x.User.length ≤ 8 ∧ x.Name.length ≤ 8 ∧ x.Text.length ≤ 100 := by
  unfold recOk wordOk inR at hk
  simp only [Bool.and_eq_true, decide_eq_true_eq] at hk
  obtain ⟨⟨⟨⟨_, h1⟩, _⟩, _⟩, h2⟩ := hk
  refine ⟨?_, ?_, ?_⟩
  · split at h1
    · simp only [Bool.and_eq_true, decide_eq_true_eq] at h1; omega
    · simp only [Bool.and_eq_true, beq_iff_eq] at h1; rw [h1.1.1]; simp
  · split at h1
    · simp only [Bool.and_eq_true, decide_eq_true_eq] at h1; omega
    · simp only [Bool.and_eq_true, beq_iff_eq] at h1; rw [h1.1.2]; simp
  · split at h2
    · simpa using h2
    · simp at h2; rw [h2]; simp
def frameOk (f : TFrame) : Bool := inR f.Gen 1 1000000000 && inR f.Seq 1 1000000000 && inR f.Body.length 1 180
theorem spec_frameOk (f : TFrame) : F_spec_FrameOk f = some (frameOk f) := by
  unfold F_spec_FrameOk frameOk
  simp only [spec_in, Option.bind_some]
  cases inR f.Gen 1 1000000000 <;> cases inR f.Seq 1 1000000000 <;> simp
theorem impl_frameOk (f : TFrame) : F_impl_FrameOk f = some (frameOk f) := by
  unfold F_impl_FrameOk frameOk
  simp only [impl_in, Option.bind_some]
  cases inR f.Gen 1 1000000000 <;> cases inR f.Seq 1 1000000000 <;> simp
theorem frameOk_rng {f : TFrame} (h : frameOk f = true) : (1 ≤ f.Gen ∧ f.Gen ≤ 1000000000) ∧ (1 ≤ f.Seq ∧ f.Seq ≤ 1000000000) ∧ 1 ≤ f.Body.length ∧ f.Body.length ≤ 180 := by
  unfold frameOk inR at h
  simp only [Bool.and_eq_true, decide_eq_true_eq] at h
  omega
def frameT (f : TFrame) : List UInt8 := vt f.Gen ++ vt f.Seq ++ vt f.Body.length ++ f.Body
def frameText (f : TFrame) : List UInt8 × Bool := if frameOk f then (frameT f ++ sealL (frameT f), true) else ([], false)
theorem frameT_len {f : TFrame} (h : frameOk f = true) : (frameT f).length ≤ 213 := by
  obtain ⟨h1, h2, h3, h4⟩ := frameOk_rng h
  have l1 := vt_len (n := f.Gen) (by omega)
  have l2 := vt_len (n := f.Seq) (by omega)
  have l3 := vt_len (n := f.Body.length) (by omega)
  unfold frameT
  simp; omega
theorem spec_frameText (f : TFrame) : F_spec_FrameText f = some (frameText f) := by
  unfold F_spec_FrameText frameText
  rw [spec_frameOk, Option.bind_some]
  cases hk : frameOk f with
  | false => rfl
  | true =>
    obtain ⟨h1, h2, h3, h4⟩ := frameOk_rng hk
    have l1 := vt_len (n := f.Gen) (by omega)
    have l2 := vt_len (n := f.Seq) (by omega)
    have l3 := vt_len (n := f.Body.length) (by omega)
    have lt := frameT_len hk
    simp only [if_true]
    rw [spec_var (by omega) (by omega), Option.bind_some, spec_var (by omega) (by omega), Option.bind_some, cat?_ok (by omega), Option.bind_some, spec_var (by omega) (by omega), Option.bind_some, cat?_ok (by simp; omega), Option.bind_some, cat?_ok (by simp; omega), Option.bind_some]
    rw [show vt f.Gen ++ vt f.Seq ++ vt f.Body.length ++ f.Body = frameT f from rfl, spec_sealed (by omega), Option.bind_some]
    unfold sealed
    rw [if_neg (by omega)]
theorem impl_frameText (f : TFrame) : F_impl_FrameText f = some (frameText f) := by
  unfold F_impl_FrameText frameText
  rw [impl_frameOk, Option.bind_some]
  cases hk : frameOk f with
  | false => rfl
  | true =>
    obtain ⟨h1, h2, h3, h4⟩ := frameOk_rng hk
    have l1 := vt_len (n := f.Gen) (by omega)
    have l2 := vt_len (n := f.Seq) (by omega)
    have l3 := vt_len (n := f.Body.length) (by omega)
    have lt := frameT_len hk
    simp only [if_true]
    rw [impl_var (by omega) (by omega), Option.bind_some, impl_var (by omega) (by omega), Option.bind_some, cat?_ok (by omega), Option.bind_some, impl_var (by omega) (by omega), Option.bind_some, cat?_ok (by simp; omega), Option.bind_some, cat?_ok (by simp; omega), Option.bind_some]
    rw [show vt f.Gen ++ vt f.Seq ++ vt f.Body.length ++ f.Body = frameT f from rfl, impl_sealed (by omega), Option.bind_some]
    unfold sealed
    rw [if_neg (by omega)]
def frame0 : TFrame := { Gen := 0, Seq := 0, Body := [] }
def itemFrame (x : TItem) (gen : Int) : TFrame × Bool := if (recText x.Rec).2 && frameOk { Gen := gen, Seq := x.Seq, Body := (recText x.Rec).1 } then ({ Gen := gen, Seq := x.Seq, Body := (recText x.Rec).1 }, true) else (frame0, false)
theorem spec_itemFrame {x : TItem} (h : RecS x.Rec) (gen : Int) : F_spec_ItemFrame x gen = some (itemFrame x gen) := by
  unfold F_spec_ItemFrame itemFrame
  simp only [spec_recText h, Option.bind_some, spec_frameOk]
  cases (recText x.Rec).2 <;> cases frameOk { Gen := gen, Seq := x.Seq, Body := (recText x.Rec).1 } <;> rfl
theorem impl_itemFrame {x : TItem} (h : RecS x.Rec) (gen : Int) : F_impl_ItemFrame x gen = some (itemFrame x gen) := by
  unfold F_impl_ItemFrame itemFrame
  simp only [impl_recText h, Option.bind_some, impl_frameOk]
  cases (recText x.Rec).2 <;> cases frameOk { Gen := gen, Seq := x.Seq, Body := (recText x.Rec).1 } <;> rfl
def frameSize (f : TFrame) : Int := ((frameText f).1.length : Int)
theorem spec_frameSize (f : TFrame) : F_spec_FrameSize f = some (frameSize f) := by unfold F_spec_FrameSize; rw [spec_frameText]; rfl
theorem impl_frameSize (f : TFrame) : F_impl_FrameSize f = some (frameSize f) := by unfold F_impl_FrameSize; rw [impl_frameText]; rfl
def recSize (x : TRec) : Int := if (itemFrame { Seq := 1000000000, Rec := x } 1000000000).2 then frameSize (itemFrame { Seq := 1000000000, Rec := x } 1000000000).1 else 0
theorem spec_recSize {x : TRec} (h : RecS x) : F_spec_RecSize x = some (recSize x) := by
  unfold F_spec_RecSize recSize
  rw [spec_itemFrame (x := { Seq := 1000000000, Rec := x }) h, Option.bind_some]
  simp only [spec_frameSize, Option.bind_some]
  cases (itemFrame { Seq := 1000000000, Rec := x } 1000000000).2 <;> rfl
theorem impl_recSize {x : TRec} (h : RecS x) : F_impl_RecSize x = some (recSize x) := by
  unfold F_impl_RecSize recSize
  rw [impl_itemFrame (x := { Seq := 1000000000, Rec := x }) h, Option.bind_some]
  simp only [impl_frameSize, Option.bind_some]
  cases (itemFrame { Seq := 1000000000, Rec := x } 1000000000).2 <;> rfl

/-! ### the law -/
theorem law_pure_RecSize {x : TRec} (h1 : x.User.length ≤ maxLen) (h2 : x.Name.length ≤ maxLen) (h3 : x.Text.length ≤ maxLen) : F_laws_FnExactRecSize x = some true := by
  unfold maxLen at h1 h2 h3
  have key : ∀ v, F_laws_szRec x 1048576 = some v → ¬ v < 0 → RecS x := by
    intro v hv hn
    unfold F_laws_szRec at hv
    have e1 : w64 (1048576 - (x.User.length : Int)) = 1048576 - (x.User.length : Int) := w64_id (by omega) (by omega)
    by_cases c1 : 1048576 - (x.User.length : Int) < 0
    · rw [if_pos (by rw [e1]; simpa using c1)] at hv
      cases hv; omega
    · rw [if_neg (by rw [e1]; simpa using c1)] at hv
      rw [e1] at hv
      have e2 : w64 (1048576 - (x.User.length : Int) - (x.Name.length : Int)) = 1048576 - (x.User.length : Int) - (x.Name.length : Int) := w64_id (by omega) (by omega)
      by_cases c2 : 1048576 - (x.User.length : Int) - (x.Name.length : Int) < 0
      · rw [if_pos (by rw [e2]; simpa using c2)] at hv
        cases hv; omega
      · rw [if_neg (by rw [e2]; simpa using c2)] at hv
        rw [e2] at hv
        have e3 : w64 (1048576 - (x.User.length : Int) - (x.Name.length : Int) - (x.Text.length : Int)) = 1048576 - (x.User.length : Int) - (x.Name.length : Int) - (x.Text.length : Int) := w64_id (by omega) (by omega)
        by_cases c3 : 1048576 - (x.User.length : Int) - (x.Name.length : Int) - (x.Text.length : Int) < 0
        · rw [if_pos (by rw [e3]; simpa using c3)] at hv
          cases hv; omega
        · exact ⟨by omega, by omega, by omega⟩
  have hs : ∃ v, F_laws_szRec x 1048576 = some v := by
    unfold F_laws_szRec
    repeat (first | exact ⟨_, rfl⟩ | split)
  obtain ⟨v, hv⟩ := hs
  unfold F_laws_FnExactRecSize
  rw [hv, Option.bind_some]
  by_cases hn : v < 0
  · rw [if_pos (by simpa using hn)]
  · have hr := key v hv hn
    rw [if_neg (by simpa using hn)]
    simp only [F_laws_toRec, Option.bind_some, spec_recSize hr, impl_recSize hr]
    simp
theorem pure_FnExactRecSize {x : TRec} (w : wf_TRec x) : F_laws_FnExactRecSize x = some true := by
  obtain ⟨_, _, _, _, _, h1, h2, h3, _⟩ := w
  exact law_pure_RecSize h1 h2 h3
end Go.Proofs.Ytpecafogemipmaa.V
