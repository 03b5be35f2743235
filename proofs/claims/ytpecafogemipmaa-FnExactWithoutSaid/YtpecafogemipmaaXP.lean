/- The pure part. -/
import Derived.Test.YtpecafogemipmaaXT
/- Loops that count, numbers, words: plain lists and numbers. -/
namespace Go.Proofs.Ytpecafogemipmaa.V
open Go Go.RowKit

/-! ### loops that count -/
theorem iter_range {σ ρ : Type} {step : σ → Option (σ ⊕ ρ)} (st : Nat → σ) (n : Nat) {r : ρ} (hs : ∀ i, i < n → step (st i) = some (.inl (st (i + 1)))) (he : step (st n) = some (.inr r)) : iter step (st 0) = some r := by
  have key : ∀ d i, i + d = n → iter step (st i) = some r := by
    intro d
    induction d with
    | zero => intro i hi; have : i = n := by omega
              subst this; exact iter_done he
    | succ d ih => intro i hi; rw [iter_next (hs i (by omega))]; exact ih (i + 1) (by omega)
  exact key n 0 (by omega)

/-! ### numbers -/
theorem w64_id {n : Int} (h : -9223372036854775808 ≤ n) (h' : n < 9223372036854775808) : w64 n = n := by
  unfold w64 IntKind.wrap
  simp [IntKind.bits, IntKind.signed]
  omega
theorem w64_nat {n : Nat} (h : n < 9223372036854775808) : w64 (n : Int) = n := w64_id (by omega) (by omega)
theorem w64_succ {n : Nat} (h : n < 9223372036854775807) : w64 ((n : Int) + 1) = ((n + 1 : Nat) : Int) := by rw [w64_id (by omega) (by omega)]; omega
theorem u8_wrap (n : Int) : IntKind.u8.wrap n = n % 256 := by
  unfold IntKind.wrap
  simp [IntKind.bits, IntKind.signed]
theorem u32_wrap (n : Int) : IntKind.u32.wrap n = n % 4294967296 := by
  unfold IntKind.wrap
  simp [IntKind.bits, IntKind.signed]
theorem at?_nat {α : Type} {l : List α} {i : Nat} (h : i < l.length) : at? l (i : Int) = some l[i] := by
  unfold at?
  rw [if_pos ⟨by omega, by omega⟩]
  simp [h]
theorem bt?_nat {s : List UInt8} {i : Nat} (h : i < s.length) : bt? s (i : Int) = some s[i] := by
  unfold bt?
  rw [if_pos (by omega)]
  simp [h]
theorem cat?_ok {s t : List UInt8} (h : s.length + t.length ≤ 4611686018427387904) : cat? s t = some (s ++ t) := by unfold cat?; rw [if_pos h]
theorem app?_ok {α : Type} {byt : Nat} {l m : List α} (h : l.length + m.length ≤ 1099511627776) (h2 : (l.length + m.length) * byt ≤ 140737488355328) : app? byt l m = some (l ++ m) := by unfold app?; rw [if_pos ⟨h, h2⟩]

theorem andv127 {n : Nat} (h' : n < 9223372036854775808) : andv .i64 n 127 = ((n % 128 : Nat) : Int) := by
  show IntKind.i64.wrap ((BitVec.ofInt 64 (n : Int) &&& BitVec.ofInt 64 127).toNat : Int) = _
  have e1 : BitVec.ofInt 64 (n : Int) = BitVec.ofNat 64 n := by simp
  have e2 : BitVec.ofInt 64 (127 : Int) = BitVec.ofNat 64 127 := by simp
  rw [e1, e2]
  have e3 : (BitVec.ofNat 64 n &&& BitVec.ofNat 64 127).toNat = n % 128 := by
    rw [BitVec.toNat_and]
    simp only [BitVec.toNat_ofNat]
    rw [Nat.mod_eq_of_lt (a := n) (by omega)]
    exact Nat.and_two_pow_sub_one_eq_mod n 7
  rw [e3]
  exact w64_nat (by omega)
theorem orv128 {n : Nat} (h : n < 128) : orv .i64 n 128 = ((n + 128 : Nat) : Int) := by
  show IntKind.i64.wrap ((BitVec.ofInt 64 (n : Int) ||| BitVec.ofInt 64 128).toNat : Int) = _
  have e1 : BitVec.ofInt 64 (n : Int) = BitVec.ofNat 64 n := by simp
  have e2 : BitVec.ofInt 64 (128 : Int) = BitVec.ofNat 64 128 := by simp
  rw [e1, e2]
  have e3 : (BitVec.ofNat 64 n ||| BitVec.ofNat 64 128).toNat = n + 128 := by
    rw [BitVec.toNat_or]
    simp only [BitVec.toNat_ofNat]
    rw [Nat.mod_eq_of_lt (a := n) (by omega)]
    have := Nat.two_pow_add_eq_or_of_lt (i := 7) (b := n) (by omega) 1
    rw [Nat.or_comm] at this
    simp at this ⊢
    omega
  rw [e3]
  exact w64_nat (by omega)
theorem andv1 {n : Nat} (h' : n < 4294967296) : andv .u32 n 1 = ((n % 2 : Nat) : Int) := by
  show IntKind.u32.wrap ((BitVec.ofInt 32 (n : Int) &&& BitVec.ofInt 32 1).toNat : Int) = _
  have e1 : BitVec.ofInt 32 (n : Int) = BitVec.ofNat 32 n := by simp
  have e2 : BitVec.ofInt 32 (1 : Int) = BitVec.ofNat 32 1 := by simp
  rw [e1, e2]
  have e3 : (BitVec.ofNat 32 n &&& BitVec.ofNat 32 1).toNat = n % 2 := by
    rw [BitVec.toNat_and]
    simp only [BitVec.toNat_ofNat]
    rw [Nat.mod_eq_of_lt (a := n) (by omega)]
    exact Nat.and_two_pow_sub_one_eq_mod n 1
  rw [e3, u32_wrap]
  omega
theorem shrv7 (n : Int) : shrv .i64 n 7 = n / 128 := by
  unfold shrv
  rw [Int.fdiv_eq_ediv_of_nonneg _ (by decide)]
  rfl
theorem shrv1 (n : Int) : shrv .u32 n 1 = n / 2 := by
  unfold shrv
  rw [Int.fdiv_eq_ediv_of_nonneg _ (by decide)]
  rfl

/-! ### numbers as words -/
def vtl (n : Nat) : List Int := if h : 127 < n then ((n % 128 + 128 : Nat) : Int) :: vtl (n / 128) else [(n : Int)]
  termination_by n
  decreasing_by omega
theorem vtl_big {n : Nat} (h : 127 < n) : vtl n = ((n % 128 + 128 : Nat) : Int) :: vtl (n / 128) := by rw [vtl, dif_pos h]
theorem vtl_small {n : Nat} (h : n ≤ 127) : vtl n = [(n : Int)] := by rw [vtl, dif_neg (by omega)]
theorem vtl_len : ∀ (k n : Nat), n < 128 ^ k → (vtl n).length ≤ k + 1
  | 0, n, h => by rw [vtl_small (by simp at h; omega)]; simp
  | k + 1, n, h => by
    by_cases hb : 127 < n
    · rw [vtl_big hb]
      have := vtl_len k (n / 128) (by rw [Nat.pow_succ] at h; exact Nat.div_lt_of_lt_mul (by rw [Nat.mul_comm]; exact h))
      simp; omega
    · rw [vtl_small (by omega)]; simp
theorem vtl_len10 {n : Nat} (h : n < 9223372036854775808) : (vtl n).length ≤ 11 := vtl_len 10 n (Nat.lt_trans h (by decide))

theorem ofI_u8 (n : Int) : ofI (IntKind.u8.wrap n) = ofI (n % 256) := by rw [u8_wrap]

/-- The loop that both have: what is left, and what was laid. -/
theorem var_loop {step : Int × List Int → Option ((Int × List Int) ⊕ (Int × List Int))}
    (hbig : ∀ (n : Nat) out, 127 < n → n < 9223372036854775808 → out.length ≤ 1000 → step ((n : Int), out) = some (.inl (((n / 128 : Nat) : Int), out ++ [((n % 128 + 128 : Nat) : Int)])))
    (hsmall : ∀ (n : Int) out, n ≤ 127 → step (n, out) = some (.inr (n, out))) :
    ∀ (n : Nat) (out : List Int), n < 9223372036854775808 → out.length + 11 ≤ 1000 → ∃ (m : Nat) (o : List Int), iter step ((n : Int), out) = some ((m : Int), o) ∧ m ≤ 127 ∧ o ++ [(m : Int)] = out ++ vtl n ∧ o.length ≤ 1000 := by
  have key : ∀ (k n : Nat) (out : List Int), n < 128 ^ k → n < 9223372036854775808 → out.length + k ≤ 1000 → ∃ (m : Nat) (o : List Int), iter step ((n : Int), out) = some ((m : Int), o) ∧ m ≤ 127 ∧ o ++ [(m : Int)] = out ++ vtl n ∧ o.length ≤ 1000 := by
    intro k
    induction k with
    | zero =>
      intro n out hk hn ho
      have h1 : n ≤ 127 := by simp at hk; omega
      exact ⟨n, out, iter_done (hsmall n out (by omega)), h1, by rw [vtl_small h1], by omega⟩
    | succ k ih =>
      intro n out hk hn ho
      by_cases hb : 127 < n
      · obtain ⟨m, o, h1, h2, h3, h4⟩ := ih (n / 128) (out ++ [((n % 128 + 128 : Nat) : Int)]) (by rw [Nat.pow_succ] at hk; exact Nat.div_lt_of_lt_mul (by rw [Nat.mul_comm]; exact hk)) (by omega) (by simp; omega)
        refine ⟨m, o, ?_, h2, ?_, h4⟩
        · rw [iter_next (hbig n out hb hn (by omega))]; exact h1
        · rw [h3, vtl_big hb]; simp
      · exact ⟨n, out, iter_done (hsmall n out (by omega)), by omega, by rw [vtl_small (by omega)], by omega⟩
  intro n out hn ho
  exact key 11 n out (Nat.lt_trans hn (by decide)) hn ho

def vt (n : Int) : List UInt8 := if 0 ≤ n then (vtl n.toNat).map ofI else [ofI (n % 256)]

theorem spec_var {n : Int} (h : -9223372036854775808 ≤ n) (h' : n < 9223372036854775808) : F_spec_l01Var n = some (vt n) := by
  have hsmall : ∀ (n : Int) out, n ≤ 127 → S_spec_l01Var_1 (n, out) = some (.inr (n, out)) := by
    intro n out hn
    unfold S_spec_l01Var_1
    simp [show ¬ n > 127 by omega]
  unfold F_spec_l01Var vt
  by_cases h0 : 0 ≤ n
  · obtain ⟨m, rfl⟩ : ∃ m : Nat, n = m := ⟨n.toNat, by omega⟩
    obtain ⟨m', o, h1, h2, h3, h4⟩ := var_loop (step := S_spec_l01Var_1) (by
      intro n out hb hn ho
      unfold S_spec_l01Var_1
      have e1 : w64 (Int.tmod (n : Int) 128 + 128) = ((n % 128 + 128 : Nat) : Int) := by
        rw [Int.tmod_eq_emod_of_nonneg (by omega), w64_id (by omega) (by omega)]; omega
      have e2 : w64 (Int.tdiv (n : Int) 128) = ((n / 128 : Nat) : Int) := by
        rw [Int.tdiv_eq_ediv_of_nonneg (by omega), w64_id (by omega) (by omega)]; omega
      have e3 : IntKind.u8.wrap ((n % 128 + 128 : Nat) : Int) = ((n % 128 + 128 : Nat) : Int) := by rw [u8_wrap]; omega
      simp only [show decide ((n : Int) > 127) = true from by simp; omega, if_true, e1, e2, e3]
      rw [app?_ok (by simp; omega) (by simp; omega)]
      rfl) hsmall m [] (by omega) (by simp)
    rw [if_pos h0, h1]
    simp only [Option.bind_some]
    rw [app?_ok (by simp; omega) (by simp; omega)]
    simp only [Option.bind_some, u8_wrap]
    rw [show ((m' : Int) % 256) = m' by omega, h3]
    simp
  · rw [if_neg h0, iter_done (hsmall n [] (by omega))]
    simp only [Option.bind_some]
    rw [app?_ok (by simp) (by simp)]
    simp [u8_wrap]
theorem impl_var {n : Int} (h : -9223372036854775808 ≤ n) (h' : n < 9223372036854775808) : F_impl_varText n = some (vt n) := by
  have hsmall : ∀ (n : Int) out, n ≤ 127 → S_impl_varText_1 (n, out) = some (.inr (n, out)) := by
    intro n out hn
    unfold S_impl_varText_1
    simp [show ¬ n > 127 by omega]
  unfold F_impl_varText vt
  by_cases h0 : 0 ≤ n
  · obtain ⟨m, rfl⟩ : ∃ m : Nat, n = m := ⟨n.toNat, by omega⟩
    obtain ⟨m', o, h1, h2, h3, h4⟩ := var_loop (step := S_impl_varText_1) (by
      intro n out hb hn ho
      unfold S_impl_varText_1
      have e1 : orv .i64 (andv .i64 (n : Int) 127) 128 = ((n % 128 + 128 : Nat) : Int) := by
        rw [andv127 hn, orv128 (by omega)]
      have e2 : shrv .i64 (n : Int) 7 = ((n / 128 : Nat) : Int) := by rw [shrv7]; omega
      have e3 : IntKind.u8.wrap ((n % 128 + 128 : Nat) : Int) = ((n % 128 + 128 : Nat) : Int) := by rw [u8_wrap]; omega
      simp only [show decide ((n : Int) > 127) = true from by simp; omega, if_true, e1, e2, e3]
      rw [app?_ok (by simp; omega) (by simp; omega)]
      rfl) hsmall m [] (by omega) (by simp)
    rw [if_pos h0, h1]
    simp only [Option.bind_some]
    rw [app?_ok (by simp; omega) (by simp; omega)]
    simp only [Option.bind_some, u8_wrap]
    rw [show ((m' : Int) % 256) = m' by omega, h3]
    simp
  · rw [if_neg h0, iter_done (hsmall n [] (by omega))]
    simp only [Option.bind_some]
    rw [app?_ok (by simp) (by simp)]
    simp [u8_wrap]
theorem vt_len {n : Int} (h' : n < 9223372036854775808) : (vt n).length ≤ 11 := by
  unfold vt
  split
  · simp; exact vtl_len10 (by omega)
  · simp
end Go.Proofs.Ytpecafogemipmaa.V
/- Sums, words, what a record must be. -/
namespace Go.Proofs.Ytpecafogemipmaa.V
open Go Go.RowKit

/-! ### sums -/
def sumBit (n : Nat) : Nat := if n % 2 = 1 then (xorv .u32 ((n / 2 : Nat) : Int) 3558460437).toNat else n / 2
theorem xorv_range (x y : Int) : 0 ≤ xorv .u32 x y ∧ xorv .u32 x y < 4294967296 := by
  unfold xorv
  rw [u32_wrap]
  omega
theorem sumBit_lt {n : Nat} (h : n < 4294967296) : sumBit n < 4294967296 := by
  unfold sumBit
  have := xorv_range ((n / 2 : Nat) : Int) 3558460437
  split <;> omega
def iterK {α : Type} (f : α → α) : Nat → α → α
  | 0, a => a
  | k + 1, a => f (iterK f k a)
theorem iterK_lt (k : Nat) {n : Nat} (h : n < 4294967296) : iterK sumBit k n < 4294967296 := by
  induction k with
  | zero => exact h
  | succ k ih => exact sumBit_lt ih
theorem spec_sum2 {n : Nat} (h : n < 4294967296) : iter S_spec_SumMore_2 ((n : Int), 0) = some ((iterK sumBit 8 n : Nat) : Int) := by
  refine iter_range (fun k => (((iterK sumBit k n : Nat) : Int), (k : Int))) 8 ?_ ?_
  · intro k hk
    have hl := iterK_lt k h
    unfold S_spec_SumMore_2
    have e0 : w64 ((k : Int) + 1) = ((k + 1 : Nat) : Int) := w64_succ (by omega)
    generalize hm : iterK sumBit k n = m at hl
    have e1 : IntKind.u32.wrap (Int.tdiv (m : Int) 2) = ((m / 2 : Nat) : Int) := by
      rw [u32_wrap, Int.tdiv_eq_ediv_of_nonneg (by omega)]; omega
    have e2 : Int.tmod (m : Int) 2 = ((m % 2 : Nat) : Int) := by rw [Int.tmod_eq_emod_of_nonneg (by omega)]; omega
    simp only [show decide ((k : Int) < 8) = true from by simp; omega, if_true, e0, e1, e2]
    have e3 : iterK sumBit (k + 1) n = sumBit m := by simp [iterK, hm]
    rw [e3]
    unfold sumBit
    by_cases hb : m % 2 = 1
    · have := xorv_range ((m / 2 : Nat) : Int) 3558460437
      simp only [hb, if_true]
      rw [if_pos (by simp)]
      congr 3
    · rw [if_neg (by simp; omega), if_neg hb]
  · unfold S_spec_SumMore_2
    simp
theorem impl_sum2 {n : Nat} (h : n < 4294967296) : iter S_impl_SumMore_2 ((n : Int), 0) = some ((iterK sumBit 8 n : Nat) : Int) := by
  refine iter_range (fun k => (((iterK sumBit k n : Nat) : Int), (k : Int))) 8 ?_ ?_
  · intro k hk
    have hl := iterK_lt k h
    unfold S_impl_SumMore_2
    have e0 : w64 ((k : Int) + 1) = ((k + 1 : Nat) : Int) := w64_succ (by omega)
    generalize hm : iterK sumBit k n = m at hl
    have e1 : shrv .u32 (m : Int) 1 = ((m / 2 : Nat) : Int) := by rw [shrv1]; omega
    have e2 : andv .u32 (m : Int) 1 = ((m % 2 : Nat) : Int) := andv1 hl
    simp only [show decide ((k : Int) < 8) = true from by simp; omega, if_true, e0, e1, e2]
    have e3 : iterK sumBit (k + 1) n = sumBit m := by simp [iterK, hm]
    rw [e3]
    unfold sumBit
    by_cases hb : m % 2 = 1
    · have := xorv_range ((m / 2 : Nat) : Int) 3558460437
      simp only [hb, if_true]
      rw [if_pos (by simp)]
      congr 3
    · rw [if_neg (by simp; omega), if_neg hb]
  · unfold S_impl_SumMore_2
    simp
def sumB (n : Nat) (c : UInt8) : Nat := iterK sumBit 8 (xorv .u32 (n : Int) (c.toNat : Int)).toNat
def sumL (n : Nat) (s : List UInt8) : Nat := s.foldl sumB n
theorem sumB_lt (n : Nat) (c : UInt8) : sumB n c < 4294967296 := by
  have := xorv_range (n : Int) (c.toNat : Int)
  exact iterK_lt 8 (by omega)
theorem sumL_lt {n : Nat} (h : n < 4294967296) (s : List UInt8) : sumL n s < 4294967296 := by
  unfold sumL
  induction s generalizing n with
  | nil => exact h
  | cons c s ih => exact ih (sumB_lt n c)
theorem sum_loop {step : List UInt8 → Int × Int → Option ((Int × Int) ⊕ Int)} {s : List UInt8} (hs : s.length < 9223372036854775807) {n : Nat}
    (h1 : ∀ (m i : Nat) (h : i < s.length), step s ((m : Int), (i : Int)) = some (.inl ((sumB m s[i] : Nat), ((i + 1 : Nat) : Int))))
    (h2 : ∀ m : Nat, step s ((m : Int), (s.length : Int)) = some (.inr (m : Int))) : iter (step s) ((n : Int), 0) = some ((sumL n s : Nat) : Int) := by
  refine iter_range (fun i => (((sumL n (s.take i) : Nat) : Int), (i : Int))) s.length ?_ ?_
  · intro i hi
    have e : sumL n (s.take (i + 1)) = sumB (sumL n (s.take i)) s[i] := by
      unfold sumL
      rw [List.take_succ_eq_append_getElem hi, List.foldl_append]
      rfl
    rw [h1 _ i hi, e]
  · rw [List.take_length]; exact h2 _
theorem u8_u32 (c : UInt8) : IntKind.u32.wrap (c.toNat : Int) = c.toNat := by
  rw [u32_wrap]
  have := c.toNat_lt
  omega
theorem spec_sum {s : List UInt8} (hs : s.length < 9223372036854775807) (n : Nat) : F_spec_SumMore (n : Int) s = some ((sumL n s : Nat) : Int) := by
  unfold F_spec_SumMore
  rw [sum_loop (step := S_spec_SumMore_1) hs]
  · rfl
  · intro m i hi
    unfold S_spec_SumMore_1
    simp only [show decide ((i : Int) < (s.length : Int)) = true from by simp; omega, if_true, bt?_nat hi, Option.bind_some, u8_u32, w64_succ (show i < 9223372036854775807 by omega)]
    have hx := xorv_range (m : Int) ((s[i]).toNat : Int)
    have : xorv .u32 (m : Int) ((s[i]).toNat : Int) = ((xorv .u32 (m : Int) ((s[i]).toNat : Int)).toNat : Int) := by omega
    rw [this, spec_sum2 (by omega)]
    rfl
  · intro m
    unfold S_spec_SumMore_1
    simp
theorem impl_sum {s : List UInt8} (hs : s.length < 9223372036854775807) (n : Nat) : F_impl_SumMore (n : Int) s = some ((sumL n s : Nat) : Int) := by
  unfold F_impl_SumMore
  rw [sum_loop (step := S_impl_SumMore_1) hs]
  · rfl
  · intro m i hi
    unfold S_impl_SumMore_1
    simp only [show decide ((i : Int) < (s.length : Int)) = true from by simp; omega, if_true, bt?_nat hi, Option.bind_some, u8_u32, w64_succ (show i < 9223372036854775807 by omega)]
    have hx := xorv_range (m : Int) ((s[i]).toNat : Int)
    have : xorv .u32 (m : Int) ((s[i]).toNat : Int) = ((xorv .u32 (m : Int) ((s[i]).toNat : Int)).toNat : Int) := by omega
    rw [this, impl_sum2 (by omega)]
    rfl
  · intro m
    unfold S_impl_SumMore_1
    simp
def four (n : Int) : List UInt8 := [IntKind.u8.wrap (shrv .u32 n 24), IntKind.u8.wrap (shrv .u32 n 16), IntKind.u8.wrap (shrv .u32 n 8), IntKind.u8.wrap n].map ofI
def sealL (s : List UInt8) : List UInt8 := four (sumL 4294967295 s : Nat)
theorem sealL_len (s : List UInt8) : (sealL s).length = 4 := rfl
theorem spec_sumOf {s : List UInt8} (hs : s.length < 9223372036854775807) : F_spec_SumOf s = some ((sumL 4294967295 s : Nat) : Int) := by
  unfold F_spec_SumOf
  have := spec_sum hs 4294967295
  rw [show (4294967295 : Int) = ((4294967295 : Nat) : Int) from rfl, this]; rfl
theorem impl_sumOf {s : List UInt8} (hs : s.length < 9223372036854775807) : F_impl_SumOf s = some ((sumL 4294967295 s : Nat) : Int) := by
  unfold F_impl_SumOf
  have := impl_sum hs 4294967295
  rw [show (4294967295 : Int) = ((4294967295 : Nat) : Int) from rfl, this]; rfl
theorem spec_four (n : Int) : F_spec_l02Four n = some (four n) := rfl
theorem impl_seal {s : List UInt8} (hs : s.length < 9223372036854775807) : F_impl_seal s = some (sealL s) := by
  unfold F_impl_seal
  rw [impl_sumOf hs]; rfl
def sealed (s : List UInt8) : List UInt8 × Bool := if 20000 < s.length then ([], false) else (s ++ sealL s, true)
theorem spec_sealed {s : List UInt8} (hs : s.length < 9223372036854775807) : F_spec_Sealed s = some (sealed s) := by
  unfold F_spec_Sealed sealed
  by_cases h : 20000 < s.length
  · rw [if_pos (by simp; omega), if_pos h]
  · rw [if_neg (by simp; omega), if_neg h, spec_sumOf hs]
    simp only [Option.bind_some, spec_four]
    rw [cat?_ok (by show s.length + 4 ≤ _; omega)]
    rfl
theorem impl_sealed {s : List UInt8} (hs : s.length < 9223372036854775807) : F_impl_Sealed s = some (sealed s) := by
  unfold F_impl_Sealed sealed
  by_cases h : 20000 < s.length
  · rw [if_pos (by simp; omega), if_pos h]
  · rw [if_neg (by simp; omega), if_neg h, impl_seal hs]
    simp only [Option.bind_some]
    rw [cat?_ok (by show s.length + 4 ≤ _; omega)]
    rfl

/-! ### words -/
def inR (n lo hi : Int) : Bool := decide (lo ≤ n) && decide (n ≤ hi)
theorem spec_in (n lo hi : Int) : F_spec_l01In n lo hi = some (inR n lo hi) := by
  unfold F_spec_l01In inR
  by_cases h : lo ≤ n <;> simp [h]
theorem impl_in (n lo hi : Int) : F_impl_in n lo hi = some (inR n lo hi) := by
  unfold F_impl_in inR
  by_cases h : lo ≤ n <;> simp [h]
def lowB (c : UInt8) : Bool := decide (97 ≤ c.toNat) && decide (c.toNat ≤ 122)
def wordOk (s : List UInt8) : Bool := s.all lowB && inR s.length 1 8
theorem iter_all {σ ρ : Type} {step : σ → Option (σ ⊕ ρ)} (st : Nat → σ) (n : Nat) (p : Nat → Bool) {bad good : ρ} (h1 : ∀ i, i < n → p i = true → step (st i) = some (.inl (st (i + 1)))) (h2 : ∀ i, i < n → p i = false → step (st i) = some (.inr bad)) (he : step (st n) = some (.inr good)) :
    iter step (st 0) = some (if (List.range n).all p then good else bad) := by
  have key : ∀ d i, i + d = n → iter step (st i) = some (if ((List.range n).drop i).all p then good else bad) := by
    intro d
    induction d with
    | zero =>
      intro i hi
      have : i = n := by omega
      subst this
      rw [iter_done he, List.drop_eq_nil_of_le (by simp)]; simp
    | succ d ih =>
      intro i hi
      have hd : (List.range n).drop i = i :: (List.range n).drop (i + 1) := by
        rw [List.drop_eq_getElem_cons (by simp; omega)]; simp
      rw [hd]
      cases hp : p i with
      | true => rw [iter_next (h1 i (by omega) hp), ih (i + 1) (by omega)]; simp [hp]
      | false => rw [iter_done (h2 i (by omega) hp)]; simp [hp]
  simpa using key n 0 (by omega)
theorem all_range {α : Type} (l : List α) (p : α → Bool) : (List.range l.length).all (fun i => match l[i]? with | some x => p x | none => true) = l.all p := by
  rw [Bool.eq_iff_iff, List.all_eq_true, List.all_eq_true]
  constructor
  · intro h x hx
    obtain ⟨i, hi⟩ := List.getElem?_of_mem hx
    have := h i (List.mem_range.2 (List.getElem?_eq_some_iff.1 hi).1)
    simpa [hi] using this
  · intro h i hi
    have hi' := List.mem_range.1 hi
    rw [List.getElem?_eq_getElem hi']
    exact h _ (List.getElem_mem hi')
theorem spec_word {s : List UInt8} (hs : s.length < 9223372036854775807) : F_spec_WordOk s = some (wordOk s) := by
  have hl : iter (S_spec_WordOk_1 s) 0 = some (if s.all lowB then .inr () else .inl false) := by
    rw [← all_range]
    refine iter_all (fun i => (i : Int)) s.length _ ?_ ?_ ?_
    · intro i hi hp
      rw [List.getElem?_eq_getElem hi] at hp
      simp only [lowB, Bool.and_eq_true, decide_eq_true_eq] at hp
      unfold S_spec_WordOk_1
      simp only [show decide ((i : Int) < (s.length : Int)) = true from by simp; omega, if_true, bt?_nat hi, Option.bind_some]
      rw [if_neg (by simp; omega), if_neg (by simp; omega)]
      simp [w64_succ (show i < 9223372036854775807 by omega)]
    · intro i hi hp
      rw [List.getElem?_eq_getElem hi] at hp
      simp only [lowB, Bool.and_eq_false_iff, decide_eq_false_iff_not] at hp
      unfold S_spec_WordOk_1
      simp only [show decide ((i : Int) < (s.length : Int)) = true from by simp; omega, if_true, bt?_nat hi, Option.bind_some]
      by_cases h : (s[i]).toNat < 97
      · rw [if_pos (by simp; omega)]; rfl
      · rw [if_neg (by simp; omega), if_pos (by simp; omega)]; rfl
    · unfold S_spec_WordOk_1
      simp
  unfold F_spec_WordOk
  rw [hl]
  unfold wordOk
  cases s.all lowB <;> simp [spec_in]
theorem impl_word {s : List UInt8} (hs : s.length < 9223372036854775807) : F_impl_WordOk s = some (wordOk s) := by
  have hl : iter (S_impl_WordOk_1 s) 0 = some (if s.all lowB then .inr () else .inl false) := by
    rw [← all_range]
    refine iter_all (fun i => (i : Int)) s.length _ ?_ ?_ ?_
    · intro i hi hp
      rw [List.getElem?_eq_getElem hi] at hp
      simp only [lowB, Bool.and_eq_true, decide_eq_true_eq] at hp
      unfold S_impl_WordOk_1
      simp only [show decide ((i : Int) < (s.length : Int)) = true from by simp; omega, if_true, bt?_nat hi, Option.bind_some]
      rw [if_neg (by simp; omega), if_neg (by simp; omega)]
      simp [w64_succ (show i < 9223372036854775807 by omega)]
    · intro i hi hp
      rw [List.getElem?_eq_getElem hi] at hp
      simp only [lowB, Bool.and_eq_false_iff, decide_eq_false_iff_not] at hp
      unfold S_impl_WordOk_1
      simp only [show decide ((i : Int) < (s.length : Int)) = true from by simp; omega, if_true, bt?_nat hi, Option.bind_some]
      by_cases h : (s[i]).toNat < 97
      · rw [if_pos (by simp; omega)]; rfl
      · rw [if_neg (by simp; omega), if_pos (by simp; omega)]; rfl
    · unfold S_impl_WordOk_1
      simp
  unfold F_impl_WordOk
  rw [impl_in, Option.bind_some, hl]
  unfold wordOk
  cases s.all lowB <;> cases inR (s.length : Int) 1 8 <;> simp
end Go.Proofs.Ytpecafogemipmaa.V
/- What the statements' own functions need: loops over lists. -/
namespace Go.Proofs.Ytpecafogemipmaa.V
open Go Go.RowKit

theorem lit_i64 {n : Int} (h : (Lit.int .i64 n).wf = true) : -9223372036854775808 ≤ n ∧ n < 9223372036854775808 := by
  have h1 : (decide (IntKind.i64.min ≤ n) && decide (n ≤ IntKind.i64.max)) = true := h
  simp [IntKind.min, IntKind.max, IntKind.bits, IntKind.signed] at h1
  omega
theorem iter_ex {σ ρ : Type} {step : σ → Option (σ ⊕ ρ)} (n : Nat) (I : Nat → σ → Prop) (Q : ρ → Prop) (h : ∀ i s, i < n → I i s → (∃ s', step s = some (.inl s') ∧ I (i + 1) s') ∨ ∃ r, step s = some (.inr r) ∧ Q r) (he : ∀ s, I n s → ∃ r, step s = some (.inr r) ∧ Q r) : ∀ s, I 0 s → ∃ r, iter step s = some r ∧ Q r := by
  have key : ∀ d i s, i + d = n → I i s → ∃ r, iter step s = some r ∧ Q r := by
    intro d
    induction d with
    | zero =>
      intro i s hi hs
      have : i = n := by omega
      subst this
      obtain ⟨r, h1, h2⟩ := he s hs
      exact ⟨r, iter_done h1, h2⟩
    | succ d ih =>
      intro i s hi hs
      rcases h i s (by omega) hs with ⟨s', h1, h2⟩ | ⟨r, h1, h2⟩
      · obtain ⟨r, h3, h4⟩ := ih (i + 1) s' (by omega) h2
        exact ⟨r, by rw [iter_next h1]; exact h3, h4⟩
      · exact ⟨r, iter_done h1, h2⟩
  exact fun s hs => key n 0 s (by omega) hs

theorem set'_nat {α : Type} {l : List α} {i : Nat} {x : α} : set' l (i : Int) x = l.set i x := by simp [set']
theorem at?_set {α : Type} {l : List α} {i : Nat} {x : α} (h : i < l.length) : at? (l.set i x) (i : Int) = some x := by
  rw [at?_nat (by simpa using h)]; simp
theorem at?_eq {α : Type} {l : List α} {i : Nat} {x : α} (h : l[i]? = some x) : at? l (i : Int) = some x := by
  obtain ⟨h1, rfl⟩ := List.getElem?_eq_some_iff.1 h
  exact at?_nat h1
theorem dlt {i : Nat} {n : Nat} (h : i < n) : decide ((i : Int) < (n : Int)) = true := by simpa using h
theorem dnlt {n : Nat} : decide ((n : Int) < (n : Int)) = false := by simp

/-- Copied one by one. -/
theorem to_loop {α : Type} {l : List α} {z : α} {step : Int × List α → Option ((Int × List α) ⊕ List α)} (hl : l.length < 9223372036854775807)
    (h1 : ∀ (i : Nat) (h : i < l.length) (m : List α), m.length = l.length → step ((i : Int), m) = some (.inl (((i + 1 : Nat) : Int), m.set i l[i])))
    (h2 : ∀ m : List α, step ((l.length : Int), m) = some (.inr m)) : iter step (0, List.replicate l.length z) = some l := by
  have := iter_range (step := step) (fun i => ((i : Int), l.take i ++ List.replicate (l.length - i) z)) l.length (r := l) ?_ ?_
  · simpa using this
  · intro i hi
    rw [h1 i hi _ (by simp; omega)]
    have e : (l.take i ++ List.replicate (l.length - i) z).set i l[i] = l.take (i + 1) ++ List.replicate (l.length - (i + 1)) z := by
      have e1 : l.length - i = (l.length - (i + 1)) + 1 := by omega
      have e2 : (l.take i).length = i := by simp; omega
      rw [e1, List.replicate_succ, List.set_append_right _ _ (by omega), e2, Nat.sub_self, List.set_cons_zero, List.take_succ_eq_append_getElem hi, List.append_assoc]
      rfl
    rw [e]
  · simp [h2]
/-- Marked one by one: what stands at a place tells the place. -/
theorem mark_loop {α : Type} {l : List α} {k m0 : Nat} {g : Nat → α → α} {step : Int × Int × List α → Option ((Int × Int × List α) ⊕ (Int × List α))}
    (h1 : ∀ (i m : Nat) (l' : List α) (h : i < l'.length), i < l.length → m = m0 + k * i → step ((m : Int), (i : Int), l') = some (.inl (((m + k : Nat) : Int), ((i + 1 : Nat) : Int), l'.set i (g m l'[i]))))
    (h2 : ∀ (m : Nat) (l' : List α), l'.length = l.length → step ((m : Int), (l.length : Int), l') = some (.inr ((m : Int), l'))) :
    iter step ((m0 : Int), 0, l) = some (((m0 + k * l.length : Nat) : Int), l.mapIdx fun i x => g (m0 + k * i) x) := by
  have := iter_range (step := step) (fun i => (((m0 + k * i : Nat) : Int), (i : Int), (l.take i).mapIdx (fun i x => g (m0 + k * i) x) ++ l.drop i)) l.length (r := (((m0 + k * l.length : Nat) : Int), l.mapIdx fun i x => g (m0 + k * i) x)) ?_ ?_
  · simpa using this
  · intro i hi
    have hlen : i < ((l.take i).mapIdx (fun i x => g (m0 + k * i) x) ++ l.drop i).length := by simp; omega
    rw [h1 i _ _ hlen hi rfl]
    have e0 : ((l.take i).mapIdx (fun i x => g (m0 + k * i) x)).length = i := by simp; omega
    have e1 : ((l.take i).mapIdx (fun i x => g (m0 + k * i) x) ++ l.drop i)[i] = l[i] := by
      rw [List.getElem_append_right (by omega)]
      simp [e0]
    have e : ((l.take i).mapIdx (fun i x => g (m0 + k * i) x) ++ l.drop i).set i (g (m0 + k * i) l[i]) = (l.take (i + 1)).mapIdx (fun i x => g (m0 + k * i) x) ++ l.drop (i + 1) := by
      rw [List.set_append_right _ _ (by omega), e0, Nat.sub_self, List.drop_eq_getElem_cons hi, List.set_cons_zero, List.take_succ_eq_append_getElem hi, List.mapIdx_append]
      have : (l.take i).length = i := by simp; omega
      simp [this]
    rw [e1, e, Nat.mul_succ, Nat.add_assoc]
  · rw [h2 _ _ (by simp)]
    simp
theorem held_loop {α : Type} {l : List α} {k m0 : Nat} {ρ : Type} {r : Int → ρ} {g : Nat → α → α} {step : Int × Int → Option ((Int × Int) ⊕ ρ)}
    (h1 : ∀ (i m : Nat) (h : i < l.length), m = m0 + k * i → step ((m : Int), (i : Int)) = some (.inl (((m + k : Nat) : Int), ((i + 1 : Nat) : Int))))
    (h2 : ∀ (m : Nat), step ((m : Int), (l.length : Int)) = some (.inr (r (m : Int)))) :
    iter step ((m0 : Int), 0) = some (r ((m0 + k * l.length : Nat) : Int)) := by
  refine iter_range (step := step) (fun i => (((m0 + k * i : Nat) : Int), (i : Int))) l.length (r := r ((m0 + k * l.length : Nat) : Int)) ?_ ?_
  · intro i hi
    rw [h1 i _ hi rfl, Nat.mul_succ, Nat.add_assoc]
  · exact h2 _
theorem mk?_ok {α : Type} {byt : Nat} {z : α} {n : Nat} (h : n ≤ 1099511627776) (h2 : n * byt ≤ 140737488355328) : mk? byt z (n : Int) = some (List.replicate n z) := by
  unfold mk?
  have h3 : ((n * byt : Nat) : Int) ≤ 140737488355328 := by omega
  rw [if_pos ⟨by omega, by rw [Int.mul_comm]; rw [Int.natCast_mul] at h3; exact h3, by omega⟩]; simp
/-- A scan that ends where something is found. -/
theorem any_loop {α ρ : Type} {l : List α} {k : Nat} (hk : k ≤ l.length) {q : α → Bool} {step : Int → Option (Int ⊕ ρ)} {bad good : ρ} (h1 : ∀ (i : Nat) (h : i < l.length), i < k → step (i : Int) = if q l[i] then some (.inr bad) else some (.inl ((i + 1 : Nat) : Int))) (h2 : step (k : Int) = some (.inr good)) : iter step 0 = some (if (l.take k).any q then bad else good) := by
  have key : ∀ d i, i + d = k → iter step (i : Int) = some (if ((l.take k).drop i).any q then bad else good) := by
    intro d
    induction d with
    | zero => intro i hi; have : i = k := by omega
              subst this; rw [iter_done h2, List.drop_eq_nil_of_le (by simp; omega)]; simp
    | succ d ih =>
      intro i hi
      have hd : (l.take k).drop i = l[i] :: (l.take k).drop (i + 1) := by
        rw [List.drop_eq_getElem_cons (by simp; omega)]; simp
      rw [hd, List.any_cons]
      have hs := h1 i (by omega) (by omega)
      cases hq : q l[i] with
      | true => rw [hq] at hs; rw [iter_done hs]; simp
      | false => rw [hq] at hs; rw [iter_next hs, ih (i + 1) (by omega)]; simp
  simpa using key k 0 (by omega)
theorem idx_loop {α : Type} {l : List α} {q : α → Bool} {step : Int → Option (Int ⊕ (Int ⊕ Unit))} (h1 : ∀ (i : Nat) (h : i < l.length), step (i : Int) = if q l[i] then some (.inr (.inl (i : Int))) else some (.inl ((i + 1 : Nat) : Int))) (h2 : step (l.length : Int) = some (.inr (.inr ()))) : iter step 0 = some (match l.findIdx? q with | some i => .inl (i : Int) | none => .inr ()) := by
  have key : ∀ d i, i + d = l.length → iter step (i : Int) = some (match (l.drop i).findIdx? q with | some j => .inl ((i + j : Nat) : Int) | none => .inr ()) := by
    intro d
    induction d with
    | zero => intro i hi; have : i = l.length := by omega
              subst this; rw [iter_done h2, List.drop_eq_nil_of_le (by simp)]; simp
    | succ d ih =>
      intro i hi
      have hs := h1 i (by omega)
      rw [List.drop_eq_getElem_cons (by omega), List.findIdx?_cons]
      cases hq : q l[i] with
      | true => rw [hq] at hs; rw [iter_done hs]; simp
      | false =>
        rw [hq] at hs; rw [iter_next hs, ih (i + 1) (by omega)]
        cases (l.drop (i + 1)).findIdx? q with
        | none => simp
        | some j => simp; omega
  have := key l.length 0 (by omega)
  simp only [List.drop_zero, Nat.zero_add] at this
  exact this
def idxI : Option Nat → Int
  | some i => i
  | none => -1
theorem idx_any {α : Type} {l : List α} {q : α → Bool} : decide (idxI (l.findIdx? q) ≥ 0) = l.any q := by
  rw [← List.findIdx?_isSome]
  cases l.findIdx? q <;> simp [idxI]
theorem sub?_take {α : Type} {l : List α} {i : Nat} (h : i ≤ l.length) : sub? l 0 (i : Int) = some (l.take i) := by
  unfold sub?
  simp
  omega
end Go.Proofs.Ytpecafogemipmaa.V
/- The functions that the statements are made of. -/
namespace Go.Proofs.Ytpecafogemipmaa.V
open Go Go.RowKit
set_option maxRecDepth 100000
structure Sz_TCheck (x : TCheck) : Prop where
  sRefs : x.Refs.length ≤ 1048576
structure Sz_TRec (x : TRec) : Prop where
  sUser : x.User.length ≤ 1048576
  sName : x.Name.length ≤ 1048576
  sText : x.Text.length ≤ 1048576
structure Sz_TItem (x : TItem) : Prop where
  sRec : Sz_TRec x.Rec
structure Sz_TFrame (x : TFrame) : Prop where
  sBody : x.Body.length ≤ 1048576
structure Sz_TL06Cur (x : TL06Cur) : Prop where
  smText : x.mText.length ≤ 1048576

/-! ### the words that mark -/
theorem mt_loop : ∀ (d n : Nat) (out : List UInt8), n < 10 ^ d → n < 4611686018427387904 → out.length + d ≤ 1000 → ∃ o, iter S_laws_markText_1 ((n : Int), out) = some o ∧ o.length ≤ 1000
  | 0, n, out, h, _, h2 => by
    have : n = 0 := by simp at h; omega
    subst this
    exact ⟨out, iter_done (by unfold S_laws_markText_1; simp), by omega⟩
  | d + 1, n, out, h, h1, h2 => by
    by_cases h0 : n = 0
    · subst h0; exact ⟨out, iter_done (by unfold S_laws_markText_1; simp), by omega⟩
    · have hs : S_laws_markText_1 ((n : Int), out) = some (.inl (((n / 10 : Nat) : Int), [ofI (IntKind.u8.wrap (w64 (48 + Int.tmod (n : Int) 10)))] ++ out)) := by
        unfold S_laws_markText_1
        have e2 : w64 (Int.tdiv (n : Int) 10) = ((n / 10 : Nat) : Int) := by
          rw [Int.tdiv_eq_ediv_of_nonneg (by omega), w64_id (by omega) (by omega)]; omega
        simp only [show decide ((n : Int) > 0) = true from by simp; omega, if_true, e2]
        rw [cat?_ok (by simp; omega)]
        rfl
      obtain ⟨o, h3, h4⟩ := mt_loop d (n / 10) ([ofI (IntKind.u8.wrap (w64 (48 + Int.tmod (n : Int) 10)))] ++ out) (by rw [Nat.pow_succ] at h; exact Nat.div_lt_of_lt_mul (by rw [Nat.mul_comm]; exact h)) (by omega) (by simp; omega)
      exact ⟨o, by rw [iter_next hs]; exact h3, h4⟩
noncomputable def mt (n : Nat) : List UInt8 := (F_laws_markText (n : Int)).getD []
theorem p_laws_markText {n : Nat} (h : n < 4611686018427387904) : F_laws_markText (n : Int) = some (mt n) := by
  have : ∃ o, F_laws_markText (n : Int) = some o := by
    unfold F_laws_markText
    by_cases h0 : n = 0
    · subst h0; exact ⟨_, by simp; rfl⟩
    · rw [if_neg (by simp; omega)]
      obtain ⟨o, h1, h2⟩ := mt_loop 19 n [] (Nat.lt_trans h (by decide)) h (by simp)
      rw [h1]
      simp only [Option.bind_some]
      rw [cat?_ok (by simp; omega)]
      exact ⟨_, rfl⟩
  obtain ⟨o, ho⟩ := this
  unfold mt
  rw [ho]; rfl
theorem p_laws_szRec {x : TRec} {n : Int} (w : wf_TRec x) (h0 : 0 ≤ n) (h1 : n ≤ 1048576) : ∃ r, F_laws_szRec x n = some r ∧ r ≤ n ∧ -1 ≤ r ∧ (0 ≤ r → Sz_TRec x) := by
  unfold F_laws_szRec
  have hw1 : (x.User.length : Int) ≤ 9223372036854775807 := by have := w.2.2.2.2.2.1; unfold maxLen at this; omega
  have e1 : w64 (n - (x.User.length : Int)) = n - x.User.length := w64_id (by omega) (by omega)
  simp only [e1]
  generalize hr1 : n - (x.User.length : Int) = r1
  by_cases c1 : r1 < 0
  · rw [if_pos (by simpa using c1)]; exact ⟨-1, rfl, by omega, by omega, fun h => absurd h (by omega)⟩
  rw [if_neg (by simpa using c1)]
  have hw2 : (x.Name.length : Int) ≤ 9223372036854775807 := by have := w.2.2.2.2.2.2.1; unfold maxLen at this; omega
  have e2 : w64 (r1 - (x.Name.length : Int)) = r1 - x.Name.length := w64_id (by omega) (by omega)
  simp only [e2]
  generalize hr2 : r1 - (x.Name.length : Int) = r2
  by_cases c2 : r2 < 0
  · rw [if_pos (by simpa using c2)]; exact ⟨-1, rfl, by omega, by omega, fun h => absurd h (by omega)⟩
  rw [if_neg (by simpa using c2)]
  have hw3 : (x.Text.length : Int) ≤ 9223372036854775807 := by have := w.2.2.2.2.2.2.2.1; unfold maxLen at this; omega
  have e3 : w64 (r2 - (x.Text.length : Int)) = r2 - x.Text.length := w64_id (by omega) (by omega)
  simp only [e3]
  generalize hr3 : r2 - (x.Text.length : Int) = r3
  by_cases c3 : r3 < 0
  · rw [if_pos (by simpa using c3)]; exact ⟨-1, rfl, by omega, by omega, fun h => absurd h (by omega)⟩
  rw [if_neg (by simpa using c3)]
  exact ⟨_, rfl, by omega, by omega, fun _ => ⟨by omega, by omega, by omega⟩⟩
theorem p_laws_szItem {x : TItem} {n : Int} (w : wf_TItem x) (h0 : 0 ≤ n) (h1 : n ≤ 1048576) : ∃ r, F_laws_szItem x n = some r ∧ r ≤ n ∧ -1 ≤ r ∧ (0 ≤ r → Sz_TItem x) := by
  unfold F_laws_szItem
  obtain ⟨r1, f1, g1, b1, q1⟩ := p_laws_szRec (x := x.Rec) (n := n) w.2.1 (by omega) (by omega)
  simp only [f1, Option.bind_some]
  by_cases c1 : r1 < 0
  · rw [if_pos (by simpa using c1)]; exact ⟨-1, rfl, by omega, by omega, fun h => absurd h (by omega)⟩
  rw [if_neg (by simpa using c1)]
  exact ⟨_, rfl, by omega, by omega, fun _ => ⟨q1 (by omega)⟩⟩
theorem p_laws_szItemS {x : List TItem} {n : Int} (w : (x.length ≤ maxLen ∧ ∀ a ∈ x, wf_TItem a)) (h0 : 0 ≤ n) (h1 : n ≤ 1048576) : ∃ r, F_laws_szItemS x n = some r ∧ r ≤ n ∧ -1 ≤ r ∧ (0 ≤ r → x.length ≤ 1048576 ∧ ∀ y ∈ x, Sz_TItem y) := by
  unfold F_laws_szItemS
  have hw : (x.length : Int) ≤ 9223372036854775807 := by have := w.1; unfold maxLen at this; omega
  have e0 : w64 (n - (x.length : Int)) = n - x.length := w64_id (by omega) (by omega)
  rw [e0]
  by_cases c0 : n - (x.length : Int) < 0
  · rw [if_pos (by simpa using c0)]; exact ⟨-1, rfl, by omega, by omega, fun h => absurd h (by omega)⟩
  rw [if_neg (by simpa using c0)]
  have hl : x.length < 9223372036854775807 := by omega
  have key := iter_ex (step := S_laws_szItemS_1 x) x.length (fun i st => ∃ m : Int, st = (m, (i : Int)) ∧ 0 ≤ m ∧ m ≤ n - x.length ∧ ∀ (j : Nat) y, j < i → x[j]? = some y → Sz_TItem y) (fun o : Int ⊕ Int => match o with | .inl r => r = -1 | .inr r => r ≤ n ∧ 0 ≤ r ∧ ∀ y ∈ x, Sz_TItem y) ?_ ?_ (n - x.length, 0) ⟨_, rfl, by omega, by omega, by simp⟩
  · obtain ⟨r, h2, h3⟩ := key
    rw [h2]
    cases r with
    | inl r => simp only at h3; subst h3; exact ⟨-1, rfl, by omega, by omega, fun h => absurd h (by omega)⟩
    | inr r => exact ⟨r, rfl, h3.1, by omega, fun _ => ⟨by omega, h3.2.2⟩⟩
  · rintro i _ hi ⟨m, rfl, hm0, hm1, hj⟩
    unfold S_laws_szItemS_1
    simp only [dlt hi, if_true, at?_nat hi, Option.bind_some, w64_succ (show i < 9223372036854775807 by omega)]
    obtain ⟨r, h2, h3, h4, h5⟩ := p_laws_szItem (x := x[i]) (n := m) (w.2 _ (List.getElem_mem hi)) hm0 (by omega)
    simp only [h2, Option.bind_some]
    by_cases c1 : r < 0
    · exact .inr ⟨.inl (-1), by simp [c1], rfl⟩
    refine .inl ⟨(r, ((i + 1 : Nat) : Int)), by simp [c1], r, rfl, by omega, by omega, ?_⟩
    intro j y hj1 hj2
    by_cases e : j = i
    · subst e; rw [List.getElem?_eq_getElem hi] at hj2; cases hj2; exact h5 (by omega)
    · exact hj j y (by omega) hj2
  · rintro _ ⟨m, rfl, hm0, hm1, hj⟩
    refine ⟨.inr m, by unfold S_laws_szItemS_1; simp, by show m ≤ n; omega, hm0, fun y hy => ?_⟩
    obtain ⟨j, hj2⟩ := List.getElem?_of_mem hy
    exact hj j y (List.getElem?_eq_some_iff.1 hj2).1 hj2
theorem p_laws_toRec {x : TRec} (h : Sz_TRec x) : F_laws_toRec x = some x := by
  unfold F_laws_toRec
  rfl
theorem p_laws_toItem {x : TItem} (h : Sz_TItem x) : F_laws_toItem x = some x := by
  unfold F_laws_toItem
  simp only [p_laws_toRec (x := x.Rec) h.sRec, Option.bind_some]
theorem p_laws_toItemS {x : List TItem} (h : x.length ≤ 1048576 ∧ ∀ y ∈ x, Sz_TItem y) : F_laws_toItemS x = some x := by
  unfold F_laws_toItemS
  have hl := h.1
  rw [mk?_ok (by omega) (by omega), Option.bind_some, to_loop (step := S_laws_toItemS_1 x) (by omega)]
  · rfl
  · intro i hi m hm
    unfold S_laws_toItemS_1
    have he := p_laws_toItem (x := x[i]) (h.2 _ (List.getElem_mem hi))
    simp only [dlt hi, if_true, at?_nat hi, at?_nat (show i < m.length by omega), Option.bind_some, set'_nat, w64_succ (show i < 9223372036854775807 by omega), he]
  · intro m
    unfold S_laws_toItemS_1
    simp
theorem p_laws_toBoolS {x : List Bool} (h : x.length ≤ 1048576) : F_laws_toBoolS x = some x := by
  unfold F_laws_toBoolS
  have hl := h
  rw [mk?_ok (by omega) (by omega), Option.bind_some, to_loop (step := S_laws_toBoolS_1 x) (by omega)]
  · rfl
  · intro i hi m hm
    unfold S_laws_toBoolS_1
    simp only [dlt hi, if_true, at?_nat hi, at?_nat (show i < m.length by omega), Option.bind_some, set'_nat, w64_succ (show i < 9223372036854775807 by omega)]
  · intro m
    unfold S_laws_toBoolS_1
    simp
theorem p_laws_eqRec {x : TRec} (h : Sz_TRec x) : F_laws_eqRec x x = some true := by
  unfold F_laws_eqRec
  simp []
theorem p_laws_eqItem {x : TItem} (h : Sz_TItem x) : F_laws_eqItem x x = some true := by
  unfold F_laws_eqItem
  simp [p_laws_eqRec (x := x.Rec) h.sRec]
theorem p_laws_eqItemS {x : List TItem} (h : x.length ≤ 1048576 ∧ ∀ y ∈ x, Sz_TItem y) : F_laws_eqItemS x x = some true := by
  unfold F_laws_eqItemS
  have hl := h.1
  have key : iter (S_laws_eqItemS_1 x x) 0 = some (.inr ()) := by
    refine iter_range (fun i => (i : Int)) x.length ?_ ?_
    · intro i hi
      unfold S_laws_eqItemS_1
      have he := p_laws_eqItem (x := x[i]) (h.2 _ (List.getElem_mem hi))
      simp only [dlt hi, if_true, at?_nat hi, Option.bind_some, w64_succ (show i < 9223372036854775807 by omega), he]
      try simp
    · unfold S_laws_eqItemS_1
      simp
  rw [key]
  simp
theorem p_laws_eqBoolS {x : List Bool} (h : x.length ≤ 1048576) : F_laws_eqBoolS x x = some true := by
  unfold F_laws_eqBoolS
  have hl := h
  have key : iter (S_laws_eqBoolS_1 x x) 0 = some (.inr ()) := by
    refine iter_range (fun i => (i : Int)) x.length ?_ ?_
    · intro i hi
      unfold S_laws_eqBoolS_1
      simp only [dlt hi, if_true, at?_nat hi, Option.bind_some, w64_succ (show i < 9223372036854775807 by omega)]
      try simp
    · unfold S_laws_eqBoolS_1
      simp
  rw [key]
  simp
noncomputable def mk_laws_markItemS_w (m : Nat) (_ : TItem) : TItem := ({ Seq := ((m : Nat) : Int), Rec := ({ Kind := ((m + 1 : Nat) : Int), Valid := ((m + 2 : Nat) : Int), Uid := ((m + 3 : Nat) : Int), Next := ((m + 4 : Nat) : Int), Flags := ((m + 5 : Nat) : Int), User := mt (m + 6), Name := mt (m + 7), Text := mt (m + 8) } : TRec) } : TItem)
theorem p_laws_markItemS_w {l : List TItem} {m0 : Nat} (hl : l.length ≤ 1048576) (hm0 : m0 ≤ 1099511627776) : F_laws_markItemS_w l (m0 : Int) = some (((m0 + 9 * l.length : Nat) : Int), l.mapIdx fun i x => mk_laws_markItemS_w (m0 + 9 * i) x) := by
  unfold F_laws_markItemS_w
  rw [mark_loop (step := S_laws_markItemS_w_1) (k := 9) (g := mk_laws_markItemS_w) (l := l) ?_ ?_]
  · rfl
  · intro i m l' h hi hm
    unfold S_laws_markItemS_w_1
    simp only [dlt h, if_true, at?_nat h, at?_set h, Option.bind_some, set'_nat, List.set_set, w64_succ (show i < 9223372036854775807 by omega), w64_succ (show m < 9223372036854775807 by omega), w64_succ (n := m + 1) (by omega), w64_succ (n := m + 2) (by omega), w64_succ (n := m + 3) (by omega), w64_succ (n := m + 4) (by omega), w64_succ (n := m + 5) (by omega), w64_succ (n := m + 6) (by omega), w64_succ (n := m + 7) (by omega), w64_succ (n := m + 8) (by omega), p_laws_markText (show m + 6 < 4611686018427387904 by omega), p_laws_markText (show m + 7 < 4611686018427387904 by omega), p_laws_markText (show m + 8 < 4611686018427387904 by omega)]
    try rfl
  · intro m l' hl'
    unfold S_laws_markItemS_w_1
    simp [hl']
theorem p_laws_heldItemS {l : List TItem} {m0 : Nat} (hl : l.length ≤ 1048576) (hm0 : m0 ≤ 1099511627776) : F_laws_heldItemS (l.mapIdx fun i x => mk_laws_markItemS_w (m0 + 9 * i) x) (m0 : Int) = some ((m0 + 9 * l.length : Nat) : Int) := by
  unfold F_laws_heldItemS
  rw [held_loop (step := S_laws_heldItemS_1 _) (k := 9) (r := Sum.inr) (l := l.mapIdx fun i x => mk_laws_markItemS_w (m0 + 9 * i) x) (g := mk_laws_markItemS_w) ?_ ?_]
  · simp
  · intro i m h hm
    have hi : i < l.length := by simpa using h
    unfold S_laws_heldItemS_1
    simp only [dlt h, if_true, at?_nat h, List.getElem_mapIdx, ← hm, Option.bind_some, w64_succ (show i < 9223372036854775807 by omega), w64_succ (show m < 9223372036854775807 by omega), w64_succ (n := m + 1) (by omega), w64_succ (n := m + 2) (by omega), w64_succ (n := m + 3) (by omega), w64_succ (n := m + 4) (by omega), w64_succ (n := m + 5) (by omega), w64_succ (n := m + 6) (by omega), w64_succ (n := m + 7) (by omega), w64_succ (n := m + 8) (by omega), p_laws_markText (show m + 6 < 4611686018427387904 by omega), p_laws_markText (show m + 7 < 4611686018427387904 by omega), p_laws_markText (show m + 8 < 4611686018427387904 by omega)]
    simp [mk_laws_markItemS_w, Int.add_assoc]
  · intro m
    unfold S_laws_heldItemS_1
    simp
noncomputable def mk_laws_markBoolS_w (m : Nat) (_ : Bool) : Bool := (Int.tmod ((m : Nat) : Int) 3 == 0)
theorem p_laws_markBoolS_w {l : List Bool} {m0 : Nat} (hl : l.length ≤ 1048576) (hm0 : m0 ≤ 1099511627776) : F_laws_markBoolS_w l (m0 : Int) = some (((m0 + 1 * l.length : Nat) : Int), l.mapIdx fun i x => mk_laws_markBoolS_w (m0 + 1 * i) x) := by
  unfold F_laws_markBoolS_w
  rw [mark_loop (step := S_laws_markBoolS_w_1) (k := 1) (g := mk_laws_markBoolS_w) (l := l) ?_ ?_]
  · rfl
  · intro i m l' h hi hm
    unfold S_laws_markBoolS_w_1
    simp only [dlt h, if_true, at?_nat h, at?_set h, Option.bind_some, set'_nat, List.set_set, w64_succ (show i < 9223372036854775807 by omega), w64_succ (show m < 9223372036854775807 by omega)]
    try rfl
  · intro m l' hl'
    unfold S_laws_markBoolS_w_1
    simp [hl']
end Go.Proofs.Ytpecafogemipmaa.V
/- Without what is dropped. -/
namespace Go.Proofs.Ytpecafogemipmaa.V
open Go Go.RowKit
set_option maxRecDepth 100000

def dropB (d : List Bool) (k : Nat) : Bool := (d[k]?).getD false
def woT (l : List TItem) (d : List Bool) : Nat → List TItem
  | 0 => []
  | i + 1 => woT l d i ++ (match l[i]? with | some x => if dropB d i then [] else [x] | none => [])
def without (l : List TItem) (d : List Bool) : List TItem := woT l d l.length
theorem woT_len {l : List TItem} {d : List Bool} : ∀ i, (woT l d i).length ≤ i
  | 0 => by simp [woT]
  | i + 1 => by
    have := woT_len (l := l) (d := d) i
    unfold woT
    rw [List.length_append]
    split
    · split <;> simp <;> omega
    · simp; omega
theorem woT_mem {l : List TItem} {d : List Bool} {x : TItem} : ∀ i, x ∈ woT l d i → x ∈ l
  | 0, h => by simp [woT] at h
  | i + 1, h => by
    unfold woT at h
    rcases List.mem_append.1 h with h | h
    · exact woT_mem i h
    · split at h
      · rename_i y hy
        split at h
        · simp at h
        · simp at h; subst h; exact List.mem_of_getElem? hy
      · simp at h
theorem woT_succ {l : List TItem} {d : List Bool} {i : Nat} (hi : i < l.length) : woT l d (i + 1) = if dropB d i then woT l d i else woT l d i ++ [l[i]] := by
  rw [woT, List.getElem?_eq_getElem hi]
  cases dropB d i <;> simp
theorem impl_dropped {d : List Bool} {k : Nat} : F_impl_dropped d (k : Int) = some (dropB d k) := by
  unfold F_impl_dropped dropB
  by_cases h : k < d.length
  · simp [h, at?_nat h]
  · rw [if_neg (by simp; omega), List.getElem?_eq_none (by omega)]; rfl
theorem spec_without {l : List TItem} {d : List Bool} (h : l.length ≤ 1048576) : F_spec_Without l d = some (without l d) := by
  unfold F_spec_Without
  have : iter (S_spec_Without_1 l d) (0, []) = some (without l d) := by
    refine iter_range (fun i => ((i : Int), woT l d i)) l.length ?_ ?_
    · intro i hi
      have hl := woT_len (l := l) (d := d) i
      unfold S_spec_Without_1
      simp only [dlt hi, if_true, at?_nat hi, Option.bind_some, w64_succ (show i < 9223372036854775807 by omega), app?_ok (byt := 96) (l := woT l d i) (m := [l[i]]) (by simp; omega) (by simp; omega), woT_succ hi]
      unfold dropB
      by_cases hd : i < d.length
      · rw [if_neg (by simp; omega), at?_nat hd, List.getElem?_eq_getElem hd]
        cases hb : d[i] <;> simp [hb]
      · rw [if_pos (by simp; omega), List.getElem?_eq_none (by omega)]
        simp
    · unfold S_spec_Without_1
      simp [without]
  rw [this]; rfl
theorem impl_without {l : List TItem} {d : List Bool} (h : l.length ≤ 1048576) : F_impl_Without l d = some (without l d) := by
  unfold F_impl_Without
  have : iter (S_impl_Without_1 l d) (0, []) = some (without l d) := by
    refine iter_range (fun i => ((i : Int), woT l d i)) l.length ?_ ?_
    · intro i hi
      have hl := woT_len (l := l) (d := d) i
      unfold S_impl_Without_1
      simp only [dlt hi, if_true, at?_nat hi, Option.bind_some, impl_dropped, w64_succ (show i < 9223372036854775807 by omega), app?_ok (byt := 96) (l := woT l d i) (m := [l[i]]) (by simp; omega) (by simp; omega), woT_succ hi]
      cases dropB d i <;> simp
    · unfold S_impl_Without_1
      simp [without]
  rw [this]; rfl
theorem nn (n : Nat) : ¬ ((n : Int) < 0) := by omega
theorem pure_FnExactWithout {x : List TItem} {d : List Bool} (w : x.length ≤ maxLen ∧ ∀ a ∈ x, wf_TItem a) (w' : d.length ≤ maxLen ∧ ∀ a ∈ d, True) : F_laws_FnExactWithout x d = some true := by
  obtain ⟨r, h1, h2, h3, h4⟩ := p_laws_szItemS w (n := 1048576) (by omega) (by omega)
  unfold F_laws_FnExactWithout
  by_cases hd : (d.length : Int) > 1048576
  · rw [if_pos (by simpa using hd)]
  rw [if_neg (by simpa using hd), h1, Option.bind_some]
  by_cases hr : r < 0
  · rw [if_pos (by simpa using hr)]
  have hs := h4 (by omega)
  have hd' : d.length ≤ 1048576 := by omega
  have hg : (without x d).length ≤ 1048576 ∧ ∀ y ∈ without x d, Sz_TItem y := ⟨Nat.le_trans (woT_len _) hs.1, fun y hy => hs.2 y (woT_mem _ hy)⟩
  have m1 : guardO (fun r : Int × List TItem => x.length = r.2.length) (F_laws_markItemS_w x 1) = some _ := guardO_of (p_laws_markItemS_w (m0 := 1) hs.1 (by omega)) (by simp)
  have m2 : guardO (fun r : Int × List Bool => d.length = r.2.length) (F_laws_markBoolS_w d ((1 + 9 * x.length : Nat) : Int)) = some _ := guardO_of (p_laws_markBoolS_w hd' (by omega)) (by simp)
  have m3 : guardO (fun r : Int × List TItem => (without x d).length = r.2.length) (F_laws_markItemS_w (without x d) 1) = some _ := guardO_of (p_laws_markItemS_w (m0 := 1) hg.1 (by omega)) (by simp)
  have m4 : F_laws_heldItemS _ 1 = some _ := p_laws_heldItemS (l := without x d) (m0 := 1) hg.1 (by omega)
  rw [if_neg (by simpa using hr)]
  simp only [p_laws_toItemS hs, p_laws_toBoolS hd', spec_without hs.1, impl_without hs.1, p_laws_eqItemS hs, p_laws_eqItemS hg, p_laws_eqBoolS hd', Option.bind_some, if_true, m1, m2, m3, m4, nn, decide_false, if_false, Bool.false_eq_true, bne_self_eq_false]
end Go.Proofs.Ytpecafogemipmaa.V
