/- The pure part. -/
import Derived.Test.YtgdcbjoaoagbpaaXT
/- Loops that count, numbers, words: plain lists and numbers. -/
namespace Go.Proofs.Ytgdcbjoaoagbpaa.V
open Go Go.RowKit

/-! ### loops that count -/
theorem iter_range {σ ρ : Type} {step : σ → Option (σ ⊕ ρ)} (st : Nat → σ) (n : Nat) {r : ρ} (hs : ∀ i, i < n → step (st i) = some (.inl (st (i + 1)))) (he : step (st n) = some (.inr r)) : iter step (st 0) = some r := by
  have key : ∀ d i, i + d = n → iter step (st i) = some r := by
    intro d
    induction d with
    | zero => intro i hi; have : i = n := by omega
              subst this; exact iter_done he
    | succ d ih => intro i hi; rw [iter_next (hs i (by omega))]; exact ih (i + 1) (by omega)
  exact key n 0 (by omega)

/-! ### numbers -/
theorem w64_id {n : Int} (h : -9223372036854775808 ≤ n) (h' : n < 9223372036854775808) : w64 n = n := by
  unfold w64 IntKind.wrap
  simp [IntKind.bits, IntKind.signed]
  omega
theorem w64_nat {n : Nat} (h : n < 9223372036854775808) : w64 (n : Int) = n := w64_id (by omega) (by omega)
theorem w64_succ {n : Nat} (h : n < 9223372036854775807) : w64 ((n : Int) + 1) = ((n + 1 : Nat) : Int) := by rw [w64_id (by omega) (by omega)]; omega
theorem u8_wrap (n : Int) : IntKind.u8.wrap n = n % 256 := by
  unfold IntKind.wrap
  simp [IntKind.bits, IntKind.signed]
theorem u32_wrap (n : Int) : IntKind.u32.wrap n = n % 4294967296 := by
  unfold IntKind.wrap
  simp [IntKind.bits, IntKind.signed]
theorem at?_nat {α : Type} {l : List α} {i : Nat} (h : i < l.length) : at? l (i : Int) = some l[i] := by
  unfold at?
  rw [if_pos ⟨by omega, by omega⟩]
  simp [h]
theorem bt?_nat {s : List UInt8} {i : Nat} (h : i < s.length) : bt? s (i : Int) = some s[i] := by
  unfold bt?
  rw [if_pos (by omega)]
  simp [h]
theorem cat?_ok {s t : List UInt8} (h : s.length + t.length ≤ 4611686018427387904) : cat? s t = some (s ++ t) := by unfold cat?; rw [if_pos h]
theorem app?_ok {α : Type} {byt : Nat} {l m : List α} (h : l.length + m.length ≤ 1099511627776) (h2 : (l.length + m.length) * byt ≤ 140737488355328) : app? byt l m = some (l ++ m) := by unfold app?; rw [if_pos ⟨h, h2⟩]

theorem andv127 {n : Nat} (h' : n < 9223372036854775808) : andv .i64 n 127 = ((n % 128 : Nat) : Int) := by
  show IntKind.i64.wrap ((BitVec.ofInt 64 (n : Int) &&& BitVec.ofInt 64 127).toNat : Int) = _
  have e1 : BitVec.ofInt 64 (n : Int) = BitVec.ofNat 64 n := by simp
  have e2 : BitVec.ofInt 64 (127 : Int) = BitVec.ofNat 64 127 := by simp
  rw [e1, e2]
  have e3 : (BitVec.ofNat 64 n &&& BitVec.ofNat 64 127).toNat = n % 128 := by
    rw [BitVec.toNat_and]
    simp only [BitVec.toNat_ofNat]
    rw [Nat.mod_eq_of_lt (a := n) (by omega)]
    exact Nat.and_two_pow_sub_one_eq_mod n 7
  rw [e3]
  exact w64_nat (by omega)
theorem orv128 {n : Nat} (h : n < 128) : orv .i64 n 128 = ((n + 128 : Nat) : Int) := by
  show IntKind.i64.wrap ((BitVec.ofInt 64 (n : Int) ||| BitVec.ofInt 64 128).toNat : Int) = _
  have e1 : BitVec.ofInt 64 (n : Int) = BitVec.ofNat 64 n := by simp
  have e2 : BitVec.ofInt 64 (128 : Int) = BitVec.ofNat 64 128 := by simp
  rw [e1, e2]
  have e3 : (BitVec.ofNat 64 n ||| BitVec.ofNat 64 128).toNat = n + 128 := by
    rw [BitVec.toNat_or]
    simp only [BitVec.toNat_ofNat]
    rw [Nat.mod_eq_of_lt (a := n) (by omega)]
    have := Nat.two_pow_add_eq_or_of_lt (i := 7) (b := n) (by omega) 1
    rw [Nat.or_comm] at this
    simp at this ⊢
    omega
  rw [e3]
  exact w64_nat (by omega)
theorem andv1 {n : Nat} (h' : n < 4294967296) : andv .u32 n 1 = ((n % 2 : Nat) : Int) := by
  show IntKind.u32.wrap ((BitVec.ofInt 32 (n : Int) &&& BitVec.ofInt 32 1).toNat : Int) = _
  have e1 : BitVec.ofInt 32 (n : Int) = BitVec.ofNat 32 n := by simp
  have e2 : BitVec.ofInt 32 (1 : Int) = BitVec.ofNat 32 1 := by simp
  rw [e1, e2]
  have e3 : (BitVec.ofNat 32 n &&& BitVec.ofNat 32 1).toNat = n % 2 := by
    rw [BitVec.toNat_and]
    simp only [BitVec.toNat_ofNat]
    rw [Nat.mod_eq_of_lt (a := n) (by omega)]
    exact Nat.and_two_pow_sub_one_eq_mod n 1
  rw [e3, u32_wrap]
  omega
theorem shrv7 (n : Int) : shrv .i64 n 7 = n / 128 := by
  unfold shrv
  rw [Int.fdiv_eq_ediv_of_nonneg _ (by decide)]
  rfl
theorem shrv1 (n : Int) : shrv .u32 n 1 = n / 2 := by
  unfold shrv
  rw [Int.fdiv_eq_ediv_of_nonneg _ (by decide)]
  rfl

/-! ### numbers as words -/
def vtl (n : Nat) : List Int := if h : 127 < n then ((n % 128 + 128 : Nat) : Int) :: vtl (n / 128) else [(n : Int)]
  termination_by n
  decreasing_by omega
theorem vtl_big {n : Nat} (h : 127 < n) : vtl n = ((n % 128 + 128 : Nat) : Int) :: vtl (n / 128) := by rw [vtl, dif_pos h]
theorem vtl_small {n : Nat} (h : n ≤ 127) : vtl n = [(n : Int)] := by rw [vtl, dif_neg (by omega)]
theorem vtl_len : ∀ (k n : Nat), n < 128 ^ k → (vtl n).length ≤ k + 1
  | 0, n, h => by rw [vtl_small (by simp at h; omega)]; simp
  | k + 1, n, h => by
    by_cases hb : 127 < n
    · rw [vtl_big hb]
      have := vtl_len k (n / 128) (by rw [Nat.pow_succ] at h; exact Nat.div_lt_of_lt_mul (by rw [Nat.mul_comm]; exact h))
      simp; omega
    · rw [vtl_small (by omega)]; simp
theorem vtl_len10 {n : Nat} (h : n < 9223372036854775808) : (vtl n).length ≤ 11 := vtl_len 10 n (Nat.lt_trans h (by decide))


/-- The loop that both have: what is left, and what was laid. -/
theorem var_loop {step : Int × List Int → Option ((Int × List Int) ⊕ (Int × List Int))}
    (hbig : ∀ (n : Nat) out, 127 < n → n < 9223372036854775808 → out.length ≤ 1000 → step ((n : Int), out) = some (.inl (((n / 128 : Nat) : Int), out ++ [((n % 128 + 128 : Nat) : Int)])))
    (hsmall : ∀ (n : Int) out, n ≤ 127 → step (n, out) = some (.inr (n, out))) :
    ∀ (n : Nat) (out : List Int), n < 9223372036854775808 → out.length + 11 ≤ 1000 → ∃ (m : Nat) (o : List Int), iter step ((n : Int), out) = some ((m : Int), o) ∧ m ≤ 127 ∧ o ++ [(m : Int)] = out ++ vtl n ∧ o.length ≤ 1000 := by
  have key : ∀ (k n : Nat) (out : List Int), n < 128 ^ k → n < 9223372036854775808 → out.length + k ≤ 1000 → ∃ (m : Nat) (o : List Int), iter step ((n : Int), out) = some ((m : Int), o) ∧ m ≤ 127 ∧ o ++ [(m : Int)] = out ++ vtl n ∧ o.length ≤ 1000 := by
    intro k
    induction k with
    | zero =>
      intro n out hk hn ho
      have h1 : n ≤ 127 := by simp at hk; omega
      exact ⟨n, out, iter_done (hsmall n out (by omega)), h1, by rw [vtl_small h1], by omega⟩
    | succ k ih =>
      intro n out hk hn ho
      by_cases hb : 127 < n
      · obtain ⟨m, o, h1, h2, h3, h4⟩ := ih (n / 128) (out ++ [((n % 128 + 128 : Nat) : Int)]) (by rw [Nat.pow_succ] at hk; exact Nat.div_lt_of_lt_mul (by rw [Nat.mul_comm]; exact hk)) (by omega) (by simp; omega)
        refine ⟨m, o, ?_, h2, ?_, h4⟩
        · rw [iter_next (hbig n out hb hn (by omega))]; exact h1
        · rw [h3, vtl_big hb]; simp
      · exact ⟨n, out, iter_done (hsmall n out (by omega)), by omega, by rw [vtl_small (by omega)], by omega⟩
  intro n out hn ho
  exact key 11 n out (Nat.lt_trans hn (by decide)) hn ho

def vt (n : Int) : List UInt8 := if 0 ≤ n then (vtl n.toNat).map ofI else [ofI (n % 256)]

theorem spec_var {n : Int} (h : -9223372036854775808 ≤ n) (h' : n < 9223372036854775808) : F_spec_l01Var n = some (vt n) := by
  have hsmall : ∀ (n : Int) out, n ≤ 127 → S_spec_l01Var_1 (n, out) = some (.inr (n, out)) := by
    intro n out hn
    unfold S_spec_l01Var_1
    simp [show ¬ n > 127 by omega]
  unfold F_spec_l01Var vt
  by_cases h0 : 0 ≤ n
  · obtain ⟨m, rfl⟩ : ∃ m : Nat, n = m := ⟨n.toNat, by omega⟩
    obtain ⟨m', o, h1, h2, h3, h4⟩ := var_loop (step := S_spec_l01Var_1) (by
      intro n out hb hn ho
      unfold S_spec_l01Var_1
      have e1 : w64 (Int.tmod (n : Int) 128 + 128) = ((n % 128 + 128 : Nat) : Int) := by
        rw [Int.tmod_eq_emod_of_nonneg (by omega), w64_id (by omega) (by omega)]; omega
      have e2 : w64 (Int.tdiv (n : Int) 128) = ((n / 128 : Nat) : Int) := by
        rw [Int.tdiv_eq_ediv_of_nonneg (by omega), w64_id (by omega) (by omega)]; omega
      have e3 : IntKind.u8.wrap ((n % 128 + 128 : Nat) : Int) = ((n % 128 + 128 : Nat) : Int) := by rw [u8_wrap]; omega
      simp only [show decide ((n : Int) > 127) = true from by simp; omega, if_true, e1, e2, e3]
      rw [app?_ok (by simp; omega) (by simp; omega)]
      rfl) hsmall m [] (by omega) (by simp)
    rw [if_pos h0, h1]
    simp only [Option.bind_some]
    rw [app?_ok (by simp; omega) (by simp; omega)]
    simp only [Option.bind_some, u8_wrap]
    rw [show ((m' : Int) % 256) = m' by omega, h3]
    simp
  · rw [if_neg h0, iter_done (hsmall n [] (by omega))]
    simp only [Option.bind_some]
    rw [app?_ok (by simp) (by simp)]
    simp [u8_wrap]
theorem impl_var {n : Int} (h : -9223372036854775808 ≤ n) (h' : n < 9223372036854775808) : F_impl_varText n = some (vt n) := by
  have hsmall : ∀ (n : Int) out, n ≤ 127 → S_impl_varText_1 (n, out) = some (.inr (n, out)) := by
    intro n out hn
    unfold S_impl_varText_1
    simp [show ¬ n > 127 by omega]
  unfold F_impl_varText vt
  by_cases h0 : 0 ≤ n
  · obtain ⟨m, rfl⟩ : ∃ m : Nat, n = m := ⟨n.toNat, by omega⟩
    obtain ⟨m', o, h1, h2, h3, h4⟩ := var_loop (step := S_impl_varText_1) (by
      intro n out hb hn ho
      unfold S_impl_varText_1
      have e1 : orv .i64 (andv .i64 (n : Int) 127) 128 = ((n % 128 + 128 : Nat) : Int) := by
        rw [andv127 hn, orv128 (by omega)]
      have e2 : shrv .i64 (n : Int) 7 = ((n / 128 : Nat) : Int) := by rw [shrv7]; omega
      have e3 : IntKind.u8.wrap ((n % 128 + 128 : Nat) : Int) = ((n % 128 + 128 : Nat) : Int) := by rw [u8_wrap]; omega
      simp only [show decide ((n : Int) > 127) = true from by simp; omega, if_true, e1, e2, e3]
      rw [app?_ok (by simp; omega) (by simp; omega)]
      rfl) hsmall m [] (by omega) (by simp)
    rw [if_pos h0, h1]
    simp only [Option.bind_some]
    rw [app?_ok (by simp; omega) (by simp; omega)]
    simp only [Option.bind_some, u8_wrap]
    rw [show ((m' : Int) % 256) = m' by omega, h3]
    simp
  · rw [if_neg h0, iter_done (hsmall n [] (by omega))]
    simp only [Option.bind_some]
    rw [app?_ok (by simp) (by simp)]
    simp [u8_wrap]
theorem vt_len {n : Int} (h' : n < 9223372036854775808) : (vt n).length ≤ 11 := by
  unfold vt
  split
  · simp; exact vtl_len10 (by omega)
  · simp
end Go.Proofs.Ytgdcbjoaoagbpaa.V
/- Sums, words, what a record must be. -/
namespace Go.Proofs.Ytgdcbjoaoagbpaa.V
open Go Go.RowKit

/-! ### sums -/
def sumBit (n : Nat) : Nat := if n % 2 = 1 then (xorv .u32 ((n / 2 : Nat) : Int) 3558460437).toNat else n / 2
theorem xorv_range (x y : Int) : 0 ≤ xorv .u32 x y ∧ xorv .u32 x y < 4294967296 := by
  unfold xorv
  rw [u32_wrap]
  omega
theorem sumBit_lt {n : Nat} (h : n < 4294967296) : sumBit n < 4294967296 := by
  unfold sumBit
  have := xorv_range ((n / 2 : Nat) : Int) 3558460437
  split <;> omega
def iterK {α : Type} (f : α → α) : Nat → α → α
  | 0, a => a
  | k + 1, a => f (iterK f k a)
theorem iterK_lt (k : Nat) {n : Nat} (h : n < 4294967296) : iterK sumBit k n < 4294967296 := by
  induction k with
  | zero => exact h
  | succ k ih => exact sumBit_lt ih
theorem spec_sum2 {n : Nat} (h : n < 4294967296) : iter S_spec_SumMore_2 ((n : Int), 0) = some ((iterK sumBit 8 n : Nat) : Int) := by
  refine iter_range (fun k => (((iterK sumBit k n : Nat) : Int), (k : Int))) 8 ?_ ?_
  · intro k hk
    have hl := iterK_lt k h
    unfold S_spec_SumMore_2
    have e0 : w64 ((k : Int) + 1) = ((k + 1 : Nat) : Int) := w64_succ (by omega)
    generalize hm : iterK sumBit k n = m at hl
    have e1 : IntKind.u32.wrap (Int.tdiv (m : Int) 2) = ((m / 2 : Nat) : Int) := by
      rw [u32_wrap, Int.tdiv_eq_ediv_of_nonneg (by omega)]; omega
    have e2 : Int.tmod (m : Int) 2 = ((m % 2 : Nat) : Int) := by rw [Int.tmod_eq_emod_of_nonneg (by omega)]; omega
    simp only [show decide ((k : Int) < 8) = true from by simp; omega, if_true, e0, e1, e2]
    have e3 : iterK sumBit (k + 1) n = sumBit m := by simp [iterK, hm]
    rw [e3]
    unfold sumBit
    by_cases hb : m % 2 = 1
    · have := xorv_range ((m / 2 : Nat) : Int) 3558460437
      simp only [hb, if_true]
      rw [if_pos (by simp)]
      congr 3
    · rw [if_neg (by simp; omega), if_neg hb]
  · unfold S_spec_SumMore_2
    simp
theorem impl_sum2 {n : Nat} (h : n < 4294967296) : iter S_impl_SumMore_2 ((n : Int), 0) = some ((iterK sumBit 8 n : Nat) : Int) := by
  refine iter_range (fun k => (((iterK sumBit k n : Nat) : Int), (k : Int))) 8 ?_ ?_
  · intro k hk
    have hl := iterK_lt k h
    unfold S_impl_SumMore_2
    have e0 : w64 ((k : Int) + 1) = ((k + 1 : Nat) : Int) := w64_succ (by omega)
    generalize hm : iterK sumBit k n = m at hl
    have e1 : shrv .u32 (m : Int) 1 = ((m / 2 : Nat) : Int) := by rw [shrv1]; omega
    have e2 : andv .u32 (m : Int) 1 = ((m % 2 : Nat) : Int) := andv1 hl
    simp only [show decide ((k : Int) < 8) = true from by simp; omega, if_true, e0, e1, e2]
    have e3 : iterK sumBit (k + 1) n = sumBit m := by simp [iterK, hm]
    rw [e3]
    unfold sumBit
    by_cases hb : m % 2 = 1
    · have := xorv_range ((m / 2 : Nat) : Int) 3558460437
      simp only [hb, if_true]
      rw [if_pos (by simp)]
      congr 3
    · rw [if_neg (by simp; omega), if_neg hb]
  · unfold S_impl_SumMore_2
    simp
def sumB (n : Nat) (c : UInt8) : Nat := iterK sumBit 8 (xorv .u32 (n : Int) (c.toNat : Int)).toNat
def sumL (n : Nat) (s : List UInt8) : Nat := s.foldl sumB n
theorem sum_loop {step : List UInt8 → Int × Int → Option ((Int × Int) ⊕ Int)} {s : List UInt8} (hs : s.length < 9223372036854775807) {n : Nat}
    (h1 : ∀ (m i : Nat) (h : i < s.length), step s ((m : Int), (i : Int)) = some (.inl ((sumB m s[i] : Nat), ((i + 1 : Nat) : Int))))
    (h2 : ∀ m : Nat, step s ((m : Int), (s.length : Int)) = some (.inr (m : Int))) : iter (step s) ((n : Int), 0) = some ((sumL n s : Nat) : Int) := by
  refine iter_range (fun i => (((sumL n (s.take i) : Nat) : Int), (i : Int))) s.length ?_ ?_
  · intro i hi
    have e : sumL n (s.take (i + 1)) = sumB (sumL n (s.take i)) s[i] := by
      unfold sumL
      rw [List.take_succ_eq_append_getElem hi, List.foldl_append]
      rfl
    rw [h1 _ i hi, e]
  · rw [List.take_length]; exact h2 _
theorem u8_u32 (c : UInt8) : IntKind.u32.wrap (c.toNat : Int) = c.toNat := by
  rw [u32_wrap]
  have := c.toNat_lt
  omega
theorem spec_sum {s : List UInt8} (hs : s.length < 9223372036854775807) (n : Nat) : F_spec_SumMore (n : Int) s = some ((sumL n s : Nat) : Int) := by
  unfold F_spec_SumMore
  rw [sum_loop (step := S_spec_SumMore_1) hs]
  · rfl
  · intro m i hi
    unfold S_spec_SumMore_1
    simp only [show decide ((i : Int) < (s.length : Int)) = true from by simp; omega, if_true, bt?_nat hi, Option.bind_some, u8_u32, w64_succ (show i < 9223372036854775807 by omega)]
    have hx := xorv_range (m : Int) ((s[i]).toNat : Int)
    have : xorv .u32 (m : Int) ((s[i]).toNat : Int) = ((xorv .u32 (m : Int) ((s[i]).toNat : Int)).toNat : Int) := by omega
    rw [this, spec_sum2 (by omega)]
    rfl
  · intro m
    unfold S_spec_SumMore_1
    simp
theorem impl_sum {s : List UInt8} (hs : s.length < 9223372036854775807) (n : Nat) : F_impl_SumMore (n : Int) s = some ((sumL n s : Nat) : Int) := by
  unfold F_impl_SumMore
  rw [sum_loop (step := S_impl_SumMore_1) hs]
  · rfl
  · intro m i hi
    unfold S_impl_SumMore_1
    simp only [show decide ((i : Int) < (s.length : Int)) = true from by simp; omega, if_true, bt?_nat hi, Option.bind_some, u8_u32, w64_succ (show i < 9223372036854775807 by omega)]
    have hx := xorv_range (m : Int) ((s[i]).toNat : Int)
    have : xorv .u32 (m : Int) ((s[i]).toNat : Int) = ((xorv .u32 (m : Int) ((s[i]).toNat : Int)).toNat : Int) := by omega
    rw [this, impl_sum2 (by omega)]
    rfl
  · intro m
    unfold S_impl_SumMore_1
    simp
def four (n : Int) : List UInt8 := [IntKind.u8.wrap (shrv .u32 n 24), IntKind.u8.wrap (shrv .u32 n 16), IntKind.u8.wrap (shrv .u32 n 8), IntKind.u8.wrap n].map ofI
def sealL (s : List UInt8) : List UInt8 := four (sumL 4294967295 s : Nat)
theorem sealL_len (s : List UInt8) : (sealL s).length = 4 := rfl
theorem spec_sumOf {s : List UInt8} (hs : s.length < 9223372036854775807) : F_spec_SumOf s = some ((sumL 4294967295 s : Nat) : Int) := by
  unfold F_spec_SumOf
  have := spec_sum hs 4294967295
  rw [show (4294967295 : Int) = ((4294967295 : Nat) : Int) from rfl, this]; rfl
theorem impl_sumOf {s : List UInt8} (hs : s.length < 9223372036854775807) : F_impl_SumOf s = some ((sumL 4294967295 s : Nat) : Int) := by
  unfold F_impl_SumOf
  have := impl_sum hs 4294967295
  rw [show (4294967295 : Int) = ((4294967295 : Nat) : Int) from rfl, this]; rfl
theorem spec_four (n : Int) : F_spec_l02Four n = some (four n) := rfl
theorem impl_seal {s : List UInt8} (hs : s.length < 9223372036854775807) : F_impl_seal s = some (sealL s) := by
  unfold F_impl_seal
  rw [impl_sumOf hs]; rfl
def sealed (s : List UInt8) : List UInt8 × Bool := if 20000 < s.length then ([], false) else (s ++ sealL s, true)
theorem spec_sealed {s : List UInt8} (hs : s.length < 9223372036854775807) : F_spec_Sealed s = some (sealed s) := by
  unfold F_spec_Sealed sealed
  by_cases h : 20000 < s.length
  · rw [if_pos (by simp; omega), if_pos h]
  · rw [if_neg (by simp; omega), if_neg h, spec_sumOf hs]
    simp only [Option.bind_some, spec_four]
    rw [cat?_ok (by show s.length + 4 ≤ _; omega)]
    rfl

/-! ### words -/
def inR (n lo hi : Int) : Bool := decide (lo ≤ n) && decide (n ≤ hi)
theorem spec_in (n lo hi : Int) : F_spec_l01In n lo hi = some (inR n lo hi) := by
  unfold F_spec_l01In inR
  by_cases h : lo ≤ n <;> simp [h]
theorem impl_in (n lo hi : Int) : F_impl_in n lo hi = some (inR n lo hi) := by
  unfold F_impl_in inR
  by_cases h : lo ≤ n <;> simp [h]
theorem iter_all {σ ρ : Type} {step : σ → Option (σ ⊕ ρ)} (st : Nat → σ) (n : Nat) (p : Nat → Bool) {bad good : ρ} (h1 : ∀ i, i < n → p i = true → step (st i) = some (.inl (st (i + 1)))) (h2 : ∀ i, i < n → p i = false → step (st i) = some (.inr bad)) (he : step (st n) = some (.inr good)) :
    iter step (st 0) = some (if (List.range n).all p then good else bad) := by
  have key : ∀ d i, i + d = n → iter step (st i) = some (if ((List.range n).drop i).all p then good else bad) := by
    intro d
    induction d with
    | zero =>
      intro i hi
      have : i = n := by omega
      subst this
      rw [iter_done he, List.drop_eq_nil_of_le (by simp)]; simp
    | succ d ih =>
      intro i hi
      have hd : (List.range n).drop i = i :: (List.range n).drop (i + 1) := by
        rw [List.drop_eq_getElem_cons (by simp; omega)]; simp
      rw [hd]
      cases hp : p i with
      | true => rw [iter_next (h1 i (by omega) hp), ih (i + 1) (by omega)]; simp [hp]
      | false => rw [iter_done (h2 i (by omega) hp)]; simp [hp]
  simpa using key n 0 (by omega)
end Go.Proofs.Ytgdcbjoaoagbpaa.V
/- What a record must be, and its text; frames. -/
namespace Go.Proofs.Ytgdcbjoaoagbpaa.V
open Go Go.RowKit



end Go.Proofs.Ytgdcbjoaoagbpaa.V
/- The text of a record; frames; sizes. -/
namespace Go.Proofs.Ytgdcbjoaoagbpaa.V
open Go Go.RowKit

def short (s : List UInt8) : List UInt8 := vt s.length ++ s
theorem spec_short {s : List UInt8} (h : s.length ≤ 1048576) : F_spec_l06Short s = some (short s) := by
  unfold F_spec_l06Short
  have := vt_len (n := s.length) (by omega)
  rw [spec_var (by omega) (by omega), Option.bind_some, cat?_ok (by omega)]
  rfl
end Go.Proofs.Ytgdcbjoaoagbpaa.V
/- What the statements' own functions need: loops over lists. -/
namespace Go.Proofs.Ytgdcbjoaoagbpaa.V
open Go Go.RowKit

theorem iter_ex {σ ρ : Type} {step : σ → Option (σ ⊕ ρ)} (n : Nat) (I : Nat → σ → Prop) (Q : ρ → Prop) (h : ∀ i s, i < n → I i s → (∃ s', step s = some (.inl s') ∧ I (i + 1) s') ∨ ∃ r, step s = some (.inr r) ∧ Q r) (he : ∀ s, I n s → ∃ r, step s = some (.inr r) ∧ Q r) : ∀ s, I 0 s → ∃ r, iter step s = some r ∧ Q r := by
  have key : ∀ d i s, i + d = n → I i s → ∃ r, iter step s = some r ∧ Q r := by
    intro d
    induction d with
    | zero =>
      intro i s hi hs
      have : i = n := by omega
      subst this
      obtain ⟨r, h1, h2⟩ := he s hs
      exact ⟨r, iter_done h1, h2⟩
    | succ d ih =>
      intro i s hi hs
      rcases h i s (by omega) hs with ⟨s', h1, h2⟩ | ⟨r, h1, h2⟩
      · obtain ⟨r, h3, h4⟩ := ih (i + 1) s' (by omega) h2
        exact ⟨r, by rw [iter_next h1]; exact h3, h4⟩
      · exact ⟨r, iter_done h1, h2⟩
  exact fun s hs => key n 0 s (by omega) hs

theorem set'_nat {α : Type} {l : List α} {i : Nat} {x : α} : set' l (i : Int) x = l.set i x := by simp [set']
theorem at?_set {α : Type} {l : List α} {i : Nat} {x : α} (h : i < l.length) : at? (l.set i x) (i : Int) = some x := by
  rw [at?_nat (by simpa using h)]; simp
theorem at?_eq {α : Type} {l : List α} {i : Nat} {x : α} (h : l[i]? = some x) : at? l (i : Int) = some x := by
  obtain ⟨h1, rfl⟩ := List.getElem?_eq_some_iff.1 h
  exact at?_nat h1
theorem dlt {i : Nat} {n : Nat} (h : i < n) : decide ((i : Int) < (n : Int)) = true := by simpa using h

/-- Copied one by one. -/
theorem to_loop {α : Type} {l : List α} {z : α} {step : Int × List α → Option ((Int × List α) ⊕ List α)} (hl : l.length < 9223372036854775807)
    (h1 : ∀ (i : Nat) (h : i < l.length) (m : List α), m.length = l.length → step ((i : Int), m) = some (.inl (((i + 1 : Nat) : Int), m.set i l[i])))
    (h2 : ∀ m : List α, step ((l.length : Int), m) = some (.inr m)) : iter step (0, List.replicate l.length z) = some l := by
  have := iter_range (step := step) (fun i => ((i : Int), l.take i ++ List.replicate (l.length - i) z)) l.length (r := l) ?_ ?_
  · simpa using this
  · intro i hi
    rw [h1 i hi _ (by simp; omega)]
    have e : (l.take i ++ List.replicate (l.length - i) z).set i l[i] = l.take (i + 1) ++ List.replicate (l.length - (i + 1)) z := by
      have e1 : l.length - i = (l.length - (i + 1)) + 1 := by omega
      have e2 : (l.take i).length = i := by simp; omega
      rw [e1, List.replicate_succ, List.set_append_right _ _ (by omega), e2, Nat.sub_self, List.set_cons_zero, List.take_succ_eq_append_getElem hi, List.append_assoc]
      rfl
    rw [e]
  · simp [h2]
/-- Marked one by one: what stands at a place tells the place. -/
theorem mark_loop {α : Type} {l : List α} {k m0 : Nat} {g : Nat → α → α} {step : Int × Int × List α → Option ((Int × Int × List α) ⊕ (Int × List α))}
    (h1 : ∀ (i m : Nat) (l' : List α) (h : i < l'.length), i < l.length → m = m0 + k * i → step ((m : Int), (i : Int), l') = some (.inl (((m + k : Nat) : Int), ((i + 1 : Nat) : Int), l'.set i (g m l'[i]))))
    (h2 : ∀ (m : Nat) (l' : List α), l'.length = l.length → step ((m : Int), (l.length : Int), l') = some (.inr ((m : Int), l'))) :
    iter step ((m0 : Int), 0, l) = some (((m0 + k * l.length : Nat) : Int), l.mapIdx fun i x => g (m0 + k * i) x) := by
  have := iter_range (step := step) (fun i => (((m0 + k * i : Nat) : Int), (i : Int), (l.take i).mapIdx (fun i x => g (m0 + k * i) x) ++ l.drop i)) l.length (r := (((m0 + k * l.length : Nat) : Int), l.mapIdx fun i x => g (m0 + k * i) x)) ?_ ?_
  · simpa using this
  · intro i hi
    have hlen : i < ((l.take i).mapIdx (fun i x => g (m0 + k * i) x) ++ l.drop i).length := by simp; omega
    rw [h1 i _ _ hlen hi rfl]
    have e0 : ((l.take i).mapIdx (fun i x => g (m0 + k * i) x)).length = i := by simp; omega
    have e1 : ((l.take i).mapIdx (fun i x => g (m0 + k * i) x) ++ l.drop i)[i] = l[i] := by
      rw [List.getElem_append_right (by omega)]
      simp [e0]
    have e : ((l.take i).mapIdx (fun i x => g (m0 + k * i) x) ++ l.drop i).set i (g (m0 + k * i) l[i]) = (l.take (i + 1)).mapIdx (fun i x => g (m0 + k * i) x) ++ l.drop (i + 1) := by
      rw [List.set_append_right _ _ (by omega), e0, Nat.sub_self, List.drop_eq_getElem_cons hi, List.set_cons_zero, List.take_succ_eq_append_getElem hi, List.mapIdx_append]
      have : (l.take i).length = i := by simp; omega
      simp [this]
    rw [e1, e, Nat.mul_succ, Nat.add_assoc]
  · rw [h2 _ _ (by simp)]
    simp
theorem held_loop {α : Type} {l : List α} {k m0 : Nat} {ρ : Type} {r : Int → ρ} {g : Nat → α → α} {step : Int × Int → Option ((Int × Int) ⊕ ρ)}
    (h1 : ∀ (i m : Nat) (h : i < l.length), m = m0 + k * i → step ((m : Int), (i : Int)) = some (.inl (((m + k : Nat) : Int), ((i + 1 : Nat) : Int))))
    (h2 : ∀ (m : Nat), step ((m : Int), (l.length : Int)) = some (.inr (r (m : Int)))) :
    iter step ((m0 : Int), 0) = some (r ((m0 + k * l.length : Nat) : Int)) := by
  refine iter_range (step := step) (fun i => (((m0 + k * i : Nat) : Int), (i : Int))) l.length (r := r ((m0 + k * l.length : Nat) : Int)) ?_ ?_
  · intro i hi
    rw [h1 i _ hi rfl, Nat.mul_succ, Nat.add_assoc]
  · exact h2 _
/-! ### marks of what holds lists -/
theorem mk?_ok {α : Type} {byt : Nat} {z : α} {n : Nat} (h : n ≤ 1099511627776) (h2 : n * byt ≤ 140737488355328) : mk? byt z (n : Int) = some (List.replicate n z) := by
  unfold mk?
  have h3 : ((n * byt : Nat) : Int) ≤ 140737488355328 := by omega
  rw [if_pos ⟨by omega, by rw [Int.mul_comm]; rw [Int.natCast_mul] at h3; exact h3, by omega⟩]; simp
/-- A scan that ends where something is found. -/
theorem any_loop {α ρ : Type} {l : List α} {k : Nat} (hk : k ≤ l.length) {q : α → Bool} {step : Int → Option (Int ⊕ ρ)} {bad good : ρ} (h1 : ∀ (i : Nat) (h : i < l.length), i < k → step (i : Int) = if q l[i] then some (.inr bad) else some (.inl ((i + 1 : Nat) : Int))) (h2 : step (k : Int) = some (.inr good)) : iter step 0 = some (if (l.take k).any q then bad else good) := by
  have key : ∀ d i, i + d = k → iter step (i : Int) = some (if ((l.take k).drop i).any q then bad else good) := by
    intro d
    induction d with
    | zero => intro i hi; have : i = k := by omega
              subst this; rw [iter_done h2, List.drop_eq_nil_of_le (by simp; omega)]; simp
    | succ d ih =>
      intro i hi
      have hd : (l.take k).drop i = l[i] :: (l.take k).drop (i + 1) := by
        rw [List.drop_eq_getElem_cons (by simp; omega)]; simp
      rw [hd, List.any_cons]
      have hs := h1 i (by omega) (by omega)
      cases hq : q l[i] with
      | true => rw [hq] at hs; rw [iter_done hs]; simp
      | false => rw [hq] at hs; rw [iter_next hs, ih (i + 1) (by omega)]; simp
  simpa using key k 0 (by omega)
theorem idx_loop {α : Type} {l : List α} {q : α → Bool} {step : Int → Option (Int ⊕ (Int ⊕ Unit))} (h1 : ∀ (i : Nat) (h : i < l.length), step (i : Int) = if q l[i] then some (.inr (.inl (i : Int))) else some (.inl ((i + 1 : Nat) : Int))) (h2 : step (l.length : Int) = some (.inr (.inr ()))) : iter step 0 = some (match l.findIdx? q with | some i => .inl (i : Int) | none => .inr ()) := by
  have key : ∀ d i, i + d = l.length → iter step (i : Int) = some (match (l.drop i).findIdx? q with | some j => .inl ((i + j : Nat) : Int) | none => .inr ()) := by
    intro d
    induction d with
    | zero => intro i hi; have : i = l.length := by omega
              subst this; rw [iter_done h2, List.drop_eq_nil_of_le (by simp)]; simp
    | succ d ih =>
      intro i hi
      have hs := h1 i (by omega)
      rw [List.drop_eq_getElem_cons (by omega), List.findIdx?_cons]
      cases hq : q l[i] with
      | true => rw [hq] at hs; rw [iter_done hs]; simp
      | false =>
        rw [hq] at hs; rw [iter_next hs, ih (i + 1) (by omega)]
        cases (l.drop (i + 1)).findIdx? q with
        | none => simp
        | some j => simp; omega
  have := key l.length 0 (by omega)
  simp only [List.drop_zero, Nat.zero_add] at this
  exact this
def idxI : Option Nat → Int
  | some i => i
  | none => -1
theorem idx_any {α : Type} {l : List α} {q : α → Bool} : decide (idxI (l.findIdx? q) ≥ 0) = l.any q := by
  rw [← List.findIdx?_isSome]
  cases l.findIdx? q <;> simp [idxI]
theorem sub?_take {α : Type} {l : List α} {i : Nat} (h : i ≤ l.length) : sub? l 0 (i : Int) = some (l.take i) := by
  unfold sub?
  simp
  omega
end Go.Proofs.Ytgdcbjoaoagbpaa.V
/- The functions that the statements are made of. -/
namespace Go.Proofs.Ytgdcbjoaoagbpaa.V
open Go Go.RowKit
set_option maxRecDepth 100000
def szN_TWrite (x : TWrite) : Nat := x.Text.length
structure Sz_TWrite (x : TWrite) : Prop where
  sText : x.Text.length ≤ 1048576
def szN_TDisk (x : TDisk) : Nat := x.Sectors.length + (x.Sectors.map fun y => y.length).sum + x.Cache.length + (x.Cache.map fun y => szN_TWrite y).sum
structure Sz_TDisk (x : TDisk) : Prop where
  sSectors : x.Sectors.length ≤ 1048576 ∧ ∀ y ∈ x.Sectors, y.length ≤ 1048576
  sCache : x.Cache.length ≤ 1048576 ∧ ∀ y ∈ x.Cache, Sz_TWrite y
structure Sz_TCheck (x : TCheck) : Prop where
  sRefs : x.Refs.length ≤ 1048576

/-! ### the words that mark -/
theorem mt_loop : ∀ (d n : Nat) (out : List UInt8), n < 10 ^ d → n < 4611686018427387904 → out.length + d ≤ 1000 → ∃ o, iter S_laws_markText_1 ((n : Int), out) = some o ∧ o.length ≤ 1000
  | 0, n, out, h, _, h2 => by
    have : n = 0 := by simp at h; omega
    subst this
    exact ⟨out, iter_done (by unfold S_laws_markText_1; simp), by omega⟩
  | d + 1, n, out, h, h1, h2 => by
    by_cases h0 : n = 0
    · subst h0; exact ⟨out, iter_done (by unfold S_laws_markText_1; simp), by omega⟩
    · have hs : S_laws_markText_1 ((n : Int), out) = some (.inl (((n / 10 : Nat) : Int), [ofI (IntKind.u8.wrap (w64 (48 + Int.tmod (n : Int) 10)))] ++ out)) := by
        unfold S_laws_markText_1
        have e2 : w64 (Int.tdiv (n : Int) 10) = ((n / 10 : Nat) : Int) := by
          rw [Int.tdiv_eq_ediv_of_nonneg (by omega), w64_id (by omega) (by omega)]; omega
        simp only [show decide ((n : Int) > 0) = true from by simp; omega, if_true, e2]
        rw [cat?_ok (by simp; omega)]
        rfl
      obtain ⟨o, h3, h4⟩ := mt_loop d (n / 10) ([ofI (IntKind.u8.wrap (w64 (48 + Int.tmod (n : Int) 10)))] ++ out) (by rw [Nat.pow_succ] at h; exact Nat.div_lt_of_lt_mul (by rw [Nat.mul_comm]; exact h)) (by omega) (by simp; omega)
      exact ⟨o, by rw [iter_next hs]; exact h3, h4⟩
noncomputable def mt (n : Nat) : List UInt8 := (F_laws_markText (n : Int)).getD []
theorem p_laws_markText {n : Nat} (h : n < 4611686018427387904) : F_laws_markText (n : Int) = some (mt n) := by
  have : ∃ o, F_laws_markText (n : Int) = some o := by
    unfold F_laws_markText
    by_cases h0 : n = 0
    · subst h0; exact ⟨_, by simp; rfl⟩
    · rw [if_neg (by simp; omega)]
      obtain ⟨o, h1, h2⟩ := mt_loop 19 n [] (Nat.lt_trans h (by decide)) h (by simp)
      rw [h1]
      simp only [Option.bind_some]
      rw [cat?_ok (by simp; omega)]
      exact ⟨_, rfl⟩
  obtain ⟨o, ho⟩ := this
  unfold mt
  rw [ho]; rfl
theorem p_laws_szStringS {x : List (List UInt8)} {n : Int} (w : (x.length ≤ maxLen ∧ ∀ a ∈ x, a.length ≤ maxLen)) (h0 : 0 ≤ n) (h1 : n ≤ 1048576) : ∃ r, F_laws_szStringS x n = some r ∧ r ≤ n ∧ -1 ≤ r ∧ (0 ≤ r → (x.length ≤ 1048576 ∧ ∀ y ∈ x, y.length ≤ 1048576) ∧ r + ((x.length + (x.map fun y => y.length).sum : Nat) : Int) ≤ n) := by
  unfold F_laws_szStringS
  have hw : (x.length : Int) ≤ 9223372036854775807 := by have := w.1; unfold maxLen at this; omega
  have e0 : w64 (n - (x.length : Int)) = n - x.length := w64_id (by omega) (by omega)
  rw [e0]
  by_cases c0 : n - (x.length : Int) < 0
  · rw [if_pos (by simpa using c0)]; exact ⟨-1, rfl, by omega, by omega, fun h => absurd h (by omega)⟩
  rw [if_neg (by simpa using c0)]
  have hl : x.length < 9223372036854775807 := by omega
  have key := iter_ex (step := S_laws_szStringS_1 x) x.length (fun i st => ∃ m : Int, st = (m, (i : Int)) ∧ 0 ≤ m ∧ m + ((((x.take i).map fun y => y.length).sum : Nat) : Int) ≤ n - x.length ∧ ∀ (j : Nat) y, j < i → x[j]? = some y → y.length ≤ 1048576) (fun o : Int ⊕ Int => match o with | .inl r => r = -1 | .inr r => r + x.length + (((x.map fun y => y.length).sum : Nat) : Int) ≤ n ∧ 0 ≤ r ∧ ∀ y ∈ x, y.length ≤ 1048576) ?_ ?_ (n - x.length, 0) ⟨_, rfl, by omega, by simp, by simp⟩
  · obtain ⟨r, h2, h3⟩ := key
    rw [h2]
    cases r with
    | inl r => simp only at h3; subst h3; exact ⟨-1, rfl, by omega, by omega, fun h => absurd h (by omega)⟩
    | inr r => exact ⟨r, rfl, by have := h3.1; omega, by have := h3.2.1; omega, fun _ => ⟨⟨by have := h3.1; omega, h3.2.2⟩, by have := h3.1; omega⟩⟩
  · rintro i _ hi ⟨m, rfl, hm0, hm1, hj⟩
    have hsum : ((x.take (i + 1)).map fun y => y.length).sum = ((x.take i).map fun y => y.length).sum + ((x[i]).length) := by rw [List.take_succ_eq_append_getElem hi, List.map_append, List.sum_append]; simp
    unfold S_laws_szStringS_1
    simp only [dlt hi, if_true, at?_nat hi, Option.bind_some, w64_succ (show i < 9223372036854775807 by omega)]
    have hs : (x[i].length : Int) ≤ 9223372036854775807 := by have := w.2 _ (List.getElem_mem hi); unfold maxLen at this; omega
    have e1 : w64 (m - (x[i].length : Int)) = m - x[i].length := w64_id (by omega) (by omega)
    simp only [e1]; generalize hr : m - (x[i].length : Int) = r
    have h3 : r ≤ m := by omega
    have h5 : 0 ≤ r → x[i].length ≤ 1048576 ∧ r + ((x[i].length : Nat) : Int) ≤ m := by omega
    by_cases c1 : r < 0
    · exact .inr ⟨.inl (-1), by simp [c1], rfl⟩
    have h6 := h5 (by omega)
    refine .inl ⟨(r, ((i + 1 : Nat) : Int)), by simp [c1], r, rfl, by omega, by rw [hsum]; have := h6.2; omega, ?_⟩
    intro j y hj1 hj2
    by_cases e : j = i
    · subst e; rw [List.getElem?_eq_getElem hi] at hj2; cases hj2; exact h6.1
    · exact hj j y (by omega) hj2
  · rintro _ ⟨m, rfl, hm0, hm1, hj⟩
    rw [List.take_length] at hm1
    refine ⟨.inr m, by unfold S_laws_szStringS_1; simp, by show m + _ + _ ≤ n; omega, hm0, fun y hy => ?_⟩
    obtain ⟨j, hj2⟩ := List.getElem?_of_mem hy
    exact hj j y (List.getElem?_eq_some_iff.1 hj2).1 hj2
theorem p_laws_szWrite {x : TWrite} {n : Int} (w : wf_TWrite x) (h0 : 0 ≤ n) (h1 : n ≤ 1048576) : ∃ r, F_laws_szWrite x n = some r ∧ r ≤ n ∧ -1 ≤ r ∧ (0 ≤ r → (Sz_TWrite x) ∧ r + ((szN_TWrite x : Nat) : Int) ≤ n) := by
  unfold F_laws_szWrite
  have hw1 : (x.Text.length : Int) ≤ 9223372036854775807 := by have := w.2.1; unfold maxLen at this; omega
  have e1 : w64 (n - (x.Text.length : Int)) = n - x.Text.length := w64_id (by omega) (by omega)
  simp only [e1]
  generalize hr1 : n - (x.Text.length : Int) = r1
  by_cases c1 : r1 < 0
  · rw [if_pos (by simpa using c1)]; exact ⟨-1, rfl, by omega, by omega, fun h => absurd h (by omega)⟩
  rw [if_neg (by simpa using c1)]
  exact ⟨_, rfl, by omega, by omega, fun _ => ⟨⟨by omega⟩, by unfold szN_TWrite; omega⟩⟩
theorem p_laws_szWriteS {x : List TWrite} {n : Int} (w : (x.length ≤ maxLen ∧ ∀ a ∈ x, wf_TWrite a)) (h0 : 0 ≤ n) (h1 : n ≤ 1048576) : ∃ r, F_laws_szWriteS x n = some r ∧ r ≤ n ∧ -1 ≤ r ∧ (0 ≤ r → (x.length ≤ 1048576 ∧ ∀ y ∈ x, Sz_TWrite y) ∧ r + ((x.length + (x.map fun y => szN_TWrite y).sum : Nat) : Int) ≤ n) := by
  unfold F_laws_szWriteS
  have hw : (x.length : Int) ≤ 9223372036854775807 := by have := w.1; unfold maxLen at this; omega
  have e0 : w64 (n - (x.length : Int)) = n - x.length := w64_id (by omega) (by omega)
  rw [e0]
  by_cases c0 : n - (x.length : Int) < 0
  · rw [if_pos (by simpa using c0)]; exact ⟨-1, rfl, by omega, by omega, fun h => absurd h (by omega)⟩
  rw [if_neg (by simpa using c0)]
  have hl : x.length < 9223372036854775807 := by omega
  have key := iter_ex (step := S_laws_szWriteS_1 x) x.length (fun i st => ∃ m : Int, st = (m, (i : Int)) ∧ 0 ≤ m ∧ m + ((((x.take i).map fun y => szN_TWrite y).sum : Nat) : Int) ≤ n - x.length ∧ ∀ (j : Nat) y, j < i → x[j]? = some y → Sz_TWrite y) (fun o : Int ⊕ Int => match o with | .inl r => r = -1 | .inr r => r + x.length + (((x.map fun y => szN_TWrite y).sum : Nat) : Int) ≤ n ∧ 0 ≤ r ∧ ∀ y ∈ x, Sz_TWrite y) ?_ ?_ (n - x.length, 0) ⟨_, rfl, by omega, by simp, by simp⟩
  · obtain ⟨r, h2, h3⟩ := key
    rw [h2]
    cases r with
    | inl r => simp only at h3; subst h3; exact ⟨-1, rfl, by omega, by omega, fun h => absurd h (by omega)⟩
    | inr r => exact ⟨r, rfl, by have := h3.1; omega, by have := h3.2.1; omega, fun _ => ⟨⟨by have := h3.1; omega, h3.2.2⟩, by have := h3.1; omega⟩⟩
  · rintro i _ hi ⟨m, rfl, hm0, hm1, hj⟩
    have hsum : ((x.take (i + 1)).map fun y => szN_TWrite y).sum = ((x.take i).map fun y => szN_TWrite y).sum + (szN_TWrite (x[i])) := by rw [List.take_succ_eq_append_getElem hi, List.map_append, List.sum_append]; simp
    unfold S_laws_szWriteS_1
    simp only [dlt hi, if_true, at?_nat hi, Option.bind_some, w64_succ (show i < 9223372036854775807 by omega)]
    obtain ⟨r, h2, h3, h4, h5⟩ := p_laws_szWrite (x := x[i]) (n := m) (w.2 _ (List.getElem_mem hi)) hm0 (by omega)
    simp only [h2, Option.bind_some]
    by_cases c1 : r < 0
    · exact .inr ⟨.inl (-1), by simp [c1], rfl⟩
    have h6 := h5 (by omega)
    refine .inl ⟨(r, ((i + 1 : Nat) : Int)), by simp [c1], r, rfl, by omega, by rw [hsum]; have := h6.2; omega, ?_⟩
    intro j y hj1 hj2
    by_cases e : j = i
    · subst e; rw [List.getElem?_eq_getElem hi] at hj2; cases hj2; exact h6.1
    · exact hj j y (by omega) hj2
  · rintro _ ⟨m, rfl, hm0, hm1, hj⟩
    rw [List.take_length] at hm1
    refine ⟨.inr m, by unfold S_laws_szWriteS_1; simp, by show m + _ + _ ≤ n; omega, hm0, fun y hy => ?_⟩
    obtain ⟨j, hj2⟩ := List.getElem?_of_mem hy
    exact hj j y (List.getElem?_eq_some_iff.1 hj2).1 hj2
theorem p_laws_szDisk {x : TDisk} {n : Int} (w : wf_TDisk x) (h0 : 0 ≤ n) (h1 : n ≤ 1048576) : ∃ r, F_laws_szDisk x n = some r ∧ r ≤ n ∧ -1 ≤ r ∧ (0 ≤ r → (Sz_TDisk x) ∧ r + ((szN_TDisk x : Nat) : Int) ≤ n) := by
  unfold F_laws_szDisk
  obtain ⟨r1, f1, g1, b1, q1⟩ := p_laws_szStringS (x := x.Sectors) (n := n) w.1 (by omega) (by omega)
  simp only [f1, Option.bind_some]
  by_cases c1 : r1 < 0
  · rw [if_pos (by simpa using c1)]; exact ⟨-1, rfl, by omega, by omega, fun h => absurd h (by omega)⟩
  rw [if_neg (by simpa using c1)]
  have a1 := (q1 (by omega)).2
  obtain ⟨r2, f2, g2, b2, q2⟩ := p_laws_szWriteS (x := x.Cache) (n := r1) w.2.1 (by omega) (by omega)
  simp only [f2, Option.bind_some]
  by_cases c2 : r2 < 0
  · rw [if_pos (by simpa using c2)]; exact ⟨-1, rfl, by omega, by omega, fun h => absurd h (by omega)⟩
  rw [if_neg (by simpa using c2)]
  have a2 := (q2 (by omega)).2
  exact ⟨_, rfl, by omega, by omega, fun _ => ⟨⟨(q1 (by omega)).1, (q2 (by omega)).1⟩, by unfold szN_TDisk; omega⟩⟩
theorem p_laws_toStringS {x : List (List UInt8)} (h : x.length ≤ 1048576 ∧ ∀ y ∈ x, y.length ≤ 1048576) : F_laws_toStringS x = some x := by
  unfold F_laws_toStringS
  have hl := h.1
  rw [mk?_ok (by omega) (by omega), Option.bind_some, to_loop (step := S_laws_toStringS_1 x) (by omega)]
  · rfl
  · intro i hi m hm
    unfold S_laws_toStringS_1
    simp only [dlt hi, if_true, at?_nat hi, at?_nat (show i < m.length by omega), Option.bind_some, set'_nat, w64_succ (show i < 9223372036854775807 by omega)]
  · intro m
    unfold S_laws_toStringS_1
    simp
theorem p_laws_toWrite {x : TWrite} (h : Sz_TWrite x) : F_laws_toWrite x = some x := by
  unfold F_laws_toWrite
  rfl
theorem p_laws_toWriteS {x : List TWrite} (h : x.length ≤ 1048576 ∧ ∀ y ∈ x, Sz_TWrite y) : F_laws_toWriteS x = some x := by
  unfold F_laws_toWriteS
  have hl := h.1
  rw [mk?_ok (by omega) (by omega), Option.bind_some, to_loop (step := S_laws_toWriteS_1 x) (by omega)]
  · rfl
  · intro i hi m hm
    unfold S_laws_toWriteS_1
    have he := p_laws_toWrite (x := x[i]) (h.2 _ (List.getElem_mem hi))
    simp only [dlt hi, if_true, at?_nat hi, at?_nat (show i < m.length by omega), Option.bind_some, set'_nat, w64_succ (show i < 9223372036854775807 by omega), he]
  · intro m
    unfold S_laws_toWriteS_1
    simp
theorem p_laws_toDisk {x : TDisk} (h : Sz_TDisk x) : F_laws_toDisk x = some x := by
  unfold F_laws_toDisk
  simp only [p_laws_toStringS (x := x.Sectors) h.sSectors, p_laws_toWriteS (x := x.Cache) h.sCache, Option.bind_some]
theorem p_laws_eqStringS {x : List (List UInt8)} (h : x.length ≤ 1048576 ∧ ∀ y ∈ x, y.length ≤ 1048576) : F_laws_eqStringS x x = some true := by
  unfold F_laws_eqStringS
  have hl := h.1
  have key : iter (S_laws_eqStringS_1 x x) 0 = some (.inr ()) := by
    refine iter_range (fun i => (i : Int)) x.length ?_ ?_
    · intro i hi
      unfold S_laws_eqStringS_1
      simp only [dlt hi, if_true, at?_nat hi, Option.bind_some, w64_succ (show i < 9223372036854775807 by omega)]
      try simp
    · unfold S_laws_eqStringS_1
      simp
  rw [key]
  simp
theorem p_laws_eqWrite {x : TWrite} (h : Sz_TWrite x) : F_laws_eqWrite x x = some true := by
  unfold F_laws_eqWrite
  simp []
theorem p_laws_eqWriteS {x : List TWrite} (h : x.length ≤ 1048576 ∧ ∀ y ∈ x, Sz_TWrite y) : F_laws_eqWriteS x x = some true := by
  unfold F_laws_eqWriteS
  have hl := h.1
  have key : iter (S_laws_eqWriteS_1 x x) 0 = some (.inr ()) := by
    refine iter_range (fun i => (i : Int)) x.length ?_ ?_
    · intro i hi
      unfold S_laws_eqWriteS_1
      have he := p_laws_eqWrite (x := x[i]) (h.2 _ (List.getElem_mem hi))
      simp only [dlt hi, if_true, at?_nat hi, Option.bind_some, w64_succ (show i < 9223372036854775807 by omega), he]
      try simp
    · unfold S_laws_eqWriteS_1
      simp
  rw [key]
  simp
theorem p_laws_eqDisk {x : TDisk} (h : Sz_TDisk x) : F_laws_eqDisk x x = some true := by
  unfold F_laws_eqDisk
  simp [p_laws_eqStringS (x := x.Sectors) h.sSectors, p_laws_eqWriteS (x := x.Cache) h.sCache]
noncomputable def mk_laws_markStringS_w (m : Nat) (_ : List UInt8) : List UInt8 := mt (m)
theorem p_laws_markStringS_w {l : List (List UInt8)} {m0 : Nat} (hl : l.length ≤ 1048576) (hm0 : m0 ≤ 1125899906842624) : F_laws_markStringS_w l (m0 : Int) = some (((m0 + 1 * l.length : Nat) : Int), l.mapIdx fun i x => mk_laws_markStringS_w (m0 + 1 * i) x) := by
  unfold F_laws_markStringS_w
  rw [mark_loop (step := S_laws_markStringS_w_1) (k := 1) (g := mk_laws_markStringS_w) (l := l) ?_ ?_]
  · rfl
  · intro i m l' h hi hm
    unfold S_laws_markStringS_w_1
    simp only [dlt h, if_true, at?_nat h, at?_set h, Option.bind_some, set'_nat, List.set_set, w64_succ (show i < 9223372036854775807 by omega), w64_succ (show m < 9223372036854775807 by omega), p_laws_markText (show m < 4611686018427387904 by omega)]
    try rfl
  · intro m l' hl'
    unfold S_laws_markStringS_w_1
    simp [hl']
noncomputable def mk_laws_markWriteS_w (m : Nat) (_ : TWrite) : TWrite := ({ At := ((m : Nat) : Int), Text := mt (m + 1) } : TWrite)
theorem p_laws_markWriteS_w {l : List TWrite} {m0 : Nat} (hl : l.length ≤ 1048576) (hm0 : m0 ≤ 1125899906842624) : F_laws_markWriteS_w l (m0 : Int) = some (((m0 + 2 * l.length : Nat) : Int), l.mapIdx fun i x => mk_laws_markWriteS_w (m0 + 2 * i) x) := by
  unfold F_laws_markWriteS_w
  rw [mark_loop (step := S_laws_markWriteS_w_1) (k := 2) (g := mk_laws_markWriteS_w) (l := l) ?_ ?_]
  · rfl
  · intro i m l' h hi hm
    unfold S_laws_markWriteS_w_1
    simp only [dlt h, if_true, at?_nat h, at?_set h, Option.bind_some, set'_nat, List.set_set, w64_succ (show i < 9223372036854775807 by omega), w64_succ (show m < 9223372036854775807 by omega), w64_succ (n := m + 1) (by omega), p_laws_markText (show m + 1 < 4611686018427387904 by omega)]
    try rfl
  · intro m l' hl'
    unfold S_laws_markWriteS_w_1
    simp [hl']
theorem p_laws_eqRef {x : TRef} : F_laws_eqRef x x = some true := by
  unfold F_laws_eqRef
  simp []
theorem p_laws_eqRefS {x : List TRef} (h : x.length ≤ 1048576) : F_laws_eqRefS x x = some true := by
  unfold F_laws_eqRefS
  have hl := h
  have key : iter (S_laws_eqRefS_1 x x) 0 = some (.inr ()) := by
    refine iter_range (fun i => (i : Int)) x.length ?_ ?_
    · intro i hi
      unfold S_laws_eqRefS_1
      have he := p_laws_eqRef (x := x[i])
      simp only [dlt hi, if_true, at?_nat hi, Option.bind_some, w64_succ (show i < 9223372036854775807 by omega), he]
      try simp
    · unfold S_laws_eqRefS_1
      simp
  rw [key]
  simp
theorem p_laws_eqCheck {x : TCheck} (h : Sz_TCheck x) : F_laws_eqCheck x x = some true := by
  unfold F_laws_eqCheck
  simp [p_laws_eqRefS (x := x.Refs) h.sRefs]
noncomputable def mk_laws_markRefS_w (m : Nat) (_ : TRef) : TRef := ({ No := ((m : Nat) : Int), Gen := ((m + 1 : Nat) : Int) } : TRef)
theorem p_laws_markRefS_w {l : List TRef} {m0 : Nat} (hl : l.length ≤ 1048576) (hm0 : m0 ≤ 1125899906842624) : F_laws_markRefS_w l (m0 : Int) = some (((m0 + 2 * l.length : Nat) : Int), l.mapIdx fun i x => mk_laws_markRefS_w (m0 + 2 * i) x) := by
  unfold F_laws_markRefS_w
  rw [mark_loop (step := S_laws_markRefS_w_1) (k := 2) (g := mk_laws_markRefS_w) (l := l) ?_ ?_]
  · rfl
  · intro i m l' h hi hm
    unfold S_laws_markRefS_w_1
    simp only [dlt h, if_true, at?_nat h, at?_set h, Option.bind_some, set'_nat, List.set_set, w64_succ (show i < 9223372036854775807 by omega), w64_succ (show m < 9223372036854775807 by omega), w64_succ (n := m + 1) (by omega)]
    try rfl
  · intro m l' hl'
    unfold S_laws_markRefS_w_1
    simp [hl']
theorem p_laws_heldRefS {l : List TRef} {m0 : Nat} (hl : l.length ≤ 1048576) (hm0 : m0 ≤ 1125899906842624) : F_laws_heldRefS (l.mapIdx fun i x => mk_laws_markRefS_w (m0 + 2 * i) x) (m0 : Int) = some ((m0 + 2 * l.length : Nat) : Int) := by
  unfold F_laws_heldRefS
  rw [held_loop (step := S_laws_heldRefS_1 _) (k := 2) (r := Sum.inr) (l := l.mapIdx fun i x => mk_laws_markRefS_w (m0 + 2 * i) x) (g := mk_laws_markRefS_w) ?_ ?_]
  · simp
  · intro i m h hm
    have hi : i < l.length := by simpa using h
    unfold S_laws_heldRefS_1
    simp only [dlt h, if_true, at?_nat h, List.getElem_mapIdx, ← hm, Option.bind_some, w64_succ (show i < 9223372036854775807 by omega), w64_succ (show m < 9223372036854775807 by omega), w64_succ (n := m + 1) (by omega)]
    simp [mk_laws_markRefS_w, Int.add_assoc]
  · intro m
    unfold S_laws_heldRefS_1
    simp
theorem p_slices_IndexFunc_Ref_CheckOk_1 {x0 : List TRef} {x1 : TRef} {q : TRef → Bool} (hl : x0.length ≤ 9223372036854775806) (hq : ∀ y ∈ x0, F_impl_CheckOk_1_w y x1 = some (q y)) : F_slices_IndexFunc_Ref_CheckOk_1 x0 x1 = some (idxI (x0.findIdx? q)) := by
  unfold F_slices_IndexFunc_Ref_CheckOk_1
  rw [idx_loop (l := x0) (q := q) ?_ ?_]
  · cases x0.findIdx? q <;> rfl
  · intro i hi
    unfold S_slices_IndexFunc_Ref_CheckOk_1_1
    simp only [dlt hi, if_true, at?_nat hi, Option.bind_some, hq _ (List.getElem_mem hi), w64_succ (show i < 9223372036854775807 by omega)]
  · unfold S_slices_IndexFunc_Ref_CheckOk_1_1
    simp
theorem p_slices_ContainsFunc_Ref_CheckOk_1 {x0 : List TRef} {x1 : TRef} {q : TRef → Bool} (hl : x0.length ≤ 9223372036854775806) (hq : ∀ y ∈ x0, F_impl_CheckOk_1_w y x1 = some (q y)) : F_slices_ContainsFunc_Ref_CheckOk_1 x0 x1 = some (x0.any q) := by
  unfold F_slices_ContainsFunc_Ref_CheckOk_1
  rw [p_slices_IndexFunc_Ref_CheckOk_1 hl hq, Option.bind_some, idx_any]
end Go.Proofs.Ytgdcbjoaoagbpaa.V
/- What a check must be, and its text. -/
namespace Go.Proofs.Ytgdcbjoaoagbpaa.V
open Go Go.RowKit
set_option maxRecDepth 100000

def lastG (l : List TRef) : Nat → Int
  | 0 => 0
  | i + 1 => match l[i]? with | some r => r.Gen | none => 0
theorem lastG_succ {l : List TRef} {i : Nat} (h : i < l.length) : lastG l (i + 1) = l[i].Gen := by simp [lastG, h]
def anyNo (l : List TRef) (n : Int) : Bool := l.any fun q => q.No == n
def okS (l : List TRef) (ng : Int) (i : Nat) : Bool := match l[i]? with
  | some r => inR r.No 0 10 && inR r.Gen 1 (w64 (ng - 1)) && (i == 0 || decide (lastG l i < r.Gen)) && !anyNo (l.take i) r.No
  | none => true
def okI (l : List TRef) (ng : Int) (i : Nat) : Bool := match l[i]? with
  | some r => inR r.Gen (w64 (lastG l i + 1)) (w64 (ng - 1)) && inR r.No 0 10 && !anyNo (l.take i) r.No
  | none => true
theorem inR_iff {n lo hi : Int} : inR n lo hi = true ↔ lo ≤ n ∧ n ≤ hi := by unfold inR; simp
/-- Both look at the same. -/
theorem ok_same {l : List TRef} {ng : Int} (h : 1 ≤ ng) (h' : ng ≤ 1000000000) : (List.range l.length).all (okS l ng) = (List.range l.length).all (okI l ng) := by
  have hw : w64 (ng - 1) = ng - 1 := w64_id (by omega) (by omega)
  rw [Bool.eq_iff_iff, List.all_eq_true, List.all_eq_true]
  constructor
  · intro hs i hi
    have hi' := List.mem_range.1 hi
    have h1 := hs i hi
    unfold okS at h1
    unfold okI
    rw [List.getElem?_eq_getElem hi'] at h1 ⊢
    simp only [Bool.and_eq_true, inR_iff, hw] at h1 ⊢
    obtain ⟨⟨⟨a, b⟩, c⟩, d⟩ := h1
    refine ⟨⟨⟨?_, b.2⟩, a⟩, d⟩
    cases i with
    | zero => simp only [lastG]; rw [w64_id (by omega) (by omega)]; omega
    | succ j =>
      have h2 := hs j (List.mem_range.2 (by omega))
      unfold okS at h2
      rw [List.getElem?_eq_getElem (by omega)] at h2
      simp only [Bool.and_eq_true, inR_iff, hw] at h2
      rw [lastG_succ (by omega)] at c ⊢
      simp at c
      rw [w64_id (by omega) (by omega)]; omega
  · intro hs
    have key : ∀ i, i < l.length → okS l ng i = true := by
      intro i
      induction i with
      | zero =>
        intro hi
        have h1 := hs 0 (List.mem_range.2 hi)
        unfold okI at h1
        unfold okS
        rw [List.getElem?_eq_getElem hi] at h1 ⊢
        simp only [Bool.and_eq_true, inR_iff, hw, lastG] at h1 ⊢
        rw [w64_id (by omega) (by omega)] at h1
        obtain ⟨⟨a, b⟩, c⟩ := h1
        exact ⟨⟨⟨b, by omega, a.2⟩, by simp⟩, c⟩
      | succ j ih =>
        intro hi
        have h1 := hs (j + 1) (List.mem_range.2 hi)
        have h2 := ih (by omega)
        unfold okI at h1
        unfold okS at h2 ⊢
        rw [List.getElem?_eq_getElem hi] at h1 ⊢
        rw [List.getElem?_eq_getElem (by omega)] at h2
        simp only [Bool.and_eq_true, inR_iff, hw] at h1 h2 ⊢
        rw [lastG_succ (by omega)] at h1 ⊢
        rw [w64_id (by omega) (by omega)] at h1
        obtain ⟨⟨a, b⟩, c⟩ := h1
        exact ⟨⟨⟨b, by omega, a.2⟩, by simp; omega⟩, c⟩
    exact fun i hi => key i (List.mem_range.1 hi)

def stamps (c : TCheck) : Bool := inR c.Stamp 1 1000000000 && inR c.NextGen 1 1000000000 && inR c.NextSeq 1 1000000000 && inR c.NextValid 1 1000000000
def checkOk (c : TCheck) : Bool := stamps c && inR c.Refs.length 1 11 && (List.range c.Refs.length).all (okS c.Refs c.NextGen)

theorem spec_checkOk {c : TCheck} (h : c.Refs.length ≤ 1048576) : F_spec_CheckOk c = some (checkOk c) := by
  have hl : iter (S_spec_CheckOk_1 c) 0 = some (if (List.range c.Refs.length).all (okS c.Refs c.NextGen) then .inr () else .inl false) := by
    refine iter_all (fun i => (i : Int)) c.Refs.length _ ?_ ?_ ?_
    all_goals first
      | (unfold S_spec_CheckOk_1; simp; done)
      | skip
    all_goals
      intro i hi hp
      have inner : iter (S_spec_CheckOk_2 c (i : Int) c.Refs[i]) 0 = some (if anyNo (c.Refs.take i) c.Refs[i].No then .inl false else .inr ()) := by
        refine any_loop (by omega) ?_ ?_
        · intro j hj hji
          unfold S_spec_CheckOk_2
          simp only [dlt hji, if_true, at?_nat hj, Option.bind_some, w64_succ (show j < 9223372036854775807 by omega)]
        · unfold S_spec_CheckOk_2
          simp
      have hprev : (if decide ((i : Int) > 0) then (at? c.Refs (w64 ((i : Int) - 1))).bind fun v13 => (if decide (v13.Gen ≥ c.Refs[i].Gen) then some true else some false) else some false) = some (!(i == 0 || decide (lastG c.Refs i < c.Refs[i].Gen))) := by
        cases i with
        | zero => simp
        | succ j =>
          have e : w64 (((j + 1 : Nat) : Int) - 1) = (j : Int) := by rw [w64_id (by omega) (by omega)]; omega
          rw [if_pos (by simp), e, at?_nat (show j < c.Refs.length by omega), lastG_succ (by omega)]
          simp only [Option.bind_some]
          by_cases hc : c.Refs[j].Gen < c.Refs[j + 1].Gen
          · rw [if_neg (by simpa using hc)]; simp [hc]
          · rw [if_pos (by simp; omega)]; simp [hc]
      unfold okS at hp
      rw [List.getElem?_eq_getElem hi] at hp
      dsimp only at hp
      unfold S_spec_CheckOk_1
      simp only [dlt hi, if_true, at?_nat hi, Option.bind_some, spec_in, inner, hprev]
      generalize inR c.Refs[i].No 0 10 = b1 at hp ⊢
      generalize inR c.Refs[i].Gen 1 (w64 (c.NextGen - 1)) = b2 at hp ⊢
      generalize (i == 0 || decide (lastG c.Refs i < c.Refs[i].Gen)) = b3 at hp ⊢
      generalize anyNo (c.Refs.take i) c.Refs[i].No = b4 at hp ⊢
      revert hp
      cases b1 <;> cases b2 <;> cases b3 <;> cases b4 <;> simp [w64_succ (show i < 9223372036854775807 by omega)]
  unfold F_spec_CheckOk checkOk stamps
  simp only [spec_in, hl, Option.bind_some]
  cases inR c.Stamp 1 1000000000 <;> cases inR c.NextGen 1 1000000000 <;> cases inR c.NextSeq 1 1000000000 <;> cases inR c.NextValid 1 1000000000 <;> cases inR (c.Refs.length : Int) 1 11 <;> cases (List.range c.Refs.length).all (okS c.Refs c.NextGen) <;> simp
theorem impl_checkOk {c : TCheck} (h : c.Refs.length ≤ 1048576) : F_impl_CheckOk c = some (checkOk c) := by
  have hs : iter (S_impl_CheckOk_1 c) 0 = some (if stamps c then .inr () else .inl false) := by
    have e1 : iter (S_impl_CheckOk_1 c) 0 = some (if ([c.Stamp, c.NextGen, c.NextSeq, c.NextValid].take 4).any (fun n => !inR n 1 1000000000) then .inl false else .inr ()) := by
      refine any_loop (by simp) ?_ ?_
      · intro i hi _
        unfold S_impl_CheckOk_1
        simp only [dlt hi, if_true, at?_nat hi, Option.bind_some, impl_in, w64_succ (show i < 9223372036854775807 by simp at hi; omega)]
        cases inR [c.Stamp, c.NextGen, c.NextSeq, c.NextValid][i] 1 1000000000 <;> simp
      · unfold S_impl_CheckOk_1
        simp
    rw [e1]
    unfold stamps
    simp
    cases inR c.Stamp 1 1000000000 <;> cases inR c.NextGen 1 1000000000 <;> cases inR c.NextSeq 1 1000000000 <;> cases inR c.NextValid 1 1000000000 <;> simp
  have hl : iter (S_impl_CheckOk_2 c) (0, 0) = some (if (List.range c.Refs.length).all (okI c.Refs c.NextGen) then .inr () else .inl false) := by
    refine iter_all (fun i => (lastG c.Refs i, (i : Int))) c.Refs.length _ ?_ ?_ ?_
    all_goals first
      | (unfold S_impl_CheckOk_2; simp; done)
      | skip
    all_goals
      intro i hi hp
      have hc := p_slices_ContainsFunc_Ref_CheckOk_1 (x0 := c.Refs.take i) (x1 := c.Refs[i]) (q := fun q => q.No == c.Refs[i].No) (by simp; omega) (fun y _ => rfl)
      unfold okI at hp
      rw [List.getElem?_eq_getElem hi] at hp
      dsimp only at hp
      unfold S_impl_CheckOk_2
      simp only [dlt hi, if_true, at?_nat hi, Option.bind_some, impl_in, sub?_take (Nat.le_of_lt hi), hc, lastG_succ hi]
      unfold anyNo at hp
      generalize inR c.Refs[i].No 0 10 = b1 at hp ⊢
      generalize inR c.Refs[i].Gen (w64 (lastG c.Refs i + 1)) (w64 (c.NextGen - 1)) = b2 at hp ⊢
      generalize (c.Refs.take i).any (fun q => q.No == c.Refs[i].No) = b4 at hp ⊢
      revert hp
      cases b1 <;> cases b2 <;> cases b4 <;> simp [w64_succ (show i < 9223372036854775807 by omega)]
  unfold F_impl_CheckOk checkOk
  rw [hs]
  cases hst : stamps c with
  | false => simp
  | true =>
    have hng : 1 ≤ c.NextGen ∧ c.NextGen ≤ 1000000000 := by
      unfold stamps at hst
      simp only [Bool.and_eq_true, inR_iff] at hst
      exact hst.1.1.2
    simp only [if_true, Option.bind_some, Sum.elim_inr, impl_in, hl, ok_same hng.1 hng.2]
    cases inR (c.Refs.length : Int) 1 11 <;> cases (List.range c.Refs.length).all (okI c.Refs c.NextGen) <;> simp
end Go.Proofs.Ytgdcbjoaoagbpaa.V
/- The text of a check. -/
namespace Go.Proofs.Ytgdcbjoaoagbpaa.V
open Go Go.RowKit
set_option maxRecDepth 100000

def ctHead (c : TCheck) : List UInt8 := vt c.Stamp ++ vt c.NextGen ++ vt c.NextSeq ++ vt c.NextValid ++ vt c.Refs.length
def refT (r : TRef) : List UInt8 := vt r.No ++ vt r.Gen
def ctBody (c : TCheck) : List UInt8 := ctHead c ++ c.Refs.flatMap refT
def ctOut (c : TCheck) : List UInt8 := short (ctBody c ++ sealL (ctBody c))
def checkText (c : TCheck) : List UInt8 × Bool := if checkOk c then (if 128 < (ctOut c).length then ([], false) else (ctOut c, true)) else ([], false)
theorem checkOk_rng {c : TCheck} (h : checkOk c = true) : ((1 ≤ c.Stamp ∧ c.Stamp ≤ 1000000000) ∧ (1 ≤ c.NextGen ∧ c.NextGen ≤ 1000000000) ∧ (1 ≤ c.NextSeq ∧ c.NextSeq ≤ 1000000000) ∧ (1 ≤ c.NextValid ∧ c.NextValid ≤ 1000000000)) ∧ (1 ≤ c.Refs.length ∧ c.Refs.length ≤ 11) ∧ ∀ r ∈ c.Refs, (0 ≤ r.No ∧ r.No ≤ 10) ∧ 1 ≤ r.Gen ∧ r.Gen ≤ 1000000000 := by
  unfold checkOk stamps at h
  simp only [Bool.and_eq_true, inR_iff] at h
  obtain ⟨⟨⟨⟨⟨h1, h2⟩, h3⟩, h4⟩, h5⟩, h6⟩ := h
  refine ⟨⟨h1, h2, h3, h4⟩, by omega, ?_⟩
  intro r hr
  obtain ⟨i, hi⟩ := List.getElem?_of_mem hr
  have h7 := List.all_eq_true.1 h6 i (List.mem_range.2 (List.getElem?_eq_some_iff.1 hi).1)
  unfold okS at h7
  rw [hi] at h7
  simp only [Bool.and_eq_true, inR_iff] at h7
  rw [w64_id (by omega) (by omega)] at h7
  obtain ⟨⟨⟨a, b⟩, _⟩, _⟩ := h7
  omega
theorem refT_len {r : TRef} (h : (0 ≤ r.No ∧ r.No ≤ 10) ∧ 1 ≤ r.Gen ∧ r.Gen ≤ 1000000000) : (refT r).length ≤ 22 := by
  have l1 := vt_len (n := r.No) (by omega)
  have l2 := vt_len (n := r.Gen) (by omega)
  unfold refT
  simp; omega
theorem fm_len {α : Type} {f : α → List UInt8} {k : Nat} : ∀ (l : List α), (∀ x ∈ l, (f x).length ≤ k) → (l.flatMap f).length ≤ k * l.length
  | [], _ => by simp
  | x :: l, h => by
    have h1 := fm_len l (fun y hy => h y (by simp [hy]))
    have h2 := h x (by simp)
    simp only [List.flatMap_cons, List.length_append, List.length_cons, Nat.mul_succ]
    omega
theorem ctHead_len {c : TCheck} (h : checkOk c = true) : (ctHead c).length ≤ 55 := by
  obtain ⟨⟨h1, h2, h3, h4⟩, h5, _⟩ := checkOk_rng h
  have l1 := vt_len (n := c.Stamp) (by omega)
  have l2 := vt_len (n := c.NextGen) (by omega)
  have l3 := vt_len (n := c.NextSeq) (by omega)
  have l4 := vt_len (n := c.NextValid) (by omega)
  have l5 := vt_len (n := c.Refs.length) (by omega)
  unfold ctHead
  simp; omega
theorem ctBody_len {c : TCheck} (h : checkOk c = true) : (ctBody c).length ≤ 297 := by
  have h1 := ctHead_len h
  obtain ⟨_, h5, h6⟩ := checkOk_rng h
  have h2 := fm_len (f := refT) (k := 22) c.Refs (fun r hr => refT_len (h6 r hr))
  unfold ctBody
  simp only [List.length_append]
  omega
/-- Something for each, one behind the other. -/
theorem cat_loop {α : Type} {l : List α} {f : α → List UInt8} {step : List UInt8 × Int → Option ((List UInt8 × Int) ⊕ List UInt8)} {y : List UInt8} {b : Nat}
    (hb : ∀ i, i ≤ l.length → (y ++ (l.take i).flatMap f).length ≤ b)
    (h1 : ∀ (i : Nat) (h : i < l.length) (a : List UInt8), a.length ≤ b → step (a, (i : Int)) = some (.inl (a ++ f l[i], ((i + 1 : Nat) : Int))))
    (h2 : ∀ a, step (a, (l.length : Int)) = some (.inr a)) : iter step (y, 0) = some (y ++ l.flatMap f) := by
  have := iter_range (step := step) (fun i => (y ++ (l.take i).flatMap f, (i : Int))) l.length (r := y ++ l.flatMap f) ?_ ?_
  · simpa using this
  · intro i hi
    rw [h1 i hi _ (hb i (by omega)), List.take_succ_eq_append_getElem hi, List.flatMap_append, List.append_assoc]
    simp
  · rw [h2]; simp
theorem spec_checkText {c : TCheck} (h : c.Refs.length ≤ 1048576) : F_spec_CheckText c = some (checkText c) := by
  unfold F_spec_CheckText checkText
  rw [spec_checkOk h, Option.bind_some]
  cases hk : checkOk c with
  | false => rfl
  | true =>
    obtain ⟨⟨h1, h2, h3, h4⟩, h5, h6⟩ := checkOk_rng hk
    have l1 := vt_len (n := c.Stamp) (by omega)
    have l2 := vt_len (n := c.NextGen) (by omega)
    have l3 := vt_len (n := c.NextSeq) (by omega)
    have l4 := vt_len (n := c.NextValid) (by omega)
    have l5 := vt_len (n := c.Refs.length) (by omega)
    have lb := ctBody_len hk
    have hl : iter (S_spec_CheckText_1 c) (ctHead c, 0) = some (ctBody c) := by
      refine cat_loop (l := c.Refs) (f := refT) (b := 297) ?_ ?_ ?_
      · intro i hi
        have h7 := fm_len (f := refT) (k := 22) (c.Refs.take i) (fun r hr => refT_len (h6 r (List.mem_of_mem_take hr)))
        have h8 := ctHead_len hk
        simp only [List.length_append, List.length_take] at h7 ⊢
        omega
      · intro i hi a ha
        have hr := h6 _ (List.getElem_mem hi)
        have q1 := vt_len (n := c.Refs[i].No) (by omega)
        have q2 := vt_len (n := c.Refs[i].Gen) (by omega)
        unfold S_spec_CheckText_1
        simp only [dlt hi, if_true, at?_nat hi, Option.bind_some, w64_succ (show i < 9223372036854775807 by omega)]
        rw [spec_var (by omega) (by omega), Option.bind_some, cat?_ok (by omega), Option.bind_some, spec_var (by omega) (by omega), Option.bind_some, cat?_ok (by simp; omega), Option.bind_some]
        simp [refT]
      · intro a
        unfold S_spec_CheckText_1
        simp
    simp only [if_true]
    rw [spec_var (by omega) (by omega), Option.bind_some, spec_var (by omega) (by omega), Option.bind_some, cat?_ok (by omega), Option.bind_some, spec_var (by omega) (by omega), Option.bind_some, cat?_ok (by simp; omega), Option.bind_some, spec_var (by omega) (by omega), Option.bind_some, cat?_ok (by simp; omega), Option.bind_some, spec_var (by omega) (by omega), Option.bind_some, cat?_ok (by simp; omega), Option.bind_some]
    rw [show vt c.Stamp ++ vt c.NextGen ++ vt c.NextSeq ++ vt c.NextValid ++ vt c.Refs.length = ctHead c from rfl, hl, Option.bind_some, spec_sealed (by omega), Option.bind_some]
    unfold sealed
    rw [if_neg (by omega)]
    simp only []
    rw [spec_short (by rw [List.length_append, sealL_len]; omega), Option.bind_some]
    show _ = some (if 128 < (ctOut c).length then ([], false) else (ctOut c, true))
    unfold ctOut
    by_cases hc : 128 < (short (ctBody c ++ sealL (ctBody c))).length
    · have hc' : (128 : Int) < ((short (ctBody c ++ sealL (ctBody c))).length : Int) := by omega
      rw [if_pos hc]; simp [hc']
    · have hc' : ¬ (128 : Int) < ((short (ctBody c ++ sealL (ctBody c))).length : Int) := by omega
      rw [if_neg hc]; simp [hc']
theorem impl_checkText {c : TCheck} (h : c.Refs.length ≤ 1048576) : F_impl_CheckText c = some (checkText c) := by
  unfold F_impl_CheckText checkText
  rw [impl_checkOk h, Option.bind_some]
  cases hk : checkOk c with
  | false => rfl
  | true =>
    obtain ⟨⟨h1, h2, h3, h4⟩, h5, h6⟩ := checkOk_rng hk
    have l1 := vt_len (n := c.Stamp) (by omega)
    have l2 := vt_len (n := c.NextGen) (by omega)
    have l3 := vt_len (n := c.NextSeq) (by omega)
    have l4 := vt_len (n := c.NextValid) (by omega)
    have l5 := vt_len (n := c.Refs.length) (by omega)
    have lb := ctBody_len hk
    have hl : iter (S_impl_CheckText_1 c) (ctHead c, 0) = some (ctBody c) := by
      refine cat_loop (l := c.Refs) (f := refT) (b := 297) ?_ ?_ ?_
      · intro i hi
        have h7 := fm_len (f := refT) (k := 22) (c.Refs.take i) (fun r hr => refT_len (h6 r (List.mem_of_mem_take hr)))
        have h8 := ctHead_len hk
        simp only [List.length_append, List.length_take] at h7 ⊢
        omega
      · intro i hi a ha
        have hr := h6 _ (List.getElem_mem hi)
        have q1 := vt_len (n := c.Refs[i].No) (by omega)
        have q2 := vt_len (n := c.Refs[i].Gen) (by omega)
        unfold S_impl_CheckText_1
        simp only [dlt hi, if_true, at?_nat hi, Option.bind_some, w64_succ (show i < 9223372036854775807 by omega)]
        rw [impl_var (by omega) (by omega), Option.bind_some, impl_var (by omega) (by omega), Option.bind_some, cat?_ok (by omega), Option.bind_some, cat?_ok (by simp; omega), Option.bind_some]
        simp [refT]
      · intro a
        unfold S_impl_CheckText_1
        simp
    simp only [if_true]
    rw [impl_var (by omega) (by omega), Option.bind_some, impl_var (by omega) (by omega), Option.bind_some, cat?_ok (by omega), Option.bind_some, impl_var (by omega) (by omega), Option.bind_some, cat?_ok (by simp; omega), Option.bind_some, impl_var (by omega) (by omega), Option.bind_some, cat?_ok (by simp; omega), Option.bind_some, impl_var (by omega) (by omega), Option.bind_some, cat?_ok (by simp; omega), Option.bind_some]
    rw [show vt c.Stamp ++ vt c.NextGen ++ vt c.NextSeq ++ vt c.NextValid ++ vt c.Refs.length = ctHead c from rfl, hl, Option.bind_some, impl_seal (by omega), Option.bind_some, cat?_ok (by rw [sealL_len]; omega), Option.bind_some]
    have e4 : (ctBody c ++ sealL (ctBody c)).length = (ctBody c).length + 4 := by rw [List.length_append, sealL_len]
    have q1 := vt_len (n := ((ctBody c ++ sealL (ctBody c)).length : Nat)) (by omega)
    rw [impl_var (by omega) (by omega), Option.bind_some, cat?_ok (by omega), Option.bind_some]
    show _ = some (if 128 < (ctOut c).length then ([], false) else (ctOut c, true))
    rw [show vt ((ctBody c ++ sealL (ctBody c)).length : Nat) ++ (ctBody c ++ sealL (ctBody c)) = ctOut c from rfl]
    by_cases hc : 128 < (ctOut c).length
    · rw [if_pos hc, if_pos (by simp; omega)]
    · rw [if_neg hc, if_neg (by simp; omega)]
end Go.Proofs.Ytgdcbjoaoagbpaa.V
/- Numbers, words and seals that are read. -/
namespace Go.Proofs.Ytgdcbjoaoagbpaa.V
open Go Go.RowKit
set_option maxRecDepth 100000

theorem ofI_toNat (b : UInt8) : ofI (b.toNat : Int) = b := by
  simp [ofI]
theorem toNat_ofI {n : Nat} (h : n < 256) : (ofI (n : Int)).toNat = n := by
  simp [ofI]; omega
def dig : Nat → List UInt8 → Option (Nat × Nat)
  | 0, _ => none
  | _ + 1, [] => none
  | f + 1, b :: r => if b.toNat < 128 then some (b.toNat, 1) else match dig f r with
    | some x => some (b.toNat - 128 + 128 * x.1, x.2 + 1)
    | none => none
theorem dig_len : ∀ {f : Nat} {r : List UInt8} {x : Nat × Nat}, dig f r = some x → 1 ≤ x.2 ∧ x.2 ≤ r.length ∧ x.2 ≤ f ∧ x.1 < 128 ^ x.2
  | 0, _, _, h => by simp [dig] at h
  | _ + 1, [], _, h => by simp [dig] at h
  | f + 1, b :: r, x, h => by
    simp only [dig] at h
    split at h
    · cases h; simp; omega
    · split at h
      · rename_i y hy
        cases h
        obtain ⟨h1, h2, h3, h4⟩ := dig_len hy
        have := b.toNat_lt
        refine ⟨by simp, by simpa using h2, by simpa using h3, ?_⟩
        show _ < 128 ^ (y.2 + 1)
        rw [Nat.pow_succ]
        simp only []
        omega
      · cases h
theorem dig_zero : ∀ {f : Nat} {r : List UInt8} {x : Nat × Nat}, dig f r = some x → x.1 = 0 → r[x.2 - 1]? = some 0
  | 0, _, _, h, _ => by simp [dig] at h
  | _ + 1, [], _, h, _ => by simp [dig] at h
  | f + 1, b :: r, x, h, h0 => by
    simp only [dig] at h
    split at h
    · cases h
      simp only at h0
      simp
      exact UInt8.toNat_inj.1 h0
    · split at h
      · rename_i y hy
        cases h
        obtain ⟨h1, _⟩ := dig_len hy
        have := dig_zero hy (by simp only at h0; omega)
        obtain ⟨c, hc⟩ : ∃ c, y.2 = c + 1 := ⟨y.2 - 1, by omega⟩
        simp only [hc, Nat.add_sub_cancel] at this ⊢
        simpa using this
      · cases h
/-- What is read is told as it stood, if the last is not nothing. -/
theorem dig_canon : ∀ {f : Nat} {r : List UInt8} {x : Nat × Nat}, dig f r = some x → ((vtl x.1).map ofI = r.take x.2 ↔ ¬ (1 < x.2 ∧ r[x.2 - 1]? = some 0))
  | 0, _, _, h => by simp [dig] at h
  | _ + 1, [], _, h => by simp [dig] at h
  | f + 1, b :: r, x, h => by
    simp only [dig] at h
    split at h
    · cases h
      rw [vtl_small (by simp only; omega)]
      simp [ofI_toNat]
    · split at h
      · rename_i hb y hy
        cases h
        have hl := b.toNat_lt
        obtain ⟨h1, h2, _⟩ := dig_len hy
        have ih := dig_canon hy
        obtain ⟨c, hc⟩ : ∃ c, y.2 = c + 1 := ⟨y.2 - 1, by omega⟩
        simp only []
        by_cases h0 : y.1 = 0
        · have hz := dig_zero hy h0
          rw [hc] at hz
          simp only [Nat.add_sub_cancel] at hz
          rw [h0, vtl_small (by omega)]
          constructor
          · intro e
            have := congrArg List.length e
            rw [List.length_take] at this
            simp only [List.length_map, List.length_cons, List.length_nil] at this
            omega
          · intro e
            refine absurd ⟨by omega, ?_⟩ e
            simp only [Nat.add_sub_cancel, hc]
            simpa using hz
        · have e1 : (b.toNat - 128 + 128 * y.1) % 128 = b.toNat - 128 := by omega
          have e2 : (b.toNat - 128 + 128 * y.1) / 128 = y.1 := by omega
          rw [vtl_big (by omega), e1, e2]
          have e3 : ofI ((b.toNat - 128 + 128 : Nat) : Int) = b := by
            rw [show b.toNat - 128 + 128 = b.toNat by omega]; exact ofI_toNat b
          simp only [List.map_cons, e3, List.take_succ_cons, List.cons.injEq, true_and, ih, Nat.add_sub_cancel]
          rw [hc]
          simp only [Nat.add_sub_cancel, List.getElem?_cons_succ]
          constructor
          · intro hh he
            cases c with
            | zero =>
              cases f with
              | zero => simp [dig] at hy
              | succ f =>
                cases r with
                | nil => simp at h2; omega
                | cons b2 r =>
                  simp at he
                  subst he
                  simp [dig] at hy
                  rw [← hy] at h0
                  exact h0 rfl
            | succ c => exact hh ⟨by omega, he.2⟩
          · intro hh he
            exact hh ⟨by omega, he.2⟩
      · cases h
theorem vtl_len' : ∀ (k n : Nat), n < 128 ^ (k + 1) → (vtl n).length ≤ k + 1
  | 0, n, h => by rw [vtl_small (by simp at h; omega)]; simp
  | k + 1, n, h => by
    by_cases hb : 127 < n
    · rw [vtl_big hb]
      have := vtl_len' k (n / 128) (by rw [Nat.pow_succ] at h; exact Nat.div_lt_of_lt_mul (by rw [Nat.mul_comm]; exact h))
      simp; omega
    · rw [vtl_small (by omega)]; simp
theorem dig_vtl : ∀ (f n : Nat) (r : List UInt8), (vtl n).length ≤ f → dig f ((vtl n).map ofI ++ r) = some (n, (vtl n).length)
  | 0, n, r, h => by
    exfalso
    unfold vtl at h
    split at h <;> simp at h
  | f + 1, n, r, h => by
    by_cases hb : 127 < n
    · rw [vtl_big hb] at h ⊢
      have ih := dig_vtl f (n / 128) r (by simpa using h)
      simp only [List.map_cons, List.cons_append, dig, toNat_ofI (show n % 128 + 128 < 256 by omega)]
      rw [if_neg (by omega), ih]
      simp; omega
    · rw [vtl_small (by omega)]
      simp only [List.map_cons, List.map_nil, List.cons_append, dig, toNat_ofI (show n < 256 by omega)]
      rw [if_pos (by omega)]
      simp
theorem vt_nat (n : Nat) : vt (n : Int) = (vtl n).map ofI := by
  unfold vt; rw [if_pos (by omega)]; simp

def rv (t : List UInt8) (a : Nat) : Option (Nat × Nat) := match dig 5 (t.drop a) with
  | some x => if x.1 ≤ 1000000000 ∧ vt (x.1 : Int) = (t.drop a).take x.2 then some (x.1, a + x.2) else none
  | none => none
def rvR (o : Option (Nat × Nat)) : Int × Int × Bool := match o with
  | some x => ((x.1 : Int), (x.2 : Int), true)
  | none => (0, 0, false)
theorem rv_vt {t : List UInt8} {a n : Nat} {r : List UInt8} (h : t.drop a = vt (n : Int) ++ r) (hn : n ≤ 1000000000) : rv t a = some (n, a + (vt (n : Int)).length) := by
  have hl : (vtl n).length ≤ 5 := vtl_len' 4 n (by omega)
  unfold rv
  rw [h, vt_nat, dig_vtl 5 n r hl]
  simp [hn, vt_nat]
theorem rv_bnd {t : List UInt8} {a : Nat} {x : Nat × Nat} (h : rv t a = some x) : a < x.2 ∧ x.2 ≤ t.length ∧ x.1 ≤ 1000000000 := by
  unfold rv at h
  split at h
  · rename_i y hy
    split at h
    · rename_i hc
      cases h
      obtain ⟨h1, h2, _⟩ := dig_len hy
      simp at h2
      exact ⟨by simp only; omega, by simp only; omega, hc.1⟩
    · cases h
  · cases h

theorem andv127' (b : UInt8) : andv .i64 (b.toNat : Int) 127 = ((b.toNat % 128 : Nat) : Int) := andv127 (by have := b.toNat_lt; omega)
theorem orv_add {a x j : Nat} (ha : a < 2 ^ j) (h : a + x * 2 ^ j < 9223372036854775808) : orv .i64 (a : Int) ((x * 2 ^ j : Nat) : Int) = ((a + x * 2 ^ j : Nat) : Int) := by
  show IntKind.i64.wrap ((BitVec.ofInt 64 (a : Int) ||| BitVec.ofInt 64 ((x * 2 ^ j : Nat) : Int)).toNat : Int) = _
  have e1 : BitVec.ofInt 64 (a : Int) = BitVec.ofNat 64 a := by simp
  have e2 : BitVec.ofInt 64 ((x * 2 ^ j : Nat) : Int) = BitVec.ofNat 64 (x * 2 ^ j) := BitVec.ofInt_natCast ..
  rw [e1, e2]
  have e3 : (BitVec.ofNat 64 a ||| BitVec.ofNat 64 (x * 2 ^ j)).toNat = a + x * 2 ^ j := by
    rw [BitVec.toNat_or]
    simp only [BitVec.toNat_ofNat]
    rw [Nat.mod_eq_of_lt (a := a) (by omega), Nat.mod_eq_of_lt (a := x * 2 ^ j) (by omega), Nat.or_comm, Nat.mul_comm x, ← Nat.two_pow_add_eq_or_of_lt ha]
    omega
  rw [e3]
  exact w64_nat (by omega)
theorem p128 (k : Nat) : 128 ^ k = 2 ^ (7 * k) := by rw [Nat.pow_mul]
theorem impl_rv_loop {t : List UInt8} {a : Nat} (ht : t.length ≤ 4611686018427387904) (ha : a ≤ t.length) : ∀ (f k acc : Nat), f + k = 5 → acc < 128 ^ k →
    (iter (S_impl_ReadVar_1 t (a : Int)) ((acc : Int), (k : Int))).bind (Sum.elim (fun r => some r) (fun _ => some (0, 0, false))) = some (match dig f (t.drop (a + k)) with
      | none => (0, 0, false)
      | some x => if 1000000000 < acc + x.1 * 128 ^ k ∨ ((t.drop (a + k))[x.2 - 1]? = some 0 ∧ 1 < k + x.2) then (0, 0, false) else (((acc + x.1 * 128 ^ k : Nat) : Int), ((a + k + x.2 : Nat) : Int), true))
  | 0, k, acc, hk, _ => by
    have : k = 5 := by omega
    subst this
    rw [iter_done (r := .inr ()) (by unfold S_impl_ReadVar_1; simp)]
    simp [dig]
  | f + 1, k, acc, hk, hacc => by
    have ew : w64 ((a : Int) + (k : Int)) = ((a + k : Nat) : Int) := by rw [w64_id (by omega) (by omega)]; omega
    by_cases hlt : a + k < t.length
    · have hd : t.drop (a + k) = t[a + k] :: t.drop (a + k + 1) := List.drop_eq_getElem_cons hlt
      have hb := (t[a + k]).toNat_lt
      generalize hbv : t[a + k] = b at hd hb
      have e7 : w64 (7 * (k : Int)) = ((7 * k : Nat) : Int) := by rw [w64_id (by omega) (by omega)]; omega
      have hpk : 128 ^ k ≤ 128 ^ 4 := Nat.pow_le_pow_right (by omega) (by omega)
      have hpp : (b.toNat % 128) * 128 ^ k ≤ 127 * 128 ^ 4 := Nat.mul_le_mul (by omega) hpk
      have es : shl? .i64 ((b.toNat % 128 : Nat) : Int) ((7 * k : Nat) : Int) = some (((b.toNat % 128) * 2 ^ (7 * k) : Nat) : Int) := by
        unfold shl?
        rw [if_neg (by omega)]
        have hm : min ((7 * k : Nat) : Int).toNat IntKind.i64.bits = 7 * k := by
          simp [IntKind.bits]; omega
        rw [hm]
        have : ((b.toNat % 128 : Nat) : Int) * 2 ^ (7 * k) = (((b.toNat % 128) * 2 ^ (7 * k) : Nat) : Int) := by simp
        rw [this]
        exact congrArg some (w64_nat (by rw [← p128]; omega))
      have eo : orv .i64 (acc : Int) (((b.toNat % 128) * 2 ^ (7 * k) : Nat) : Int) = ((acc + (b.toNat % 128) * 128 ^ k : Nat) : Int) := by
        rw [orv_add (by rw [← p128]; exact hacc) (by rw [← p128]; omega), p128]
      have eb : w64 ((b.toNat : Nat) : Int) = (b.toNat : Int) := w64_nat (by omega)
      have hst : S_impl_ReadVar_1 t (a : Int) ((acc : Int), (k : Int)) = if 127 < b.toNat then some (.inl (((acc + (b.toNat % 128) * 128 ^ k : Nat) : Int), ((k + 1 : Nat) : Int))) else if (b.toNat = 0 ∧ 0 < k) ∨ 1000000000 < acc + (b.toNat % 128) * 128 ^ k then some (.inr (.inl (0, 0, false))) else some (.inr (.inl (((acc + (b.toNat % 128) * 128 ^ k : Nat) : Int), ((a + k + 1 : Nat) : Int), true))) := by
        unfold S_impl_ReadVar_1
        simp only [show decide ((k : Int) < 5) = true from by simp; omega, if_true, ew, show decide (((a + k : Nat) : Int) < (t.length : Int)) = true from by simp; omega, Option.bind_some, bt?_nat hlt, hbv, eb, andv127', e7, es, eo, w64_succ (show k < 9223372036854775807 by omega), w64_succ (show a + k < 9223372036854775807 by omega)]
        by_cases g1 : 127 < b.toNat
        · rw [if_pos g1, if_pos (by simp; omega)]
        · rw [if_neg g1, if_neg (by simp; omega)]
          generalize acc + b.toNat % 128 * 128 ^ k = M
          by_cases g2 : b.toNat = 0 <;> by_cases g3 : 0 < k <;> by_cases g4 : 1000000000 < M
          all_goals
            have g4' : decide ((M : Int) > 1000000000) = decide (1000000000 < M) := by
              rw [decide_eq_decide]; omega
            rw [g4']
            have g2' : ((b.toNat : Int) == 0) = decide (b.toNat = 0) := by
              rw [Bool.eq_iff_iff]; simp
            rw [g2']
            simp [g2, g3, g4]
      by_cases g1 : 127 < b.toNat
      · rw [if_pos g1] at hst
        have hq : (b.toNat % 128) * 128 ^ k ≤ 127 * 128 ^ k := Nat.mul_le_mul_right _ (by omega)
        rw [iter_next hst, impl_rv_loop ht ha f (k + 1) _ (by omega) (by rw [Nat.pow_succ]; omega), hd]
        simp only [dig, if_neg (show ¬ b.toNat < 128 by omega)]
        have ed : t.drop (a + (k + 1)) = t.drop (a + k + 1) := by rw [Nat.add_assoc]
        rw [ed]
        cases hdg : dig f (t.drop (a + k + 1)) with
        | none => rfl
        | some x =>
          obtain ⟨h1, _⟩ := dig_len hdg
          obtain ⟨c, hc⟩ : ∃ c, x.2 = c + 1 := ⟨x.2 - 1, by omega⟩
          have ev : acc + b.toNat % 128 * 128 ^ k + x.1 * 128 ^ (k + 1) = acc + (b.toNat - 128 + 128 * x.1) * 128 ^ k := by
            rw [show b.toNat % 128 = b.toNat - 128 by omega, Nat.pow_succ, Nat.add_mul]
            rw [show 128 * x.1 * 128 ^ k = x.1 * (128 ^ k * 128) by rw [Nat.mul_comm 128, Nat.mul_assoc, Nat.mul_comm 128]]
            omega
          have ei : (b :: t.drop (a + k + 1))[x.2 + 1 - 1]? = (t.drop (a + k + 1))[x.2 - 1]? := by
            rw [hc]; simp
          have e4 : a + (k + 1) + x.2 = a + k + (x.2 + 1) := by omega
          have e5 : k + 1 + x.2 = k + (x.2 + 1) := by omega
          simp only [ev, ei, e4, e5]
      · rw [if_neg g1] at hst
        rw [hd]
        simp only [dig, if_pos (show b.toNat < 128 by omega)]
        have em : b.toNat % 128 = b.toNat := by omega
        rw [em] at hst
        have hz : (some b = some (0 : UInt8)) ↔ b.toNat = 0 := by
          rw [Option.some_inj]
          exact ⟨fun h => by rw [h]; rfl, fun h => UInt8.toNat_inj.1 (by simpa using h)⟩
        by_cases g2 : (b.toNat = 0 ∧ 0 < k) ∨ 1000000000 < acc + b.toNat * 128 ^ k
        · rw [if_pos g2] at hst
          rw [iter_done hst, if_pos]
          · rfl
          · rcases g2 with g | g
            · exact .inr ⟨by simpa using hz.2 g.1, by omega⟩
            · exact .inl g
        · rw [if_neg g2] at hst
          rw [iter_done hst, if_neg]
          · rfl
          · rintro (g | g)
            · exact g2 (.inr g)
            · exact g2 (.inl ⟨hz.1 (by simpa using g.1), by omega⟩)
    · rw [iter_done (r := .inr ()) (by unfold S_impl_ReadVar_1; simp only [ew]; rw [show decide (((a + k : Nat) : Int) < (t.length : Int)) = false from by simp; omega]; simp)]
      rw [List.drop_eq_nil_of_le (by omega)]
      simp [dig]
theorem spec_rv_loop {t : List UInt8} {a : Nat} (ht : t.length ≤ 4611686018427387904) (ha : a ≤ t.length) : ∀ (f k acc : Nat), f + k = 5 → acc < 128 ^ k →
    (iter (S_spec_ReadVar_1 t (a : Int)) ((acc : Int), ((128 ^ k : Nat) : Int), ((a + k : Nat) : Int))).bind (Sum.elim (fun r => some r) (fun _ => some (0, 0, false))) = some (match dig f (t.drop (a + k)) with
      | none => (0, 0, false)
      | some x => if 1000000000 < acc + x.1 * 128 ^ k ∨ vt ((acc + x.1 * 128 ^ k : Nat) : Int) ≠ (t.drop a).take (k + x.2) then (0, 0, false) else (((acc + x.1 * 128 ^ k : Nat) : Int), ((a + k + x.2 : Nat) : Int), true))
  | 0, k, acc, hk, _ => by
    have : k = 5 := by omega
    subst this
    have ew : w64 ((a : Int) + 5) = ((a + 5 : Nat) : Int) := by rw [w64_id (by omega) (by omega)]; omega
    rw [iter_done (r := .inr ()) (by
      unfold S_spec_ReadVar_1
      simp only [ew]
      rw [show decide (((a + 5 : Nat) : Int) < ((a + 5 : Nat) : Int)) = false from by simp]
      cases decide (((a + 5 : Nat) : Int) < (t.length : Int)) <;> simp)]
    simp [dig]
  | f + 1, k, acc, hk, hacc => by
    have ew : w64 ((a : Int) + 5) = ((a + 5 : Nat) : Int) := by rw [w64_id (by omega) (by omega)]; omega
    by_cases hlt : a + k < t.length
    · have hd : t.drop (a + k) = t[a + k] :: t.drop (a + k + 1) := List.drop_eq_getElem_cons hlt
      have hb := (t[a + k]).toNat_lt
      generalize hbv : t[a + k] = b at hd hb
      have hpk : 128 ^ k ≤ 128 ^ 4 := Nat.pow_le_pow_right (by omega) (by omega)
      have hpp : (b.toNat % 128) * 128 ^ k ≤ 127 * 128 ^ 4 := Nat.mul_le_mul (by omega) hpk
      have hq : (b.toNat % 128) * 128 ^ k ≤ 127 * 128 ^ k := Nat.mul_le_mul_right _ (by omega)
      have eb : w64 ((b.toNat : Nat) : Int) = (b.toNat : Int) := w64_nat (by omega)
      have em : w64 (Int.tmod (b.toNat : Int) 128 * ((128 ^ k : Nat) : Int)) = (((b.toNat % 128) * 128 ^ k : Nat) : Int) := by
        rw [Int.tmod_eq_emod_of_nonneg (by omega)]
        have : ((b.toNat : Int) % 128) * ((128 ^ k : Nat) : Int) = (((b.toNat % 128) * 128 ^ k : Nat) : Int) := by simp
        rw [this]
        exact w64_nat (by omega)
      have ea : w64 ((acc : Int) + (((b.toNat % 128) * 128 ^ k : Nat) : Int)) = ((acc + (b.toNat % 128) * 128 ^ k : Nat) : Int) := by
        rw [← Int.natCast_add]; exact w64_nat (by omega)
      have e128 : w64 (((128 ^ k : Nat) : Int) * 128) = ((128 ^ (k + 1) : Nat) : Int) := by
        rw [show ((128 ^ k : Nat) : Int) * 128 = ((128 ^ (k + 1) : Nat) : Int) by rw [Nat.pow_succ]; simp]
        exact w64_nat (by rw [Nat.pow_succ]; omega)
      have hsub : sub? t (a : Int) ((a + k + 1 : Nat) : Int) = some ((t.drop a).take (k + 1)) := by
        unfold sub?
        rw [if_pos (by omega)]
        have e1 : ((a + k + 1 : Nat) : Int).toNat = a + (k + 1) := by omega
        have e2 : (a : Int).toNat = a := by omega
        rw [e1, e2, List.drop_take]
        congr 2
        omega
      have hst : S_spec_ReadVar_1 t (a : Int) ((acc : Int), ((128 ^ k : Nat) : Int), ((a + k : Nat) : Int)) = if 127 < b.toNat then some (.inl (((acc + (b.toNat % 128) * 128 ^ k : Nat) : Int), ((128 ^ (k + 1) : Nat) : Int), ((a + k + 1 : Nat) : Int))) else if 1000000000 < acc + (b.toNat % 128) * 128 ^ k ∨ vt ((acc + (b.toNat % 128) * 128 ^ k : Nat) : Int) ≠ (t.drop a).take (k + 1) then some (.inr (.inl (0, 0, false))) else some (.inr (.inl (((acc + (b.toNat % 128) * 128 ^ k : Nat) : Int), ((a + k + 1 : Nat) : Int), true))) := by
        unfold S_spec_ReadVar_1
        simp only [show decide (((a + k : Nat) : Int) < (t.length : Int)) = true from by simp; omega, if_true, ew, show decide (((a + k : Nat) : Int) < ((a + 5 : Nat) : Int)) = true from by simp; omega, Option.bind_some, bt?_nat hlt, hbv, eb, em, ea, e128, hsub, w64_succ (show a + k < 9223372036854775807 by omega)]
        rw [spec_var (by omega) (by omega), Option.bind_some]
        generalize acc + b.toNat % 128 * 128 ^ k = M
        by_cases g1 : 127 < b.toNat
        · rw [if_pos g1, if_neg (by simp; omega)]
        · rw [if_neg g1, if_pos (by simp; omega)]
          have g4' : decide ((M : Int) > 1000000000) = decide (1000000000 < M) := by
            rw [decide_eq_decide]; omega
          rw [g4']
          by_cases g3 : 1000000000 < M <;> by_cases g4 : vt (M : Int) = (t.drop a).take (k + 1) <;> simp [g3, g4]
      by_cases g1 : 127 < b.toNat
      · rw [if_pos g1] at hst
        have ih := spec_rv_loop ht ha f (k + 1) (acc + (b.toNat % 128) * 128 ^ k) (by omega) (by rw [Nat.pow_succ]; omega)
        rw [show a + (k + 1) = a + k + 1 by omega] at ih
        rw [iter_next hst, ih, hd]
        simp only [dig, if_neg (show ¬ b.toNat < 128 by omega)]
        cases hdg : dig f (t.drop (a + k + 1)) with
        | none => rfl
        | some x =>
          have ev : acc + b.toNat % 128 * 128 ^ k + x.1 * 128 ^ (k + 1) = acc + (b.toNat - 128 + 128 * x.1) * 128 ^ k := by
            rw [show b.toNat % 128 = b.toNat - 128 by omega, Nat.pow_succ, Nat.add_mul]
            rw [show 128 * x.1 * 128 ^ k = x.1 * (128 ^ k * 128) by rw [Nat.mul_comm 128, Nat.mul_assoc, Nat.mul_comm 128]]
            omega
          have e4 : a + k + 1 + x.2 = a + k + (x.2 + 1) := by omega
          have e5 : k + 1 + x.2 = k + (x.2 + 1) := by omega
          simp only [ev, e4, e5]
      · rw [if_neg g1] at hst
        rw [hd]
        simp only [dig, if_pos (show b.toNat < 128 by omega)]
        have em : b.toNat % 128 = b.toNat := by omega
        rw [em] at hst
        by_cases g2 : 1000000000 < acc + b.toNat * 128 ^ k ∨ vt ((acc + b.toNat * 128 ^ k : Nat) : Int) ≠ (t.drop a).take (k + 1)
        · rw [if_pos g2] at hst
          rw [iter_done hst, if_pos g2]; rfl
        · rw [if_neg g2] at hst
          rw [iter_done hst, if_neg g2]; rfl
    · rw [iter_done (r := .inr ()) (by unfold S_spec_ReadVar_1; rw [show decide (((a + k : Nat) : Int) < (t.length : Int)) = false from by simp; omega]; simp)]
      rw [List.drop_eq_nil_of_le (by omega)]
      simp [dig]
theorem rv_over {t : List UInt8} {a : Nat} (h : t.length < a) : rv t a = none := by
  unfold rv
  rw [List.drop_eq_nil_of_le (by omega)]
  simp [dig]
theorem spec_rv {t : List UInt8} (ht : t.length ≤ 4611686018427387904) (a : Nat) : F_spec_ReadVar t (a : Int) = some (rvR (rv t a)) := by
  unfold F_spec_ReadVar
  rw [spec_in, Option.bind_some]
  by_cases ha : a ≤ t.length
  · rw [if_pos (by unfold inR; simp; omega)]
    have := spec_rv_loop ht ha 5 0 0 (by omega) (by simp)
    simp only [Nat.pow_zero, Nat.mul_one, Nat.zero_add, Nat.add_zero] at this
    rw [show ((0 : Nat) : Int) = 0 from rfl, show ((1 : Nat) : Int) = 1 from rfl] at this
    rw [this]
    unfold rv rvR
    cases hd : dig 5 (t.drop a) with
    | none => rfl
    | some x =>
      simp only []
      by_cases g1 : 1000000000 < x.1
      · rw [if_pos (.inl g1), if_neg (by omega)]
      · by_cases g2 : vt (x.1 : Int) = (t.drop a).take x.2
        · rw [if_neg (by rintro (g | g); exact g1 g; exact g g2), if_pos ⟨by omega, g2⟩]
        · rw [if_pos (.inr g2), if_neg (fun g => g2 g.2)]
  · rw [if_neg (by unfold inR; simp; omega), rv_over (by omega)]; rfl
theorem impl_rv {t : List UInt8} (ht : t.length ≤ 4611686018427387904) (a : Nat) : F_impl_ReadVar t (a : Int) = some (rvR (rv t a)) := by
  unfold F_impl_ReadVar
  rw [impl_in, Option.bind_some]
  by_cases ha : a ≤ t.length
  · rw [if_pos (by unfold inR; simp; omega)]
    have := impl_rv_loop ht ha 5 0 0 (by omega) (by simp)
    simp only [Nat.pow_zero, Nat.mul_one, Nat.zero_add, Nat.add_zero] at this
    rw [show ((0 : Nat) : Int) = 0 from rfl] at this
    rw [this]
    unfold rv rvR
    cases hd : dig 5 (t.drop a) with
    | none => rfl
    | some x =>
      have hc := dig_canon hd
      rw [← vt_nat] at hc
      simp only []
      by_cases g1 : 1000000000 < x.1
      · rw [if_pos (.inl g1), if_neg (by omega)]
      · by_cases g2 : vt (x.1 : Int) = (t.drop a).take x.2
        · have := hc.1 g2
          rw [if_neg (by rintro (g | g); exact g1 g; exact this ⟨g.2, g.1⟩), if_pos ⟨by omega, g2⟩]
        · rw [if_pos, if_neg (fun g => g2 g.2)]
          refine .inr ?_
          have : ¬ ¬ (1 < x.2 ∧ (t.drop a)[x.2 - 1]? = some 0) := fun h => g2 (hc.2 h)
          have := Classical.not_not.1 this
          exact ⟨this.2, this.1⟩
  · rw [if_neg (by unfold inR; simp; omega), rv_over (by omega)]; rfl
end Go.Proofs.Ytgdcbjoaoagbpaa.V
/- Checks that are read. -/
namespace Go.Proofs.Ytgdcbjoaoagbpaa.V
open Go Go.RowKit
set_option maxRecDepth 100000

/-! ### words with their length ahead, and seals -/
def rs (t : List UInt8) : Option (List UInt8 × Nat) := match rv t 0 with
  | some x => if x.1 ≤ 20000 ∧ x.2 + x.1 ≤ t.length then some ((t.drop x.2).take x.1, x.2 + x.1) else none
  | none => none
def rsR (o : Option (List UInt8 × Nat)) : List UInt8 × Int × Bool := match o with
  | some x => (x.1, (x.2 : Int), true)
  | none => ([], 0, false)
theorem sub?_mid {α : Type} {l : List α} {i n : Nat} (h : i + n ≤ l.length) : sub? l (i : Int) ((i + n : Nat) : Int) = some ((l.drop i).take n) := by
  unfold sub?
  rw [if_pos (by omega)]
  have e1 : ((i + n : Nat) : Int).toNat = i + n := by omega
  have e2 : (i : Int).toNat = i := by omega
  rw [e1, e2, List.drop_take]
  congr 2
  omega
theorem rs_some {t : List UInt8} (ht : t.length ≤ 8388608) {n p : Nat} (h2 : p ≤ t.length) (h3 : n ≤ 1000000000) : ((if !true then some true else (if decide ((n : Int) > 20000) then some true else (if decide ((n : Int) > (w64 ((t.length : Int) - (p : Int)))) then some true else some false))) : Option Bool).bind (fun y2 => (if y2 then some (([] : List UInt8), (0 : Int), false) else (sub? t (p : Int) (w64 ((p : Int) + (n : Int)))).bind fun v3 => some (v3, w64 ((p : Int) + (n : Int)), true))) = some (rsR (if n ≤ 20000 ∧ p + n ≤ t.length then some ((t.drop p).take n, p + n) else none)) := by
  have e1 : w64 ((t.length : Int) - (p : Int)) = (t.length : Int) - p := w64_id (by omega) (by omega)
  have e2 : w64 ((p : Int) + (n : Int)) = ((p + n : Nat) : Int) := by rw [w64_id (by omega) (by omega)]; omega
  rw [e1, e2]
  by_cases g1 : 20000 < n
  · rw [if_neg (by simp), if_pos (by simp <;> omega), if_neg (by omega)]; rfl
  · rw [if_neg (by simp), if_neg (by simp <;> omega)]
    by_cases g2 : p + n ≤ t.length
    · rw [if_neg (by simp <;> omega), if_pos ⟨by omega, g2⟩, Option.bind_some, if_neg (by simp), sub?_mid g2]; rfl
    · rw [if_pos (by simp <;> omega), if_neg (by omega)]; rfl
theorem rs_gen {t : List UInt8} (ht : t.length ≤ 8388608) : ((if !(rvR (rv t 0)).2.2 then some true else (if decide ((rvR (rv t 0)).1 > 20000) then some true else (if decide ((rvR (rv t 0)).1 > (w64 ((t.length : Int) - (rvR (rv t 0)).2.1))) then some true else some false))) : Option Bool).bind (fun y2 => (if y2 then some (([] : List UInt8), (0 : Int), false) else (sub? t (rvR (rv t 0)).2.1 (w64 ((rvR (rv t 0)).2.1 + (rvR (rv t 0)).1))).bind fun v3 => some (v3, w64 ((rvR (rv t 0)).2.1 + (rvR (rv t 0)).1), true))) = some (rsR (rs t)) := by
  unfold rs
  cases h : rv t 0 with
  | none => rfl
  | some x =>
    obtain ⟨h1, h2, h3⟩ := rv_bnd h
    exact rs_some ht h2 h3
theorem spec_rs {t : List UInt8} (ht : t.length ≤ 8388608) : F_spec_ReadShort t 0 = some (rsR (rs t)) := by
  unfold F_spec_ReadShort
  rw [show (0 : Int) = ((0 : Nat) : Int) from rfl, spec_rv (by omega) 0, Option.bind_some]
  exact rs_gen ht
theorem impl_rs {t : List UInt8} (ht : t.length ≤ 8388608) : F_impl_ReadShort t 0 = some (rsR (rs t)) := by
  unfold F_impl_ReadShort
  rw [show (0 : Int) = ((0 : Nat) : Int) from rfl, impl_rv (by omega) 0, Option.bind_some]
  exact rs_gen ht
theorem rs_short {s r : List UInt8} (h : s.length ≤ 20000) : rs (short s ++ r) = some (s, (short s).length) := by
  unfold rs
  rw [rv_vt (n := s.length) (r := s ++ r) (by simp [short]) (by omega)]
  have hl : (short s).length = (vt (s.length : Int)).length + s.length := by simp [short]
  simp only [Nat.zero_add]
  rw [if_pos ⟨h, by rw [List.length_append, hl]; omega⟩]
  simp [short]
theorem rs_bnd {t : List UInt8} {x : List UInt8 × Nat} (h : rs t = some x) : x.2 ≤ t.length ∧ x.1.length ≤ 20000 := by
  unfold rs at h
  split at h
  · rename_i y hy
    split at h
    · rename_i hc
      cases h
      refine ⟨hc.2, ?_⟩
      simp only [List.length_take]
      omega
    · cases h
  · cases h
def us (s : List UInt8) : Option (List UInt8) := if 4 ≤ s.length ∧ s.length ≤ 20004 ∧ s.drop (s.length - 4) = sealL (s.take (s.length - 4)) then some (s.take (s.length - 4)) else none
def usR (o : Option (List UInt8)) : List UInt8 × Bool := match o with
  | some x => (x, true)
  | none => ([], false)
theorem sub?_tail {α : Type} {l : List α} {i : Nat} (h : i ≤ l.length) : sub? l (i : Int) (l.length : Int) = some (l.drop i) := by
  unfold sub?
  rw [if_pos (by omega)]
  simp
theorem spec_us {s : List UInt8} (hs : s.length ≤ 8388608) : F_spec_Unsealed s = some (usR (us s)) := by
  unfold F_spec_Unsealed us
  by_cases h4 : 4 ≤ s.length
  · have e : w64 ((s.length : Int) - 4) = ((s.length - 4 : Nat) : Int) := by rw [w64_id (by omega) (by omega)]; omega
    rw [e, if_neg (by simp <;> omega)]
    by_cases h5 : s.length ≤ 20004
    · rw [if_neg (by simp <;> omega), sub?_tail (by omega), Option.bind_some, sub?_take (by omega), Option.bind_some, spec_sumOf (by simp <;> omega), Option.bind_some, spec_four, Option.bind_some]
      by_cases h6 : s.drop (s.length - 4) = sealL (s.take (s.length - 4))
      · rw [if_neg (by simp only [Bool.not_eq_true', beq_eq_false_iff_ne, ne_eq, Classical.not_not]; exact h6), Option.bind_some, if_neg (by simp), Option.bind_some, if_pos ⟨h4, h5, h6⟩]; rfl
      · rw [if_pos (by simp only [Bool.not_eq_true', beq_eq_false_iff_ne, ne_eq]; exact h6), if_neg (fun h => h6 h.2.2)]; rfl
    · rw [if_pos (by simp <;> omega), if_neg (by omega)]; rfl
  · have e : w64 ((s.length : Int) - 4) = (s.length : Int) - 4 := w64_id (by omega) (by omega)
    rw [e, if_pos (by simp <;> omega), if_neg (by omega)]; rfl
theorem impl_us {s : List UInt8} (hs : s.length ≤ 8388608) : F_impl_Unsealed s = some (usR (us s)) := by
  unfold F_impl_Unsealed us
  rw [impl_in, Option.bind_some]
  by_cases h4 : 4 ≤ s.length
  · have e : w64 ((s.length : Int) - 4) = ((s.length - 4 : Nat) : Int) := by rw [w64_id (by omega) (by omega)]; omega
    rw [e]
    by_cases h5 : s.length ≤ 20004
    · rw [if_pos (by rw [inR_iff]; omega), sub?_tail (by omega), Option.bind_some, sub?_take (by omega), Option.bind_some, impl_seal (by simp <;> omega), Option.bind_some]
      by_cases h6 : s.drop (s.length - 4) = sealL (s.take (s.length - 4))
      · rw [if_neg (by simp only [Bool.not_eq_true', beq_eq_false_iff_ne, ne_eq, Classical.not_not]; exact h6), Option.bind_some, if_neg (by simp), Option.bind_some, if_pos ⟨h4, h5, h6⟩]; rfl
      · rw [if_pos (by simp only [Bool.not_eq_true', beq_eq_false_iff_ne, ne_eq]; exact h6), if_neg (fun h => h6 h.2.2)]; rfl
    · rw [if_neg (by rw [inR_iff]; omega), if_neg (by omega)]; rfl
  · have e : w64 ((s.length : Int) - 4) = (s.length : Int) - 4 := w64_id (by omega) (by omega)
    rw [e, if_neg (by rw [inR_iff]; omega), if_neg (by omega)]; rfl
theorem us_sealed {b : List UInt8} (h : b.length ≤ 20000) : us (b ++ sealL b) = some b := by
  have hl : (b ++ sealL b).length = b.length + 4 := by rw [List.length_append, sealL_len]
  unfold us
  rw [hl, Nat.add_sub_cancel, List.take_left, List.drop_left, if_pos ⟨by omega, by omega, rfl⟩]
theorem us_bnd {s x : List UInt8} (h : us s = some x) : x.length ≤ s.length := by
  unfold us at h
  split at h
  · cases h; simp
  · cases h
end Go.Proofs.Ytgdcbjoaoagbpaa.V
/- A check is read as it was told. -/
namespace Go.Proofs.Ytgdcbjoaoagbpaa.V
open Go Go.RowKit
set_option maxRecDepth 100000

def check0 : TCheck := { Stamp := 0, NextGen := 0, NextSeq := 0, NextValid := 0, Refs := [] }
/-- The text begins with what tells this check. -/
def goodC (t : List UInt8) (c : TCheck) : Prop := checkText c = (ctOut c, true) ∧ ∃ r, t = ctOut c ++ r
theorem good_ok {t : List UInt8} {c : TCheck} (h : goodC t c) : checkOk c = true := by
  have := h.1
  unfold checkText at this
  split at this
  · assumption
  · exact absurd (congrArg Prod.snd this) (by simp)
theorem text_good {t : List UInt8} {c : TCheck} {e : Nat} (h2 : (checkText c).2 = true) (h : (checkText c).1 = t.take e) : goodC t c := by
  have hk : checkText c = (ctOut c, true) := by
    unfold checkText at h2 ⊢
    split
    · rw [if_pos (by assumption)] at h2
      split
      · rw [if_pos (by assumption)] at h2; cases h2
      · rfl
    · rw [if_neg (by assumption)] at h2; cases h2
  refine ⟨hk, t.drop e, ?_⟩
  rw [hk] at h
  rw [show ctOut c = t.take e from h, List.take_append_drop]
theorem good_read {t : List UInt8} {c : TCheck} (h : goodC t c) : rs t = some (ctBody c ++ sealL (ctBody c), (ctOut c).length) ∧ us (ctBody c ++ sealL (ctBody c)) = some (ctBody c) := by
  obtain ⟨r, hr⟩ := h.2
  have hl := ctBody_len (good_ok h)
  refine ⟨?_, us_sealed (by omega)⟩
  rw [hr]
  exact rs_short (by rw [List.length_append, sealL_len]; omega)
/-- The two ends of a reading: what it is worth is told by the text alone. -/
theorem read_same {t : List UInt8} {F G : Option (TCheck × Bool)} (f1 : ∃ r, F = some r ∧ (r.2 = true → goodC t r.1) ∧ (r.2 = false → r.1 = check0)) (f2 : ∀ c, goodC t c → F = some (c, true))
    (g1 : ∃ r, G = some r ∧ (r.2 = true → goodC t r.1) ∧ (r.2 = false → r.1 = check0)) (g2 : ∀ c, goodC t c → G = some (c, true)) : F = G := by
  obtain ⟨⟨rc, rb⟩, h1, h2, h3⟩ := f1
  obtain ⟨⟨sc, sb⟩, k1, k2, k3⟩ := g1
  cases rb with
  | true => rw [h1, g2 rc (h2 rfl)]
  | false =>
    cases sb with
    | true => rw [f2 sc (k2 rfl), k1]
    | false => rw [h1, k1]; simp only at h3 k3; rw [h3 trivial, k3 trivial]

theorem rv_at {A B : List UInt8} {z : Int} (h : 0 ≤ z ∧ z ≤ 1000000000) : rvR (rv (A ++ (vt z ++ B)) A.length) = (z, ((A ++ vt z).length : Int), true) := by
  obtain ⟨n, rfl⟩ : ∃ n : Nat, z = n := ⟨z.toNat, by omega⟩
  rw [rv_vt (n := n) (r := B) (by rw [List.drop_left]) (by omega)]
  simp [rvR]

/-! ### the program's reading -/
theorem impl_nums {v : List UInt8 × Bool} (hv : v.1.length ≤ 8388608) : ∃ o : (TCheck × Bool) ⊕ List Int, iter (S_impl_ReadCheck_1 v) (0, []) = some o ∧ (o = .inl (check0, false) ∨ ∃ l, o = .inr l ∧ l.length ≤ v.1.length) := by
  refine iter_inv (fun s => ∃ a : Nat, s.1 = (a : Int) ∧ a ≤ v.1.length ∧ s.2.length ≤ a) (fun s => v.1.length - s.1.toNat) _ ?_ (0, []) ⟨0, rfl, by omega, by simp⟩
  rintro ⟨_, l⟩ ⟨a, rfl, ha, hl⟩
  simp only at hl
  unfold S_impl_ReadCheck_1
  by_cases h : a < v.1.length
  · rw [if_pos (by simpa using h), impl_rv (t := v.1) (by omega) a, Option.bind_some]
    cases hr : rv v.1 a with
    | none => exact .inr ⟨.inl (check0, false), rfl, .inl rfl⟩
    | some x =>
      obtain ⟨h1, h2, h3⟩ := rv_bnd hr
      refine .inl ⟨((x.2 : Int), l ++ [(x.1 : Int)]), ?_, ⟨x.2, rfl, h2, by simp <;> omega⟩, by simp only [Int.toNat_natCast]; omega⟩
      rw [show rvR (some x) = ((x.1 : Int), (x.2 : Int), true) from rfl, if_neg (by simp), app?_ok (by simp <;> omega) (by simp <;> omega)]
      rfl
  · refine .inr ⟨.inr l, ?_, .inr ⟨l, rfl, by omega⟩⟩
    rw [if_neg (by simpa using h)]
theorem impl_pairs {l : List Int} (hl : l.length ≤ 8388608) : ∃ o, iter (S_impl_ReadCheck_2 l) (5, []) = some o ∧ o.length ≤ l.length := by
  refine iter_inv (fun s => ∃ j : Nat, s.1 = ((5 + 2 * j : Nat) : Int) ∧ s.2.length = j ∧ j ≤ l.length) (fun s => l.length + 10 - s.1.toNat) _ ?_ (5, []) ⟨0, rfl, by simp, by omega⟩
  rintro ⟨_, m⟩ ⟨j, rfl, hm, hj⟩
  simp only at hm
  unfold S_impl_ReadCheck_2
  have ew : w64 (((5 + 2 * j : Nat) : Int) + 1) = ((5 + 2 * j + 1 : Nat) : Int) := w64_succ (by omega)
  have ew2 : w64 (((5 + 2 * j : Nat) : Int) + 2) = ((5 + 2 * (j + 1) : Nat) : Int) := by rw [w64_id (by omega) (by omega)]; omega
  simp only [ew, ew2]
  by_cases h : 5 + 2 * j + 1 < l.length
  · refine .inl ⟨(((5 + 2 * (j + 1) : Nat) : Int), m ++ [{ No := l[5 + 2 * j], Gen := l[5 + 2 * j + 1] }]), ?_, ⟨j + 1, rfl, by simp [hm], by omega⟩, by simp only [Int.toNat_natCast]; omega⟩
    simp only [dlt h, if_true, at?_nat h, at?_nat (show 5 + 2 * j < l.length by omega), Option.bind_some]
    rw [app?_ok (by simp <;> omega) (by simp <;> omega)]
    rfl
  · refine .inr ⟨m, ?_, by omega⟩
    rw [if_neg (by simp only [decide_eq_true_eq]; omega)]
theorem impl_readA {t : List UInt8} (ht : t.length ≤ 8388608) : ∃ r, F_impl_ReadCheck t = some r ∧ (r.2 = true → goodC t r.1) ∧ (r.2 = false → r.1 = check0) := by
  have fail : ∃ r, some (check0, false) = some r ∧ (r.2 = true → goodC t r.1) ∧ (r.2 = false → r.1 = check0) := ⟨_, rfl, by simp, by simp⟩
  unfold F_impl_ReadCheck
  rw [impl_rs ht, Option.bind_some]
  cases h1 : rs t with
  | none =>
    rw [show rsR none = ([], 0, false) from rfl, impl_us (by simp), Option.bind_some, if_pos (by simp)]
    exact fail
  | some x =>
    obtain ⟨b1, b2⟩ := rs_bnd h1
    rw [show rsR (some x) = (x.1, (x.2 : Int), true) from rfl]
    dsimp only
    rw [impl_us (by omega), Option.bind_some, if_neg (by simp)]
    cases h2 : us x.1 with
    | none => rw [show usR none = ([], false) from rfl, if_pos (by simp)]; exact fail
    | some s =>
      have b3 := us_bnd h2
      rw [show usR (some s) = (s, true) from rfl, if_neg (by simp)]
      obtain ⟨o, h3, h4⟩ := impl_nums (v := (s, true)) (by dsimp only; omega)
      rw [h3, Option.bind_some]
      rcases h4 with rfl | ⟨l, rfl, hl⟩
      · exact fail
      · dsimp only at hl
        rw [Sum.elim_inr]
        by_cases h5 : l.length < 5
        · rw [if_pos (by simp <;> omega)]; exact fail
        · rw [if_neg (by simp <;> omega)]
          have a0 := at?_nat (l := l) (i := 0) (by omega)
          have a1 := at?_nat (l := l) (i := 1) (by omega)
          have a2 := at?_nat (l := l) (i := 2) (by omega)
          have a3 := at?_nat (l := l) (i := 3) (by omega)
          rw [show ((0 : Nat) : Int) = 0 from rfl] at a0
          rw [show ((1 : Nat) : Int) = 1 from rfl] at a1
          rw [show ((2 : Nat) : Int) = 2 from rfl] at a2
          rw [show ((3 : Nat) : Int) = 3 from rfl] at a3
          obtain ⟨o, h6, h7⟩ := impl_pairs (l := l) (by omega)
          rw [a0, Option.bind_some, a1, Option.bind_some, a2, Option.bind_some, a3, Option.bind_some, h6, Option.bind_some, impl_checkText (by simp only []; omega), Option.bind_some]
          generalize hc : ({ Stamp := l[0], NextGen := l[1], NextSeq := l[2], NextValid := l[3], Refs := o } : TCheck) = c
          cases h8 : (checkText c).2 with
          | false => simp only [Bool.not_false, if_true, Option.bind_some]; exact fail
          | true =>
            simp only [Bool.not_true, Bool.false_eq_true, if_false]
            rw [sub?_take b1, Option.bind_some]
            by_cases h9 : (checkText c).1 = t.take x.2
            · rw [if_neg (by simpa using h9), Option.bind_some, if_neg (by simp)]
              exact ⟨_, rfl, fun _ => by simp only [hc]; exact text_good h8 h9, by simp⟩
            · rw [if_pos (by simpa using h9), Option.bind_some, if_pos rfl]
              exact fail
def nums (c : TCheck) : List Int := [c.Stamp, c.NextGen, c.NextSeq, c.NextValid, (c.Refs.length : Int)] ++ c.Refs.flatMap fun r => [r.No, r.Gen]
theorem nums_text (c : TCheck) : ctBody c = (nums c).flatMap vt := by
  unfold ctBody ctHead nums
  simp only [List.flatMap_append, List.flatMap_cons, List.flatMap_nil, List.append_nil, List.append_assoc]
  congr 5
  rw [List.flatMap_assoc]
  congr 1
  funext r
  simp [refT]
theorem nums_rng {c : TCheck} (h : checkOk c = true) : ∀ z ∈ nums c, 0 ≤ z ∧ z ≤ 1000000000 := by
  obtain ⟨⟨h1, h2, h3, h4⟩, h5, h6⟩ := checkOk_rng h
  intro z hz
  unfold nums at hz
  simp only [List.mem_append, List.mem_cons, List.not_mem_nil, or_false, List.mem_flatMap] at hz
  rcases hz with (rfl | rfl | rfl | rfl | rfl) | ⟨r, hr, rfl | rfl⟩
  any_goals omega
  · have := h6 r hr; omega
  · have := h6 r hr; omega
theorem pairs_len (l : List TRef) : (l.flatMap fun r => [r.No, r.Gen]).length = 2 * l.length := by
  induction l with
  | nil => rfl
  | cons x l ih => simp only [List.flatMap_cons, List.length_append, ih, List.length_cons, List.length_nil]; omega
theorem nums_len (c : TCheck) : (nums c).length = 5 + 2 * c.Refs.length := by
  unfold nums
  rw [List.length_append, pairs_len]; rfl
theorem pairs_get : ∀ (l : List TRef) (j : Nat) (h : j < l.length), (l.flatMap fun r => [r.No, r.Gen])[2 * j]? = some l[j].No ∧ (l.flatMap fun r => [r.No, r.Gen])[2 * j + 1]? = some l[j].Gen
  | [], j, h => by simp at h
  | x :: l, 0, _ => by simp
  | x :: l, j + 1, h => by
    have := pairs_get l j (by simpa using h)
    rw [show 2 * (j + 1) = 2 * j + 1 + 1 by omega, show 2 * j + 1 + 1 + 1 = (2 * j + 1) + 1 + 1 by omega]
    simpa using this
theorem impl_readB {t : List UInt8} (ht : t.length ≤ 8388608) {c : TCheck} (h : goodC t c) : F_impl_ReadCheck t = some (c, true) := by
  have hk := good_ok h
  obtain ⟨h1, h2⟩ := good_read h
  have hb := ctBody_len hk
  have hrg := nums_rng hk
  obtain ⟨_, h5, _⟩ := checkOk_rng hk
  obtain ⟨b1, b2⟩ := rs_bnd h1
  have hnl := nums_len c
  have l1 : iter (S_impl_ReadCheck_1 (ctBody c, true)) (0, []) = some (.inr (nums c)) := by
    have := iter_range (step := S_impl_ReadCheck_1 (ctBody c, true)) (fun j => ((((nums c).take j).flatMap vt).length, (nums c).take j)) (nums c).length (r := .inr (nums c)) ?_ ?_
    · simpa using this
    · intro j hj
      have hz := hrg _ (List.getElem_mem hj)
      have hsp : ctBody c = ((nums c).take j).flatMap vt ++ (vt (nums c)[j] ++ ((nums c).drop (j + 1)).flatMap vt) := by
        rw [nums_text]
        conv => lhs; rw [← List.take_append_drop j (nums c), List.drop_eq_getElem_cons hj, List.flatMap_append, List.flatMap_cons]
      have hlt : (((nums c).take j).flatMap vt).length < (ctBody c).length := by
        have hv : 0 < (vt (nums c)[j]).length := by
          obtain ⟨n, hn⟩ : ∃ n : Nat, (nums c)[j] = n := ⟨_, (Int.toNat_of_nonneg hz.1).symm⟩
          rw [hn, vt_nat, List.length_map]
          unfold vtl
          split <;> simp
        rw [hsp]
        simp only [List.length_append]
        omega
      have hrv : rvR (rv (ctBody c) (((nums c).take j).flatMap vt).length) = ((nums c)[j], ((((nums c).take j).flatMap vt ++ vt (nums c)[j]).length : Int), true) := by
        conv => lhs; rw [hsp]
        exact rv_at hz
      have hnx : ((nums c).take (j + 1)).flatMap vt = ((nums c).take j).flatMap vt ++ vt (nums c)[j] := by
        rw [List.take_succ_eq_append_getElem hj, List.flatMap_append, List.flatMap_cons, List.flatMap_nil, List.append_nil]
      have htl : ((nums c).take j).length ≤ 30 := by rw [List.length_take]; omega
      rw [hnx, List.take_succ_eq_append_getElem hj]
      generalize hq : ((nums c).take j).flatMap vt = q at hlt hrv
      generalize hm : (nums c).take j = m at htl
      generalize (nums c)[j] = z at hrv
      unfold S_impl_ReadCheck_1
      dsimp only
      rw [if_pos (by simpa using hlt), impl_rv (t := ctBody c) (by omega), Option.bind_some, hrv, if_neg (by simp), app?_ok (by rw [List.length_singleton]; omega) (by rw [List.length_singleton]; omega)]
      rfl
    · unfold S_impl_ReadCheck_1
      simp [nums_text]
  have l2 : iter (S_impl_ReadCheck_2 (nums c)) (5, []) = some c.Refs := by
    have := iter_range (step := S_impl_ReadCheck_2 (nums c)) (fun j => (((5 + 2 * j : Nat) : Int), c.Refs.take j)) c.Refs.length (r := c.Refs) ?_ ?_
    · simpa using this
    · intro j hj
      unfold S_impl_ReadCheck_2
      have ew : w64 (((5 + 2 * j : Nat) : Int) + 1) = ((5 + 2 * j + 1 : Nat) : Int) := w64_succ (by omega)
      have ew2 : w64 (((5 + 2 * j : Nat) : Int) + 2) = ((5 + 2 * (j + 1) : Nat) : Int) := by rw [w64_id (by omega) (by omega)]; omega
      obtain ⟨g1, g2⟩ := pairs_get c.Refs j hj
      have q1 : at? (nums c) ((5 + 2 * j : Nat) : Int) = some c.Refs[j].No := at?_eq (by
        unfold nums; rw [List.getElem?_append_right (by simp)]; simpa using g1)
      have q2 : at? (nums c) ((5 + 2 * j + 1 : Nat) : Int) = some c.Refs[j].Gen := at?_eq (by
        unfold nums; rw [List.getElem?_append_right (by simp <;> omega)]
        rw [show 5 + 2 * j + 1 - [c.Stamp, c.NextGen, c.NextSeq, c.NextValid, (c.Refs.length : Int)].length = 2 * j + 1 by simp <;> omega]
        exact g2)
      have htl : (c.Refs.take j).length ≤ 30 := by rw [List.length_take]; omega
      rw [List.take_succ_eq_append_getElem hj]
      generalize hm : c.Refs.take j = m at htl
      dsimp only
      rw [ew, if_pos (by simp only [decide_eq_true_eq]; omega), q1, Option.bind_some, q2, Option.bind_some, app?_ok (by rw [List.length_singleton]; omega) (by rw [List.length_singleton]; omega), Option.bind_some, ew2]
    · unfold S_impl_ReadCheck_2
      have ew : w64 (((5 + 2 * c.Refs.length : Nat) : Int) + 1) = ((5 + 2 * c.Refs.length + 1 : Nat) : Int) := w64_succ (by omega)
      rw [ew, if_neg (by simp only [decide_eq_true_eq]; omega)]
      simp
  obtain ⟨r, hr⟩ := h.2
  have htk : t.take (ctOut c).length = ctOut c := by rw [hr, List.take_left]
  unfold F_impl_ReadCheck
  rw [impl_rs ht, Option.bind_some, h1]
  rw [show rsR (some (ctBody c ++ sealL (ctBody c), (ctOut c).length)) = (ctBody c ++ sealL (ctBody c), ((ctOut c).length : Int), true) from rfl]
  dsimp only
  rw [impl_us (by dsimp only at b2; omega), Option.bind_some, if_neg (by simp), h2, show usR (some (ctBody c)) = (ctBody c, true) from rfl, if_neg (by simp), l1, Option.bind_some, Sum.elim_inr]
  rw [if_neg (by simp only [decide_eq_true_eq]; omega), show at? (nums c) 0 = some c.Stamp from at?_eq (i := 0) (by simp [nums]), Option.bind_some, show at? (nums c) 1 = some c.NextGen from at?_eq (i := 1) (by simp [nums]), Option.bind_some, show at? (nums c) 2 = some c.NextSeq from at?_eq (i := 2) (by simp [nums]), Option.bind_some, show at? (nums c) 3 = some c.NextValid from at?_eq (i := 3) (by simp [nums]), Option.bind_some, l2, Option.bind_some]
  rw [show ({ Stamp := c.Stamp, NextGen := c.NextGen, NextSeq := c.NextSeq, NextValid := c.NextValid, Refs := c.Refs } : TCheck) = c from rfl, impl_checkText (by dsimp only; omega), Option.bind_some, h.1]
  simp only [Bool.not_true, Bool.false_eq_true, if_false]
  rw [sub?_take b1, Option.bind_some, htk, if_neg (by simp), Option.bind_some]
  rfl
end Go.Proofs.Ytgdcbjoaoagbpaa.V
/- The document's reading of a check, and the law. -/
namespace Go.Proofs.Ytgdcbjoaoagbpaa.V
open Go Go.RowKit
set_option maxRecDepth 100000

theorem spec_cur {s : List UInt8} (hs : s.length ≤ 8388608) (a : Nat) (bad : Bool) : F_spec_l06Var_w { mText := s, mAt := (a : Int), mBad := bad } = some (if bad then (0, { mText := s, mAt := (a : Int), mBad := true }) else match rv s a with | some x => ((x.1 : Int), { mText := s, mAt := (x.2 : Int), mBad := false }) | none => (0, { mText := s, mAt := (a : Int), mBad := true })) := by
  unfold F_spec_l06Var_w
  dsimp only
  rw [spec_rv (t := s) (by omega) a, Option.bind_some]
  cases bad with
  | true => rfl
  | false =>
    cases rv s a with
    | none => rfl
    | some x => rfl
theorem spec_curA {s : List UInt8} (hs : s.length ≤ 8388608) (a : Nat) (bad : Bool) : ∃ (n : Int) (b : Nat) (bad' : Bool), F_spec_l06Var_w { mText := s, mAt := (a : Int), mBad := bad } = some (n, { mText := s, mAt := (b : Int), mBad := bad' }) := by
  rw [spec_cur hs]
  cases bad with
  | true => exact ⟨0, a, true, rfl⟩
  | false =>
    cases rv s a with
    | none => exact ⟨0, a, true, rfl⟩
    | some x => exact ⟨x.1, x.2, false, rfl⟩
theorem spec_curB {A B : List UInt8} {z : Int} (hs : (A ++ (vt z ++ B)).length ≤ 8388608) (h : 0 ≤ z ∧ z ≤ 1000000000) : F_spec_l06Var_w { mText := A ++ (vt z ++ B), mAt := (A.length : Int), mBad := false } = some (z, { mText := A ++ (vt z ++ B), mAt := ((A ++ vt z).length : Int), mBad := false }) := by
  obtain ⟨n, rfl⟩ : ∃ n : Nat, z = n := ⟨z.toNat, by omega⟩
  rw [spec_cur hs, rv_vt (n := n) (r := B) (by rw [List.drop_left]) (by omega)]
  simp
theorem spec_refsA {s : List UInt8} (hs : s.length ≤ 8388608) (v : Int × TL06Cur) (a : Nat) (bad : Bool) : ∃ (b : Nat) (bad' : Bool) (l : List TRef), iter (S_spec_ReadCheck_1 v) (0, s, (a : Int), bad, []) = some (s, (b : Int), bad', l) ∧ l.length ≤ 20 := by
  have := iter_inv (step := S_spec_ReadCheck_1 v) (fun st => ∃ (j b : Nat) (bad' : Bool) (l : List TRef), st = ((j : Int), s, (b : Int), bad', l) ∧ l.length = j ∧ j ≤ 20) (fun st => 20 - st.1.toNat) (fun r => ∃ (b : Nat) (bad' : Bool) (l : List TRef), r = (s, (b : Int), bad', l) ∧ l.length ≤ 20) ?_ (0, s, (a : Int), bad, []) ⟨0, a, bad, [], rfl, rfl, by omega⟩
  · obtain ⟨r, h1, b, bad', l, h2, h3⟩ := this
    exact ⟨b, bad', l, by rw [h1, h2], h3⟩
  · rintro _ ⟨j, b, bad', l, rfl, hl, hj⟩
    unfold S_spec_ReadCheck_1
    dsimp only
    by_cases c : (decide ((j : Int) < v.1) && (decide ((j : Int) < 20) && !bad')) = true
    · simp only [Bool.and_eq_true, decide_eq_true_eq, Bool.not_eq_true'] at c
      obtain ⟨c1, c2, c3⟩ := c
      subst c3
      obtain ⟨n1, b1, d1, e1⟩ := spec_curA hs b false
      obtain ⟨n2, b2, d2, e2⟩ := spec_curA hs b1 d1
      refine .inl ⟨(((j + 1 : Nat) : Int), s, (b2 : Int), d2, l ++ [{ No := n1, Gen := n2 }]), ?_, ⟨j + 1, b2, d2, _, rfl, by simp [hl], by omega⟩, by simp only [Int.toNat_natCast]; omega⟩
      rw [if_pos (by simpa using c1), if_pos (by simpa using c2), Option.bind_some, if_pos (by simp), e1, Option.bind_some]
      dsimp only
      rw [e2, Option.bind_some]
      dsimp only
      rw [app?_ok (by rw [List.length_singleton]; omega) (by rw [List.length_singleton]; omega), Option.bind_some, w64_succ (by omega)]
    · refine .inr ⟨(s, (b : Int), bad', l), ?_, b, bad', l, rfl, by omega⟩
      have : (if decide ((j : Int) < v.1) = true then (if decide ((j : Int) < 20) = true then some (!bad') else some false) else some false) = some false := by
        by_cases c1 : (j : Int) < v.1 <;> by_cases c2 : (j : Int) < 20 <;> cases bad' <;> simp_all
      rw [this, Option.bind_some, if_neg (by simp)]
theorem spec_readA {t : List UInt8} (ht : t.length ≤ 8388608) : ∃ r, F_spec_ReadCheck t = some r ∧ (r.2 = true → goodC t r.1) ∧ (r.2 = false → r.1 = check0) := by
  have fail : ∃ r, some (check0, false) = some r ∧ (r.2 = true → goodC t r.1) ∧ (r.2 = false → r.1 = check0) := ⟨_, rfl, by simp, by simp⟩
  unfold F_spec_ReadCheck
  rw [spec_rs ht, Option.bind_some]
  cases h1 : rs t with
  | none =>
    rw [show rsR none = ([], 0, false) from rfl, spec_us (by simp), Option.bind_some, if_pos (by simp)]
    exact fail
  | some x =>
    obtain ⟨b1, b2⟩ := rs_bnd h1
    rw [show rsR (some x) = (x.1, (x.2 : Int), true) from rfl]
    dsimp only
    rw [spec_us (by omega), Option.bind_some, if_neg (by simp)]
    cases h2 : us x.1 with
    | none => rw [show usR none = ([], false) from rfl, if_pos (by simp)]; exact fail
    | some s =>
      have b3 := us_bnd h2
      rw [show usR (some s) = (s, true) from rfl, if_neg (by simp)]
      dsimp only
      have hs : s.length ≤ 8388608 := by omega
      obtain ⟨n1, a1, d1, e1⟩ := spec_curA hs 0 false
      obtain ⟨n2, a2, d2, e2⟩ := spec_curA hs a1 d1
      obtain ⟨n3, a3, d3, e3⟩ := spec_curA hs a2 d2
      obtain ⟨n4, a4, d4, e4⟩ := spec_curA hs a3 d3
      obtain ⟨n5, a5, d5, e5⟩ := spec_curA hs a4 d4
      obtain ⟨a6, d6, l, e6, hl⟩ := spec_refsA hs (n5, { mText := s, mAt := (a5 : Int), mBad := d5 }) a5 d5
      rw [show ((0 : Nat) : Int) = 0 from rfl] at e1
      rw [e1, Option.bind_some]
      dsimp only
      rw [e2, Option.bind_some]
      dsimp only
      rw [e3, Option.bind_some]
      dsimp only
      rw [e4, Option.bind_some]
      dsimp only
      rw [e5, Option.bind_some]
      dsimp only
      rw [e6, Option.bind_some]
      dsimp only
      rw [spec_checkText (by dsimp only; omega), Option.bind_some]
      generalize hc : ({ Stamp := n1, NextGen := n2, NextSeq := n3, NextValid := n4, Refs := l } : TCheck) = c
      cases d6 with
      | true => exact fail
      | false =>
        rw [if_neg (by simp)]
        cases h8 : (checkText c).2 with
        | false => exact fail
        | true =>
          rw [if_neg (by simp), sub?_take b1, Option.bind_some]
          by_cases h9 : (checkText c).1 = t.take x.2
          · rw [if_neg (by simpa using h9), Option.bind_some, if_neg (by simp)]
            exact ⟨_, rfl, fun _ => by first | exact text_good h8 h9 | (dsimp only; rw [hc]; exact text_good h8 h9), fun h => absurd h (by simp)⟩
          · rw [if_pos (by simpa using h9), Option.bind_some, if_pos rfl]
            exact fail
theorem spec_readB {t : List UInt8} (ht : t.length ≤ 8388608) {c : TCheck} (h : goodC t c) : F_spec_ReadCheck t = some (c, true) := by
  have hk := good_ok h
  obtain ⟨h1, h2⟩ := good_read h
  have hb := ctBody_len hk
  obtain ⟨⟨r1, r2, r3, r4⟩, h5, h6⟩ := checkOk_rng hk
  obtain ⟨b1, b2⟩ := rs_bnd h1
  have hs : (ctBody c).length ≤ 8388608 := by omega
  -- the body, cut at a place
  have rd : ∀ {A B : List UInt8} {z : Int}, ctBody c = A ++ (vt z ++ B) → 0 ≤ z ∧ z ≤ 1000000000 → F_spec_l06Var_w { mText := ctBody c, mAt := (A.length : Int), mBad := false } = some (z, { mText := ctBody c, mAt := ((A ++ vt z).length : Int), mBad := false }) := by
    intro A B z he hz
    rw [he] at hs ⊢
    exact spec_curB hs hz
  have e1 := rd (A := []) (z := c.Stamp) (B := vt c.NextGen ++ (vt c.NextSeq ++ (vt c.NextValid ++ (vt c.Refs.length ++ c.Refs.flatMap refT)))) (by simp [ctBody, ctHead]) (by omega)
  have e2 := rd (A := [] ++ vt c.Stamp) (z := c.NextGen) (B := vt c.NextSeq ++ (vt c.NextValid ++ (vt c.Refs.length ++ c.Refs.flatMap refT))) (by simp [ctBody, ctHead]) (by omega)
  have e3 := rd (A := [] ++ vt c.Stamp ++ vt c.NextGen) (z := c.NextSeq) (B := vt c.NextValid ++ (vt c.Refs.length ++ c.Refs.flatMap refT)) (by simp [ctBody, ctHead]) (by omega)
  have e4 := rd (A := [] ++ vt c.Stamp ++ vt c.NextGen ++ vt c.NextSeq) (z := c.NextValid) (B := vt c.Refs.length ++ c.Refs.flatMap refT) (by simp [ctBody, ctHead]) (by omega)
  have e5 := rd (A := [] ++ vt c.Stamp ++ vt c.NextGen ++ vt c.NextSeq ++ vt c.NextValid) (z := c.Refs.length) (B := c.Refs.flatMap refT) (by simp [ctBody, ctHead]) (by omega)
  have hh : [] ++ vt c.Stamp ++ vt c.NextGen ++ vt c.NextSeq ++ vt c.NextValid ++ vt c.Refs.length = ctHead c := by simp [ctHead]
  have e6 : ∀ v : TL06Cur, iter (S_spec_ReadCheck_1 ((c.Refs.length : Int), v)) (0, ctBody c, ((ctHead c).length : Int), false, []) = some (ctBody c, ((ctBody c).length : Int), false, c.Refs) := by
    intro v
    have := iter_range (step := S_spec_ReadCheck_1 ((c.Refs.length : Int), v)) (fun j => ((j : Int), ctBody c, ((ctHead c ++ (c.Refs.take j).flatMap refT).length : Int), false, c.Refs.take j)) c.Refs.length (r := (ctBody c, ((ctBody c).length : Int), false, c.Refs)) ?_ ?_
    · simpa using this
    · intro j hj
      have hr := h6 _ (List.getElem_mem hj)
      have hsp : ctBody c = (ctHead c ++ (c.Refs.take j).flatMap refT) ++ (vt c.Refs[j].No ++ (vt c.Refs[j].Gen ++ (c.Refs.drop (j + 1)).flatMap refT)) := by
        unfold ctBody
        conv => lhs; rw [← List.take_append_drop j c.Refs, List.drop_eq_getElem_cons hj, List.flatMap_append, List.flatMap_cons]
        simp [refT]
      have g1 := rd hsp (by omega)
      have g2 := rd (A := (ctHead c ++ (c.Refs.take j).flatMap refT) ++ vt c.Refs[j].No) (z := c.Refs[j].Gen) (B := (c.Refs.drop (j + 1)).flatMap refT) (by rw [hsp]; simp) (by omega)
      have hnx : (c.Refs.take (j + 1)).flatMap refT = (c.Refs.take j).flatMap refT ++ (vt c.Refs[j].No ++ vt c.Refs[j].Gen) := by
        rw [List.take_succ_eq_append_getElem hj, List.flatMap_append, List.flatMap_cons, List.flatMap_nil, List.append_nil]; rfl
      have htl : (c.Refs.take j).length ≤ 30 := by rw [List.length_take]; omega
      unfold S_spec_ReadCheck_1
      dsimp only
      rw [if_pos (by simpa using hj), if_pos (by simp <;> omega), Option.bind_some, if_pos (by simp), g1, Option.bind_some]
      dsimp only
      rw [g2, Option.bind_some]
      dsimp only
      rw [app?_ok (by rw [List.length_singleton]; omega) (by rw [List.length_singleton]; omega), Option.bind_some, w64_succ (by omega), hnx, List.take_succ_eq_append_getElem hj]
      simp only [List.append_assoc]
    · unfold S_spec_ReadCheck_1
      dsimp only
      rw [if_neg (by simp), Option.bind_some, if_neg (by simp), List.take_length]
      rfl
  obtain ⟨r, hr⟩ := h.2
  have htk : t.take (ctOut c).length = ctOut c := by rw [hr, List.take_left]
  unfold F_spec_ReadCheck
  rw [spec_rs ht, Option.bind_some, h1, show rsR (some (ctBody c ++ sealL (ctBody c), (ctOut c).length)) = (ctBody c ++ sealL (ctBody c), ((ctOut c).length : Int), true) from rfl]
  dsimp only
  rw [spec_us (by dsimp only at b2; omega), Option.bind_some, if_neg (by simp), h2, show usR (some (ctBody c)) = (ctBody c, true) from rfl, if_neg (by simp)]
  dsimp only
  rw [show ((([] : List UInt8).length : Nat) : Int) = 0 from rfl] at e1
  rw [e1, Option.bind_some]
  dsimp only
  rw [e2, Option.bind_some]
  dsimp only
  rw [e3, Option.bind_some]
  dsimp only
  rw [e4, Option.bind_some]
  dsimp only
  rw [e5, Option.bind_some]
  dsimp only
  rw [hh, e6, Option.bind_some]
  dsimp only
  rw [show ({ Stamp := c.Stamp, NextGen := c.NextGen, NextSeq := c.NextSeq, NextValid := c.NextValid, Refs := c.Refs } : TCheck) = c from rfl, spec_checkText (by dsimp only; omega), Option.bind_some, if_neg (by simp), h.1]
  dsimp only
  rw [if_neg (by simp), sub?_take b1, Option.bind_some]
  dsimp only
  rw [htk, if_neg (by simp), Option.bind_some]
  rfl
noncomputable def readC (t : List UInt8) : TCheck × Bool := (F_spec_ReadCheck t).getD (check0, false)
theorem readC_spec {t : List UInt8} (ht : t.length ≤ 8388608) : F_spec_ReadCheck t = some (readC t) ∧ F_impl_ReadCheck t = some (readC t) ∧ (readC t).1.Refs.length ≤ 11 := by
  obtain ⟨r, h1, h2, h3⟩ := spec_readA ht
  have e : readC t = r := by unfold readC; rw [h1]; rfl
  refine ⟨by rw [e, h1], ?_, ?_⟩
  · rw [e, ← h1]
    exact read_same (impl_readA ht) (fun c h => impl_readB ht h) ⟨r, h1, h2, h3⟩ (fun c h => spec_readB ht h)
  · rw [e]
    cases hr : r.2 with
    | true => have := (checkOk_rng (good_ok (h2 hr))).2.1; omega
    | false => rw [h3 hr]; simp [check0]
end Go.Proofs.Ytgdcbjoaoagbpaa.V
/- Marks of disks and logs. -/
namespace Go.Proofs.Ytgdcbjoaoagbpaa.V
open Go Go.RowKit
set_option maxRecDepth 100000

theorem mark_disk {s : List (List UInt8)} {c : List TWrite} {m0 : Nat} (hs : s.length ≤ 1048576) (hc : c.length ≤ 1048576) (hm : m0 ≤ 1000000000000) :
    guardO (fun r : Int × List (List UInt8) × List TWrite => s.length = r.2.1.length ∧ c.length = r.2.2.length) (F_laws_markDisk_w s c (m0 : Int)) = some (((m0 + 1 * s.length + 2 * c.length : Nat) : Int), (s.mapIdx fun i x => mk_laws_markStringS_w (m0 + 1 * i) x), (c.mapIdx fun i x => mk_laws_markWriteS_w (m0 + 1 * s.length + 2 * i) x)) := by
  have m1 : guardO (fun r : Int × List (List UInt8) => s.length = r.2.length) (F_laws_markStringS_w s (m0 : Int)) = some _ := guardO_of (p_laws_markStringS_w hs (by omega)) (by simp)
  have m2 : guardO (fun r : Int × List TWrite => c.length = r.2.length) (F_laws_markWriteS_w c ((m0 + 1 * s.length : Nat) : Int)) = some _ := guardO_of (p_laws_markWriteS_w hc (by omega)) (by simp)
  refine guardO_of ?_ (by simp)
  unfold F_laws_markDisk_w
  rw [m1, Option.bind_some, m2]; rfl
end Go.Proofs.Ytgdcbjoaoagbpaa.V
/- Sectors read. -/
namespace Go.Proofs.Ytgdcbjoaoagbpaa.V
open Go Go.RowKit
set_option maxRecDepth 100000

def hit (a : Int) (l : List TWrite) : Option TWrite := l.foldl (fun o w => if w.At == a then some w else o) none
theorem hit_append (a : Int) (l : List TWrite) (w : TWrite) : hit a (l ++ [w]) = if w.At == a then some w else hit a l := by
  unfold hit
  rw [List.foldl_append]; rfl
theorem hit_mem {a : Int} {l : List TWrite} {w : TWrite} (h : hit a l = some w) : w ∈ l := by
  have key : ∀ (l : List TWrite) (o : Option TWrite), l.foldl (fun o w => if w.At == a then some w else o) o = some w → w ∈ l ∨ o = some w := by
    intro l
    induction l with
    | nil => intro o h; exact .inr h
    | cons x l ih =>
      intro o h
      rcases ih _ h with h1 | h1
      · exact .inl (List.mem_cons_of_mem _ h1)
      · dsimp only at h1
        split at h1
        · cases h1; exact .inl List.mem_cons_self
        · exact .inr h1
  rcases key l none h with h1 | h1
  · exact h1
  · cases h1
def secV (o : Option TWrite) (z : List UInt8) : List UInt8 := match o with | some w => w.Text | none => z
def rsec (d : TDisk) (a : Nat) : List UInt8 := secV (hit (a : Int) d.Cache) ((d.Sectors[a]?).getD [])
structure DkS (d : TDisk) : Prop where
  sec : d.Sectors.length ≤ 1048576 ∧ ∀ y ∈ d.Sectors, y.length ≤ 1048576
  cache : d.Cache.length ≤ 1048576 ∧ ∀ y ∈ d.Cache, y.Text.length ≤ 1048576
theorem DkS.of {d : TDisk} (h : Sz_TDisk d) : DkS d := ⟨h.sSectors, h.sCache.1, fun y hy => (h.sCache.2 y hy).sText⟩
theorem rsec_len {d : TDisk} (h : DkS d) (a : Nat) : (rsec d a).length ≤ 1048576 := by
  unfold rsec secV
  split
  · rename_i w hw; exact h.cache.2 w (hit_mem hw)
  · by_cases ha : a < d.Sectors.length
    · rw [List.getElem?_eq_getElem ha]; exact h.sec.2 _ (List.getElem_mem ha)
    · rw [List.getElem?_eq_none (by omega)]; simp
def readS (d : TDisk) (x : Int) : List UInt8 × Bool := if inR x 0 ((d.Sectors.length : Int) - 1) then (rsec d x.toNat, true) else ([], false)
theorem spec_readSector {d : TDisk} (h : DkS d) (x : Int) : F_spec_ReadSector d x = some (readS d x) := by
  have hs := h.sec.1
  have hc := h.cache.1
  unfold F_spec_ReadSector readS
  rw [w64_id (n := (d.Sectors.length : Int) - 1) (by omega) (by omega), spec_in, Option.bind_some]
  cases hr : inR x 0 ((d.Sectors.length : Int) - 1) with
  | false => rfl
  | true =>
    unfold inR at hr
    simp only [Bool.and_eq_true, decide_eq_true_eq] at hr
    obtain ⟨a, rfl⟩ : ∃ a : Nat, x = a := ⟨x.toNat, by omega⟩
    have ha : a < d.Sectors.length := by omega
    have key : ∀ n : Nat, n ≤ d.Cache.length → iter (S_spec_ReadSector_1 d (a : Int)) ((n : Int) - 1) = some (match hit (a : Int) (d.Cache.take n) with | some w => .inl (w.Text, true) | none => .inr ()) := by
      intro n
      induction n with
      | zero =>
        intro _
        refine iter_done ?_
        unfold S_spec_ReadSector_1
        simp [hit]
      | succ n ih =>
        intro hn
        have hn' : n < d.Cache.length := by omega
        have e0 : (((n + 1 : Nat) : Int) - 1) = (n : Int) := by omega
        rw [e0, List.take_succ_eq_append_getElem hn', hit_append]
        by_cases c : d.Cache[n].At = (a : Int)
        · refine iter_done ?_
          unfold S_spec_ReadSector_1
          rw [if_pos (by simp), at?_nat hn', Option.bind_some, if_pos (by simpa using c), if_pos (by simpa using c)]
          rfl
        · rw [iter_next (s' := ((n : Int) - 1)), ih (by omega), if_neg (by simpa using c)]
          unfold S_spec_ReadSector_1
          rw [if_pos (by simp), at?_nat hn', Option.bind_some, if_neg (by simpa using c), w64_id (by omega) (by omega)]
    rw [if_pos rfl, w64_id (n := (d.Cache.length : Int) - 1) (by omega) (by omega), key _ (Nat.le_refl _), List.take_length, Int.toNat_natCast]
    unfold rsec secV
    cases hit (a : Int) d.Cache with
    | some w => rfl
    | none => simp [at?_nat ha, ha]
theorem impl_readSector {d : TDisk} (h : DkS d) (x : Int) : F_impl_ReadSector d x = some (readS d x) := by
  have hs := h.sec.1
  have hc := h.cache.1
  unfold F_impl_ReadSector readS
  rw [w64_id (n := (d.Sectors.length : Int) - 1) (by omega) (by omega), impl_in, Option.bind_some]
  cases hr : inR x 0 ((d.Sectors.length : Int) - 1) with
  | false => rfl
  | true =>
    unfold inR at hr
    simp only [Bool.and_eq_true, decide_eq_true_eq] at hr
    obtain ⟨a, rfl⟩ : ∃ a : Nat, x = a := ⟨x.toNat, by omega⟩
    have ha : a < d.Sectors.length := by omega
    have key := iter_range (step := S_impl_ReadSector_1 d (a : Int)) (fun i => (secV (hit (a : Int) (d.Cache.take i)) d.Sectors[a], (i : Int))) d.Cache.length (r := secV (hit (a : Int) d.Cache) d.Sectors[a]) ?_ ?_
    · rw [if_pos rfl, at?_nat ha, Option.bind_some]
      rw [show ((secV (hit (a : Int) (d.Cache.take 0)) d.Sectors[a], ((0 : Nat) : Int)) : List UInt8 × Int) = (d.Sectors[a], 0) from rfl] at key
      rw [key, Option.bind_some, if_pos rfl, Int.toNat_natCast]
      unfold rsec
      rw [List.getElem?_eq_getElem ha]; rfl
    · intro i hi
      rw [List.take_succ_eq_append_getElem hi, hit_append]
      unfold S_impl_ReadSector_1
      rw [if_pos (dlt hi), at?_nat hi, Option.bind_some]
      by_cases c : d.Cache[i].At = (a : Int)
      · rw [if_pos (by simpa using c), if_pos (by simpa using c), w64_succ (by omega)]; rfl
      · rw [if_neg (by simpa using c), if_neg (by simpa using c), w64_succ (by omega)]
    · unfold S_impl_ReadSector_1
      rw [List.take_length]; simp
def secT (d : TDisk) (f : Nat) : Nat → List UInt8
  | 0 => []
  | i + 1 => secT d f i ++ rsec d (f + i)
theorem secT_len {d : TDisk} (h : DkS d) (f : Nat) : ∀ n, (secT d f n).length ≤ 1048576 * n
  | 0 => by simp [secT]
  | n + 1 => by
    have h1 := secT_len h f n
    have h2 := rsec_len h (f + n)
    rw [secT, List.length_append]; omega
def sectorT (d : TDisk) (f n : Nat) : List UInt8 × Bool := if f + n ≤ d.Sectors.length then (secT d f n, true) else ([], false)
theorem readS_in {d : TDisk} {a : Nat} (h : a < d.Sectors.length) : readS d (a : Int) = (rsec d a, true) := by
  unfold readS
  rw [if_pos (by unfold inR; simp; omega)]; rfl
theorem readS_out {d : TDisk} {a : Nat} (h : d.Sectors.length ≤ a) : readS d (a : Int) = ([], false) := by
  unfold readS
  rw [if_neg (by unfold inR; simp; omega)]
theorem sector_loop {d : TDisk} (h : DkS d) {f n : Nat} (h0 : 0 < n) {step : List UInt8 × Int → Option ((List UInt8 × Int) ⊕ ((List UInt8 × Bool) ⊕ List UInt8))}
    (h1 : ∀ (i : Nat) (o : List UInt8), i < n → f + i < d.Sectors.length → o.length ≤ 1048576 * i → step (o, (i : Int)) = some (.inl (o ++ rsec d (f + i), ((i + 1 : Nat) : Int))))
    (h2 : ∀ (i : Nat) (o : List UInt8), i < n → d.Sectors.length ≤ f + i → step (o, (i : Int)) = some (.inr (.inl ([], false))))
    (h3 : ∀ o, step (o, (n : Int)) = some (.inr (.inr o))) : (iter step ([], 0)).bind (Sum.elim (fun r => some r) (fun y => some (y, true))) = some (sectorT d f n) := by
  unfold sectorT
  by_cases c : f + n ≤ d.Sectors.length
  · have := iter_range (step := step) (fun i => (secT d f i, (i : Int))) n (r := .inr (secT d f n)) ?_ (h3 _)
    · rw [show ((secT d f 0, ((0 : Nat) : Int)) : List UInt8 × Int) = ([], 0) from rfl] at this
      rw [this, if_pos c]; rfl
    · intro i hi
      rw [h1 i _ hi (by omega) (secT_len h f i)]; rfl
  · have := iter_range (step := step) (fun i => (secT d f i, (i : Int))) (d.Sectors.length - f) (r := .inl ([], false)) ?_ (h2 _ _ (by omega) (by omega))
    · rw [show ((secT d f 0, ((0 : Nat) : Int)) : List UInt8 × Int) = ([], 0) from rfl] at this
      rw [this, if_neg c]; rfl
    · intro i hi
      rw [h1 i _ (by omega) (by omega) (secT_len h f i)]; rfl
theorem spec_sectorText {d : TDisk} (h : DkS d) {f n : Nat} (hf : f ≤ 1000) (h0 : 0 < n) (hn : n ≤ 100) : F_spec_SectorText d (f : Int) (n : Int) = some (sectorT d f n) := by
  unfold F_spec_SectorText
  rw [spec_in, Option.bind_some, if_pos (by unfold inR; simp; omega)]
  have e : ∀ i : Nat, i < n → w64 ((f : Int) + (i : Int)) = ((f + i : Nat) : Int) := fun i hi => by rw [w64_id (by omega) (by omega)]; omega
  refine sector_loop h h0 ?_ ?_ ?_
  · intro i o hi hb ho
    have hr := rsec_len h (f + i)
    unfold S_spec_SectorText_1
    rw [if_pos (by simpa using hi), if_neg (by simp), if_neg (by simp; omega), Option.bind_some, if_neg (by simp), e i hi, spec_readSector h, Option.bind_some, readS_in hb]
    dsimp only
    rw [if_neg (by simp), cat?_ok (by omega), Option.bind_some, w64_succ (by omega)]
  · intro i o hi hb
    unfold S_spec_SectorText_1
    rw [if_pos (by simpa using hi), if_neg (by simp)]
    by_cases c : (f : Int) > (d.Sectors.length : Int)
    · rw [if_pos (by simpa using c), Option.bind_some, if_pos rfl]
    · rw [if_neg (by simpa using c), Option.bind_some, if_neg (by simp), e i hi, spec_readSector h, Option.bind_some, readS_out hb]
      rfl
  · intro o
    unfold S_spec_SectorText_1
    simp
theorem impl_sectorText {d : TDisk} (h : DkS d) {f n : Nat} (hf : f ≤ 1000) (h0 : 0 < n) (hn : n ≤ 100) : F_impl_SectorText d (f : Int) (n : Int) = some (sectorT d f n) := by
  unfold F_impl_SectorText
  rw [impl_in, Option.bind_some, if_pos (by unfold inR; simp; omega)]
  have e : ∀ i : Nat, i < n → w64 ((f : Int) + (i : Int)) = ((f + i : Nat) : Int) := fun i hi => by rw [w64_id (by omega) (by omega)]; omega
  refine sector_loop h h0 ?_ ?_ ?_
  · intro i o hi hb ho
    have hr := rsec_len h (f + i)
    unfold S_impl_SectorText_1
    rw [if_pos (by simpa using hi), e i hi, impl_readSector h, Option.bind_some, readS_in hb]
    dsimp only
    rw [if_neg (by simp), cat?_ok (by omega), Option.bind_some, w64_succ (by omega)]
  · intro i o hi hb
    unfold S_impl_SectorText_1
    rw [if_pos (by simpa using hi), e i hi, impl_readSector h, Option.bind_some, readS_out hb]
    rfl
  · intro o
    unfold S_impl_SectorText_1
    simp
end Go.Proofs.Ytgdcbjoaoagbpaa.V
/- The newest check of a disk. -/
namespace Go.Proofs.Ytgdcbjoaoagbpaa.V
open Go Go.RowKit
set_option maxRecDepth 100000

theorem readC_good {t : List UInt8} (ht : t.length ≤ 8388608) : ((readC t).2 = true → goodC t (readC t).1) ∧ ((readC t).2 = false → (readC t).1 = check0) := by
  obtain ⟨r, h1, h2, h3⟩ := spec_readA ht
  have e : readC t = r := by unfold readC; rw [h1]; rfl
  rw [e]; exact ⟨h2, h3⟩
theorem vt_ne (n : Int) : vt n ≠ [] := by
  unfold vt
  split
  · unfold vtl
    split <;> simp
  · simp
theorem readC_nil : (readC []).2 = false := by
  cases h : (readC []).2 with
  | false => rfl
  | true =>
    obtain ⟨_, r, hr⟩ := (readC_good (t := []) (by simp)).1 h
    exfalso
    unfold ctOut short at hr
    have := congrArg List.length hr
    simp only [List.length_nil, List.length_append] at this
    have hv := vt_ne (((ctBody (readC []).1 ++ sealL (ctBody (readC []).1)).length : Nat) : Int)
    have : (vt (((ctBody (readC []).1 ++ sealL (ctBody (readC []).1)).length : Nat) : Int)).length ≠ 0 := fun e => hv (List.eq_nil_of_length_eq_zero e)
    simp only [List.length_append] at this
    omega
theorem readC_stamp {t : List UInt8} (ht : t.length ≤ 8388608) (h : (readC t).2 = true) : 1 ≤ (readC t).1.Stamp := (checkOk_rng (good_ok ((readC_good ht).1 h))).1.1.1
def better (b : TCheck × Bool) (r : TCheck × Bool) : TCheck × Bool := if r.2 && (!b.2 || decide (r.1.Stamp > b.1.Stamp)) then (r.1, true) else b
noncomputable def newest (d : TDisk) : TCheck × Bool := better (better (check0, false) (readC (sectorT d 0 4).1)) (readC (sectorT d 4 4).1)
theorem sectorT_len {d : TDisk} (h : DkS d) (f : Nat) : (sectorT d f 4).1.length ≤ 8388608 := by
  unfold sectorT
  split
  · have := secT_len h f 4; dsimp only; omega
  · simp
theorem sectorT_no {d : TDisk} {f : Nat} (h : (sectorT d f 4).2 = false) : (readC (sectorT d f 4).1).2 = false := by
  unfold sectorT at h ⊢
  split at h
  · cases h
  · rename_i c; rw [if_neg c]; exact readC_nil
theorem better_refs {b r : TCheck × Bool} (h1 : b.1.Refs.length ≤ 11) (h2 : r.1.Refs.length ≤ 11) : (better b r).1.Refs.length ≤ 11 := by
  unfold better
  split
  · exact h2
  · exact h1
theorem newest_refs {d : TDisk} (h : DkS d) : (newest d).1.Refs.length ≤ 11 :=
  better_refs (better_refs (by simp [check0]) (readC_spec (sectorT_len h 0)).2.2) (readC_spec (sectorT_len h 4)).2.2
theorem impl_newest {d : TDisk} (h : DkS d) : F_impl_NewestCheck d = some (newest d) := by
  have t0 := impl_sectorText h (f := 0) (n := 4) (by omega) (by omega) (by omega)
  have t1 := impl_sectorText h (f := 4) (n := 4) (by omega) (by omega) (by omega)
  have r0 := (readC_spec (sectorT_len h 0)).2.1
  have r1 := (readC_spec (sectorT_len h 4)).2.1
  unfold F_impl_NewestCheck newest
  generalize sectorT d 0 4 = s0 at t0 r0 ⊢
  generalize sectorT d 4 4 = s1 at t1 r1 ⊢
  generalize readC s0.1 = c0 at r0 ⊢
  generalize readC s1.1 = c1 at r1 ⊢
  have a0 : at? ([0, 4] : List Int) 0 = some 0 := rfl
  have a1 : at? ([0, 4] : List Int) 1 = some 4 := rfl
  have w1 : w64 (0 + 1) = 1 := by rw [w64_id (by omega) (by omega)]; rfl
  have w2 : w64 (1 + 1) = 2 := by rw [w64_id (by omega) (by omega)]; rfl
  have e1 : S_impl_NewestCheck_1 d (false, 0, 0, 0, 0, 0, []) = some (.inl ((better (check0, false) c0).2, 1, (better (check0, false) c0).1.Stamp, (better (check0, false) c0).1.NextGen, (better (check0, false) c0).1.NextSeq, (better (check0, false) c0).1.NextValid, (better (check0, false) c0).1.Refs)) := by
    unfold S_impl_NewestCheck_1 better
    rw [if_pos (by decide), a0, Option.bind_some]
    rw [show ((0 : Nat) : Int) = 0 from rfl, show ((4 : Nat) : Int) = 4 from rfl] at t0
    rw [t0, Option.bind_some, r0, Option.bind_some, w1]
    cases c0.2 <;> simp [check0]
  rw [iter_next e1]
  generalize better (check0, false) c0 = b
  have e2 : S_impl_NewestCheck_1 d (b.2, 1, b.1.Stamp, b.1.NextGen, b.1.NextSeq, b.1.NextValid, b.1.Refs) = some (.inl ((better b c1).2, 2, (better b c1).1.Stamp, (better b c1).1.NextGen, (better b c1).1.NextSeq, (better b c1).1.NextValid, (better b c1).1.Refs)) := by
    unfold S_impl_NewestCheck_1 better
    rw [if_pos (by simp), a1, Option.bind_some]
    rw [show ((4 : Nat) : Int) = 4 from rfl] at t1
    rw [t1, Option.bind_some, r1, Option.bind_some, w2]
    cases c1.2
    · simp
    · cases hb : b.2
      · simp
      · by_cases hc : c1.1.Stamp > b.1.Stamp <;> simp [hc, hb]
  rw [iter_next e2, iter_done (r := ((better b c1).2, (better b c1).1.Stamp, (better b c1).1.NextGen, (better b c1).1.NextSeq, (better b c1).1.NextValid, (better b c1).1.Refs))]
  · rfl
  · unfold S_impl_NewestCheck_1
    rw [if_neg (by simp)]
theorem spec_newest {d : TDisk} (h : DkS d) : F_spec_NewestCheck d = some (newest d) := by
  have t0 := spec_sectorText h (f := 0) (n := 4) (by omega) (by omega) (by omega)
  have t1 := spec_sectorText h (f := 4) (n := 4) (by omega) (by omega) (by omega)
  have r0 := (readC_spec (sectorT_len h 0)).1
  have r1 := (readC_spec (sectorT_len h 4)).1
  have n0 := sectorT_no (d := d) (f := 0)
  have n1 := sectorT_no (d := d) (f := 4)
  have g0 := readC_stamp (sectorT_len h 0)
  have g1 := readC_stamp (sectorT_len h 4)
  have k0 := (readC_good (sectorT_len h 0)).2
  unfold F_spec_NewestCheck newest
  generalize sectorT d 0 4 = s0 at t0 r0 n0 g0 k0 ⊢
  generalize sectorT d 4 4 = s1 at t1 r1 n1 g1 ⊢
  generalize readC s0.1 = c0 at r0 n0 g0 k0 ⊢
  generalize readC s1.1 = c1 at r1 n1 g1 ⊢
  have w1 : w64 (0 + 1) = 1 := by rw [w64_id (by omega) (by omega)]; rfl
  have w2 : w64 (1 + 1) = 2 := by rw [w64_id (by omega) (by omega)]; rfl
  have m0 : w64 (0 * 4) = 0 := by rw [w64_id (by omega) (by omega)]; rfl
  have m1 : w64 (1 * 4) = 4 := by rw [w64_id (by omega) (by omega)]; rfl
  have e1 : S_spec_NewestCheck_1 d (false, 0, 0, 0, 0, 0, []) = some (.inl ((better (check0, false) c0).2, 1, (better (check0, false) c0).1.Stamp, (better (check0, false) c0).1.NextGen, (better (check0, false) c0).1.NextSeq, (better (check0, false) c0).1.NextValid, (better (check0, false) c0).1.Refs)) := by
    unfold S_spec_NewestCheck_1 better
    rw [if_pos (by decide)]
    dsimp only
    rw [m0]
    rw [show ((0 : Nat) : Int) = 0 from rfl, show ((4 : Nat) : Int) = 4 from rfl] at t0
    rw [t0, Option.bind_some, r0, Option.bind_some, w1]
    cases hs : s0.2
    · simp [n0 hs, check0]
    · cases hc : c0.2
      · simp [check0]
      · have := g0 hc
        have h2 : c0.1.Stamp > 0 := by omega
        simp [h2, check0]
  rw [iter_next e1]
  have hb : (better (check0, false) c0).2 = false → (better (check0, false) c0).1.Stamp = 0 := by
    unfold better
    cases hc : c0.2 <;> simp [check0]
  generalize better (check0, false) c0 = b at hb ⊢
  have e2 : S_spec_NewestCheck_1 d (b.2, 1, b.1.Stamp, b.1.NextGen, b.1.NextSeq, b.1.NextValid, b.1.Refs) = some (.inl ((better b c1).2, 2, (better b c1).1.Stamp, (better b c1).1.NextGen, (better b c1).1.NextSeq, (better b c1).1.NextValid, (better b c1).1.Refs)) := by
    unfold S_spec_NewestCheck_1 better
    rw [if_pos (by simp)]
    dsimp only
    rw [m1]
    rw [show ((4 : Nat) : Int) = 4 from rfl] at t1
    rw [t1, Option.bind_some, r1, Option.bind_some, w2]
    cases hs : s1.2
    · simp [n1 hs]
    · cases hc : c1.2
      · simp
      · have hg := g1 hc
        cases hbb : b.2
        · have h0 := hb hbb
          have h2 : c1.1.Stamp > b.1.Stamp := by omega
          simp [h2]
        · by_cases h2 : c1.1.Stamp > b.1.Stamp <;> simp [h2, hbb]
  rw [iter_next e2, iter_done (r := ((better b c1).2, (better b c1).1.Stamp, (better b c1).1.NextGen, (better b c1).1.NextSeq, (better b c1).1.NextValid, (better b c1).1.Refs))]
  · rfl
  · unfold S_spec_NewestCheck_1
    rw [if_neg (by simp)]
end Go.Proofs.Ytgdcbjoaoagbpaa.V
/- NewestCheck. -/
namespace Go.Proofs.Ytgdcbjoaoagbpaa.V
open Go Go.RowKit
set_option maxRecDepth 100000
theorem pure_FnExactNewestCheck {x : TDisk} (w : wf_TDisk x) : F_laws_FnExactNewestCheck x = some true := by
  obtain ⟨r, h1, h2, h3, h4⟩ := p_laws_szDisk w (n := 1048576) (by omega) (by omega)
  unfold F_laws_FnExactNewestCheck
  rw [h1, Option.bind_some]
  by_cases hr : r < 0
  · rw [if_pos (by simpa using hr)]
  obtain ⟨hs, ht⟩ := h4 (by omega)
  have hd := DkS.of hs
  have nn : ∀ n : Nat, ¬ ((n : Int) < 0) := fun n => by omega
  have mm := mark_disk (s := x.Sectors) (c := x.Cache) (m0 := 1) hs.sSectors.1 hs.sCache.1 (by omega)
  rw [show ((1 : Nat) : Int) = 1 from rfl] at mm
  have g1 := spec_newest hd
  have g2 := impl_newest hd
  have h3 := newest_refs hd
  generalize newest x = c at g1 g2 h3
  obtain ⟨⟨c1, c2, c3, c4, l⟩, b⟩ := c
  dsimp only at h3
  have q : ∀ {l' : List TRef}, l'.length = l.length → Sz_TCheck { Stamp := c1, NextGen := c2, NextSeq := c3, NextValid := c4, Refs := l' } := fun h => ⟨by dsimp only; omega⟩
  have m1 : guardO (fun r : Int × List TRef => l.length = r.2.length) (F_laws_markRefS_w l 1) = some _ := guardO_of (p_laws_markRefS_w (m0 := 1) (by omega) (by omega)) (by simp)
  have m2 : guardO (fun r : Int × List TRef => l.length = r.2.length) (F_laws_markCheck_w c1 c2 c3 c4 l 1) = some (((1 + 2 * l.length : Nat) : Int), l.mapIdx fun i x => mk_laws_markRefS_w (1 + 2 * i) x) := guardO_of (by unfold F_laws_markCheck_w; rw [m1]; rfl) (by simp)
  have m3 : F_laws_heldRefS (l.mapIdx fun i x => mk_laws_markRefS_w (1 + 2 * i) x) 1 = some _ := p_laws_heldRefS (l := l) (m0 := 1) (by omega) (by omega)
  rw [if_neg (by simpa using hr)]
  simp only [p_laws_toDisk hs, p_laws_eqDisk hs, g1, g2, p_laws_eqCheck (q rfl), F_laws_heldCheck, mm, m2, m3, Option.bind_some, if_true, nn, decide_false, Bool.false_eq_true, if_false, beq_self_eq_true, Bool.not_true, bne_self_eq_false]
end Go.Proofs.Ytgdcbjoaoagbpaa.V
