/- The pure part. -/
import Derived.Test.YtgdcbjoaoagbpaaXT
/- Loops that count, numbers, words: plain lists and numbers. -/
namespace Go.Proofs.Ytgdcbjoaoagbpaa.V
open Go Go.RowKit

/-! ### loops that count -/
theorem iter_range {σ ρ : Type} {step : σ → Option (σ ⊕ ρ)} (st : Nat → σ) (n : Nat) {r : ρ} (hs : ∀ i, i < n → step (st i) = some (.inl (st (i + 1)))) (he : step (st n) = some (.inr r)) : iter step (st 0) = some r := by
  have key : ∀ d i, i + d = n → iter step (st i) = some r := by
    intro d
    induction d with
    | zero => intro i hi; have : i = n := by omega
              subst this; exact iter_done he
    | succ d ih => intro i hi; rw [iter_next (hs i (by omega))]; exact ih (i + 1) (by omega)
  exact key n 0 (by omega)

/-! ### numbers -/
theorem w64_id {n : Int} (h : -9223372036854775808 ≤ n) (h' : n < 9223372036854775808) : w64 n = n := by
  unfold w64 IntKind.wrap
  simp [IntKind.bits, IntKind.signed]
  omega
theorem w64_nat {n : Nat} (h : n < 9223372036854775808) : w64 (n : Int) = n := w64_id (by omega) (by omega)
theorem w64_succ {n : Nat} (h : n < 9223372036854775807) : w64 ((n : Int) + 1) = ((n + 1 : Nat) : Int) := by rw [w64_id (by omega) (by omega)]; omega
theorem u8_wrap (n : Int) : IntKind.u8.wrap n = n % 256 := by
  unfold IntKind.wrap
  simp [IntKind.bits, IntKind.signed]
theorem u32_wrap (n : Int) : IntKind.u32.wrap n = n % 4294967296 := by
  unfold IntKind.wrap
  simp [IntKind.bits, IntKind.signed]
theorem at?_nat {α : Type} {l : List α} {i : Nat} (h : i < l.length) : at? l (i : Int) = some l[i] := by
  unfold at?
  rw [if_pos ⟨by omega, by omega⟩]
  simp [h]
theorem bt?_nat {s : List UInt8} {i : Nat} (h : i < s.length) : bt? s (i : Int) = some s[i] := by
  unfold bt?
  rw [if_pos (by omega)]
  simp [h]
theorem cat?_ok {s t : List UInt8} (h : s.length + t.length ≤ 4611686018427387904) : cat? s t = some (s ++ t) := by unfold cat?; rw [if_pos h]
theorem app?_ok {α : Type} {byt : Nat} {l m : List α} (h : l.length + m.length ≤ 1099511627776) (h2 : (l.length + m.length) * byt ≤ 140737488355328) : app? byt l m = some (l ++ m) := by unfold app?; rw [if_pos ⟨h, h2⟩]

theorem andv127 {n : Nat} (h' : n < 9223372036854775808) : andv .i64 n 127 = ((n % 128 : Nat) : Int) := by
  show IntKind.i64.wrap ((BitVec.ofInt 64 (n : Int) &&& BitVec.ofInt 64 127).toNat : Int) = _
  have e1 : BitVec.ofInt 64 (n : Int) = BitVec.ofNat 64 n := by simp
  have e2 : BitVec.ofInt 64 (127 : Int) = BitVec.ofNat 64 127 := by simp
  rw [e1, e2]
  have e3 : (BitVec.ofNat 64 n &&& BitVec.ofNat 64 127).toNat = n % 128 := by
    rw [BitVec.toNat_and]
    simp only [BitVec.toNat_ofNat]
    rw [Nat.mod_eq_of_lt (a := n) (by omega)]
    exact Nat.and_two_pow_sub_one_eq_mod n 7
  rw [e3]
  exact w64_nat (by omega)
theorem orv128 {n : Nat} (h : n < 128) : orv .i64 n 128 = ((n + 128 : Nat) : Int) := by
  show IntKind.i64.wrap ((BitVec.ofInt 64 (n : Int) ||| BitVec.ofInt 64 128).toNat : Int) = _
  have e1 : BitVec.ofInt 64 (n : Int) = BitVec.ofNat 64 n := by simp
  have e2 : BitVec.ofInt 64 (128 : Int) = BitVec.ofNat 64 128 := by simp
  rw [e1, e2]
  have e3 : (BitVec.ofNat 64 n ||| BitVec.ofNat 64 128).toNat = n + 128 := by
    rw [BitVec.toNat_or]
    simp only [BitVec.toNat_ofNat]
    rw [Nat.mod_eq_of_lt (a := n) (by omega)]
    have := Nat.two_pow_add_eq_or_of_lt (i := 7) (b := n) (by omega) 1
    rw [Nat.or_comm] at this
    simp at this ⊢
    omega
  rw [e3]
  exact w64_nat (by omega)
theorem andv1 {n : Nat} (h' : n < 4294967296) : andv .u32 n 1 = ((n % 2 : Nat) : Int) := by
  show IntKind.u32.wrap ((BitVec.ofInt 32 (n : Int) &&& BitVec.ofInt 32 1).toNat : Int) = _
  have e1 : BitVec.ofInt 32 (n : Int) = BitVec.ofNat 32 n := by simp
  have e2 : BitVec.ofInt 32 (1 : Int) = BitVec.ofNat 32 1 := by simp
  rw [e1, e2]
  have e3 : (BitVec.ofNat 32 n &&& BitVec.ofNat 32 1).toNat = n % 2 := by
    rw [BitVec.toNat_and]
    simp only [BitVec.toNat_ofNat]
    rw [Nat.mod_eq_of_lt (a := n) (by omega)]
    exact Nat.and_two_pow_sub_one_eq_mod n 1
  rw [e3, u32_wrap]
  omega
theorem shrv7 (n : Int) : shrv .i64 n 7 = n / 128 := by
  unfold shrv
  rw [Int.fdiv_eq_ediv_of_nonneg _ (by decide)]
  rfl
theorem shrv1 (n : Int) : shrv .u32 n 1 = n / 2 := by
  unfold shrv
  rw [Int.fdiv_eq_ediv_of_nonneg _ (by decide)]
  rfl

/-! ### numbers as words -/
def vtl (n : Nat) : List Int := if h : 127 < n then ((n % 128 + 128 : Nat) : Int) :: vtl (n / 128) else [(n : Int)]
  termination_by n
  decreasing_by omega
theorem vtl_big {n : Nat} (h : 127 < n) : vtl n = ((n % 128 + 128 : Nat) : Int) :: vtl (n / 128) := by rw [vtl, dif_pos h]
theorem vtl_small {n : Nat} (h : n ≤ 127) : vtl n = [(n : Int)] := by rw [vtl, dif_neg (by omega)]
theorem vtl_len : ∀ (k n : Nat), n < 128 ^ k → (vtl n).length ≤ k + 1
  | 0, n, h => by rw [vtl_small (by simp at h; omega)]; simp
  | k + 1, n, h => by
    by_cases hb : 127 < n
    · rw [vtl_big hb]
      have := vtl_len k (n / 128) (by rw [Nat.pow_succ] at h; exact Nat.div_lt_of_lt_mul (by rw [Nat.mul_comm]; exact h))
      simp; omega
    · rw [vtl_small (by omega)]; simp
theorem vtl_len10 {n : Nat} (h : n < 9223372036854775808) : (vtl n).length ≤ 11 := vtl_len 10 n (Nat.lt_trans h (by decide))


/-- The loop that both have: what is left, and what was laid. -/
theorem var_loop {step : Int × List Int → Option ((Int × List Int) ⊕ (Int × List Int))}
    (hbig : ∀ (n : Nat) out, 127 < n → n < 9223372036854775808 → out.length ≤ 1000 → step ((n : Int), out) = some (.inl (((n / 128 : Nat) : Int), out ++ [((n % 128 + 128 : Nat) : Int)])))
    (hsmall : ∀ (n : Int) out, n ≤ 127 → step (n, out) = some (.inr (n, out))) :
    ∀ (n : Nat) (out : List Int), n < 9223372036854775808 → out.length + 11 ≤ 1000 → ∃ (m : Nat) (o : List Int), iter step ((n : Int), out) = some ((m : Int), o) ∧ m ≤ 127 ∧ o ++ [(m : Int)] = out ++ vtl n ∧ o.length ≤ 1000 := by
  have key : ∀ (k n : Nat) (out : List Int), n < 128 ^ k → n < 9223372036854775808 → out.length + k ≤ 1000 → ∃ (m : Nat) (o : List Int), iter step ((n : Int), out) = some ((m : Int), o) ∧ m ≤ 127 ∧ o ++ [(m : Int)] = out ++ vtl n ∧ o.length ≤ 1000 := by
    intro k
    induction k with
    | zero =>
      intro n out hk hn ho
      have h1 : n ≤ 127 := by simp at hk; omega
      exact ⟨n, out, iter_done (hsmall n out (by omega)), h1, by rw [vtl_small h1], by omega⟩
    | succ k ih =>
      intro n out hk hn ho
      by_cases hb : 127 < n
      · obtain ⟨m, o, h1, h2, h3, h4⟩ := ih (n / 128) (out ++ [((n % 128 + 128 : Nat) : Int)]) (by rw [Nat.pow_succ] at hk; exact Nat.div_lt_of_lt_mul (by rw [Nat.mul_comm]; exact hk)) (by omega) (by simp; omega)
        refine ⟨m, o, ?_, h2, ?_, h4⟩
        · rw [iter_next (hbig n out hb hn (by omega))]; exact h1
        · rw [h3, vtl_big hb]; simp
      · exact ⟨n, out, iter_done (hsmall n out (by omega)), by omega, by rw [vtl_small (by omega)], by omega⟩
  intro n out hn ho
  exact key 11 n out (Nat.lt_trans hn (by decide)) hn ho

def vt (n : Int) : List UInt8 := if 0 ≤ n then (vtl n.toNat).map ofI else [ofI (n % 256)]

theorem spec_var {n : Int} (h : -9223372036854775808 ≤ n) (h' : n < 9223372036854775808) : F_spec_l01Var n = some (vt n) := by
  have hsmall : ∀ (n : Int) out, n ≤ 127 → S_spec_l01Var_1 (n, out) = some (.inr (n, out)) := by
    intro n out hn
    unfold S_spec_l01Var_1
    simp [show ¬ n > 127 by omega]
  unfold F_spec_l01Var vt
  by_cases h0 : 0 ≤ n
  · obtain ⟨m, rfl⟩ : ∃ m : Nat, n = m := ⟨n.toNat, by omega⟩
    obtain ⟨m', o, h1, h2, h3, h4⟩ := var_loop (step := S_spec_l01Var_1) (by
      intro n out hb hn ho
      unfold S_spec_l01Var_1
      have e1 : w64 (Int.tmod (n : Int) 128 + 128) = ((n % 128 + 128 : Nat) : Int) := by
        rw [Int.tmod_eq_emod_of_nonneg (by omega), w64_id (by omega) (by omega)]; omega
      have e2 : w64 (Int.tdiv (n : Int) 128) = ((n / 128 : Nat) : Int) := by
        rw [Int.tdiv_eq_ediv_of_nonneg (by omega), w64_id (by omega) (by omega)]; omega
      have e3 : IntKind.u8.wrap ((n % 128 + 128 : Nat) : Int) = ((n % 128 + 128 : Nat) : Int) := by rw [u8_wrap]; omega
      simp only [show decide ((n : Int) > 127) = true from by simp; omega, if_true, e1, e2, e3]
      rw [app?_ok (by simp; omega) (by simp; omega)]
      rfl) hsmall m [] (by omega) (by simp)
    rw [if_pos h0, h1]
    simp only [Option.bind_some]
    rw [app?_ok (by simp; omega) (by simp; omega)]
    simp only [Option.bind_some, u8_wrap]
    rw [show ((m' : Int) % 256) = m' by omega, h3]
    simp
  · rw [if_neg h0, iter_done (hsmall n [] (by omega))]
    simp only [Option.bind_some]
    rw [app?_ok (by simp) (by simp)]
    simp [u8_wrap]
theorem impl_var {n : Int} (h : -9223372036854775808 ≤ n) (h' : n < 9223372036854775808) : F_impl_varText n = some (vt n) := by
  have hsmall : ∀ (n : Int) out, n ≤ 127 → S_impl_varText_1 (n, out) = some (.inr (n, out)) := by
    intro n out hn
    unfold S_impl_varText_1
    simp [show ¬ n > 127 by omega]
  unfold F_impl_varText vt
  by_cases h0 : 0 ≤ n
  · obtain ⟨m, rfl⟩ : ∃ m : Nat, n = m := ⟨n.toNat, by omega⟩
    obtain ⟨m', o, h1, h2, h3, h4⟩ := var_loop (step := S_impl_varText_1) (by
      intro n out hb hn ho
      unfold S_impl_varText_1
      have e1 : orv .i64 (andv .i64 (n : Int) 127) 128 = ((n % 128 + 128 : Nat) : Int) := by
        rw [andv127 hn, orv128 (by omega)]
      have e2 : shrv .i64 (n : Int) 7 = ((n / 128 : Nat) : Int) := by rw [shrv7]; omega
      have e3 : IntKind.u8.wrap ((n % 128 + 128 : Nat) : Int) = ((n % 128 + 128 : Nat) : Int) := by rw [u8_wrap]; omega
      simp only [show decide ((n : Int) > 127) = true from by simp; omega, if_true, e1, e2, e3]
      rw [app?_ok (by simp; omega) (by simp; omega)]
      rfl) hsmall m [] (by omega) (by simp)
    rw [if_pos h0, h1]
    simp only [Option.bind_some]
    rw [app?_ok (by simp; omega) (by simp; omega)]
    simp only [Option.bind_some, u8_wrap]
    rw [show ((m' : Int) % 256) = m' by omega, h3]
    simp
  · rw [if_neg h0, iter_done (hsmall n [] (by omega))]
    simp only [Option.bind_some]
    rw [app?_ok (by simp) (by simp)]
    simp [u8_wrap]
theorem vt_len {n : Int} (h' : n < 9223372036854775808) : (vt n).length ≤ 11 := by
  unfold vt
  split
  · simp; exact vtl_len10 (by omega)
  · simp
end Go.Proofs.Ytgdcbjoaoagbpaa.V
/- Sums, words, what a record must be. -/
namespace Go.Proofs.Ytgdcbjoaoagbpaa.V
open Go Go.RowKit

/-! ### sums -/
def sumBit (n : Nat) : Nat := if n % 2 = 1 then (xorv .u32 ((n / 2 : Nat) : Int) 3558460437).toNat else n / 2
theorem xorv_range (x y : Int) : 0 ≤ xorv .u32 x y ∧ xorv .u32 x y < 4294967296 := by
  unfold xorv
  rw [u32_wrap]
  omega
theorem sumBit_lt {n : Nat} (h : n < 4294967296) : sumBit n < 4294967296 := by
  unfold sumBit
  have := xorv_range ((n / 2 : Nat) : Int) 3558460437
  split <;> omega
def iterK {α : Type} (f : α → α) : Nat → α → α
  | 0, a => a
  | k + 1, a => f (iterK f k a)
theorem iterK_lt (k : Nat) {n : Nat} (h : n < 4294967296) : iterK sumBit k n < 4294967296 := by
  induction k with
  | zero => exact h
  | succ k ih => exact sumBit_lt ih
theorem spec_sum2 {n : Nat} (h : n < 4294967296) : iter S_spec_SumMore_2 ((n : Int), 0) = some ((iterK sumBit 8 n : Nat) : Int) := by
  refine iter_range (fun k => (((iterK sumBit k n : Nat) : Int), (k : Int))) 8 ?_ ?_
  · intro k hk
    have hl := iterK_lt k h
    unfold S_spec_SumMore_2
    have e0 : w64 ((k : Int) + 1) = ((k + 1 : Nat) : Int) := w64_succ (by omega)
    generalize hm : iterK sumBit k n = m at hl
    have e1 : IntKind.u32.wrap (Int.tdiv (m : Int) 2) = ((m / 2 : Nat) : Int) := by
      rw [u32_wrap, Int.tdiv_eq_ediv_of_nonneg (by omega)]; omega
    have e2 : Int.tmod (m : Int) 2 = ((m % 2 : Nat) : Int) := by rw [Int.tmod_eq_emod_of_nonneg (by omega)]; omega
    simp only [show decide ((k : Int) < 8) = true from by simp; omega, if_true, e0, e1, e2]
    have e3 : iterK sumBit (k + 1) n = sumBit m := by simp [iterK, hm]
    rw [e3]
    unfold sumBit
    by_cases hb : m % 2 = 1
    · have := xorv_range ((m / 2 : Nat) : Int) 3558460437
      simp only [hb, if_true]
      rw [if_pos (by simp)]
      congr 3
    · rw [if_neg (by simp; omega), if_neg hb]
  · unfold S_spec_SumMore_2
    simp
theorem impl_sum2 {n : Nat} (h : n < 4294967296) : iter S_impl_SumMore_2 ((n : Int), 0) = some ((iterK sumBit 8 n : Nat) : Int) := by
  refine iter_range (fun k => (((iterK sumBit k n : Nat) : Int), (k : Int))) 8 ?_ ?_
  · intro k hk
    have hl := iterK_lt k h
    unfold S_impl_SumMore_2
    have e0 : w64 ((k : Int) + 1) = ((k + 1 : Nat) : Int) := w64_succ (by omega)
    generalize hm : iterK sumBit k n = m at hl
    have e1 : shrv .u32 (m : Int) 1 = ((m / 2 : Nat) : Int) := by rw [shrv1]; omega
    have e2 : andv .u32 (m : Int) 1 = ((m % 2 : Nat) : Int) := andv1 hl
    simp only [show decide ((k : Int) < 8) = true from by simp; omega, if_true, e0, e1, e2]
    have e3 : iterK sumBit (k + 1) n = sumBit m := by simp [iterK, hm]
    rw [e3]
    unfold sumBit
    by_cases hb : m % 2 = 1
    · have := xorv_range ((m / 2 : Nat) : Int) 3558460437
      simp only [hb, if_true]
      rw [if_pos (by simp)]
      congr 3
    · rw [if_neg (by simp; omega), if_neg hb]
  · unfold S_impl_SumMore_2
    simp
def sumB (n : Nat) (c : UInt8) : Nat := iterK sumBit 8 (xorv .u32 (n : Int) (c.toNat : Int)).toNat
def sumL (n : Nat) (s : List UInt8) : Nat := s.foldl sumB n
theorem sum_loop {step : List UInt8 → Int × Int → Option ((Int × Int) ⊕ Int)} {s : List UInt8} (hs : s.length < 9223372036854775807) {n : Nat}
    (h1 : ∀ (m i : Nat) (h : i < s.length), step s ((m : Int), (i : Int)) = some (.inl ((sumB m s[i] : Nat), ((i + 1 : Nat) : Int))))
    (h2 : ∀ m : Nat, step s ((m : Int), (s.length : Int)) = some (.inr (m : Int))) : iter (step s) ((n : Int), 0) = some ((sumL n s : Nat) : Int) := by
  refine iter_range (fun i => (((sumL n (s.take i) : Nat) : Int), (i : Int))) s.length ?_ ?_
  · intro i hi
    have e : sumL n (s.take (i + 1)) = sumB (sumL n (s.take i)) s[i] := by
      unfold sumL
      rw [List.take_succ_eq_append_getElem hi, List.foldl_append]
      rfl
    rw [h1 _ i hi, e]
  · rw [List.take_length]; exact h2 _
theorem u8_u32 (c : UInt8) : IntKind.u32.wrap (c.toNat : Int) = c.toNat := by
  rw [u32_wrap]
  have := c.toNat_lt
  omega
theorem spec_sum {s : List UInt8} (hs : s.length < 9223372036854775807) (n : Nat) : F_spec_SumMore (n : Int) s = some ((sumL n s : Nat) : Int) := by
  unfold F_spec_SumMore
  rw [sum_loop (step := S_spec_SumMore_1) hs]
  · rfl
  · intro m i hi
    unfold S_spec_SumMore_1
    simp only [show decide ((i : Int) < (s.length : Int)) = true from by simp; omega, if_true, bt?_nat hi, Option.bind_some, u8_u32, w64_succ (show i < 9223372036854775807 by omega)]
    have hx := xorv_range (m : Int) ((s[i]).toNat : Int)
    have : xorv .u32 (m : Int) ((s[i]).toNat : Int) = ((xorv .u32 (m : Int) ((s[i]).toNat : Int)).toNat : Int) := by omega
    rw [this, spec_sum2 (by omega)]
    rfl
  · intro m
    unfold S_spec_SumMore_1
    simp
theorem impl_sum {s : List UInt8} (hs : s.length < 9223372036854775807) (n : Nat) : F_impl_SumMore (n : Int) s = some ((sumL n s : Nat) : Int) := by
  unfold F_impl_SumMore
  rw [sum_loop (step := S_impl_SumMore_1) hs]
  · rfl
  · intro m i hi
    unfold S_impl_SumMore_1
    simp only [show decide ((i : Int) < (s.length : Int)) = true from by simp; omega, if_true, bt?_nat hi, Option.bind_some, u8_u32, w64_succ (show i < 9223372036854775807 by omega)]
    have hx := xorv_range (m : Int) ((s[i]).toNat : Int)
    have : xorv .u32 (m : Int) ((s[i]).toNat : Int) = ((xorv .u32 (m : Int) ((s[i]).toNat : Int)).toNat : Int) := by omega
    rw [this, impl_sum2 (by omega)]
    rfl
  · intro m
    unfold S_impl_SumMore_1
    simp
def four (n : Int) : List UInt8 := [IntKind.u8.wrap (shrv .u32 n 24), IntKind.u8.wrap (shrv .u32 n 16), IntKind.u8.wrap (shrv .u32 n 8), IntKind.u8.wrap n].map ofI
def sealL (s : List UInt8) : List UInt8 := four (sumL 4294967295 s : Nat)
theorem sealL_len (s : List UInt8) : (sealL s).length = 4 := rfl
theorem spec_sumOf {s : List UInt8} (hs : s.length < 9223372036854775807) : F_spec_SumOf s = some ((sumL 4294967295 s : Nat) : Int) := by
  unfold F_spec_SumOf
  have := spec_sum hs 4294967295
  rw [show (4294967295 : Int) = ((4294967295 : Nat) : Int) from rfl, this]; rfl
theorem impl_sumOf {s : List UInt8} (hs : s.length < 9223372036854775807) : F_impl_SumOf s = some ((sumL 4294967295 s : Nat) : Int) := by
  unfold F_impl_SumOf
  have := impl_sum hs 4294967295
  rw [show (4294967295 : Int) = ((4294967295 : Nat) : Int) from rfl, this]; rfl
theorem spec_four (n : Int) : F_spec_l02Four n = some (four n) := rfl
theorem impl_seal {s : List UInt8} (hs : s.length < 9223372036854775807) : F_impl_seal s = some (sealL s) := by
  unfold F_impl_seal
  rw [impl_sumOf hs]; rfl
def sealed (s : List UInt8) : List UInt8 × Bool := if 20000 < s.length then ([], false) else (s ++ sealL s, true)
theorem spec_sealed {s : List UInt8} (hs : s.length < 9223372036854775807) : F_spec_Sealed s = some (sealed s) := by
  unfold F_spec_Sealed sealed
  by_cases h : 20000 < s.length
  · rw [if_pos (by simp; omega), if_pos h]
  · rw [if_neg (by simp; omega), if_neg h, spec_sumOf hs]
    simp only [Option.bind_some, spec_four]
    rw [cat?_ok (by show s.length + 4 ≤ _; omega)]
    rfl
theorem impl_sealed {s : List UInt8} (hs : s.length < 9223372036854775807) : F_impl_Sealed s = some (sealed s) := by
  unfold F_impl_Sealed sealed
  by_cases h : 20000 < s.length
  · rw [if_pos (by simp; omega), if_pos h]
  · rw [if_neg (by simp; omega), if_neg h, impl_seal hs]
    simp only [Option.bind_some]
    rw [cat?_ok (by show s.length + 4 ≤ _; omega)]
    rfl

/-! ### words -/
def inR (n lo hi : Int) : Bool := decide (lo ≤ n) && decide (n ≤ hi)
theorem spec_in (n lo hi : Int) : F_spec_l01In n lo hi = some (inR n lo hi) := by
  unfold F_spec_l01In inR
  by_cases h : lo ≤ n <;> simp [h]
theorem impl_in (n lo hi : Int) : F_impl_in n lo hi = some (inR n lo hi) := by
  unfold F_impl_in inR
  by_cases h : lo ≤ n <;> simp [h]
def lowB (c : UInt8) : Bool := decide (97 ≤ c.toNat) && decide (c.toNat ≤ 122)
def wordOk (s : List UInt8) : Bool := s.all lowB && inR s.length 1 8
theorem iter_all {σ ρ : Type} {step : σ → Option (σ ⊕ ρ)} (st : Nat → σ) (n : Nat) (p : Nat → Bool) {bad good : ρ} (h1 : ∀ i, i < n → p i = true → step (st i) = some (.inl (st (i + 1)))) (h2 : ∀ i, i < n → p i = false → step (st i) = some (.inr bad)) (he : step (st n) = some (.inr good)) :
    iter step (st 0) = some (if (List.range n).all p then good else bad) := by
  have key : ∀ d i, i + d = n → iter step (st i) = some (if ((List.range n).drop i).all p then good else bad) := by
    intro d
    induction d with
    | zero =>
      intro i hi
      have : i = n := by omega
      subst this
      rw [iter_done he, List.drop_eq_nil_of_le (by simp)]; simp
    | succ d ih =>
      intro i hi
      have hd : (List.range n).drop i = i :: (List.range n).drop (i + 1) := by
        rw [List.drop_eq_getElem_cons (by simp; omega)]; simp
      rw [hd]
      cases hp : p i with
      | true => rw [iter_next (h1 i (by omega) hp), ih (i + 1) (by omega)]; simp [hp]
      | false => rw [iter_done (h2 i (by omega) hp)]; simp [hp]
  simpa using key n 0 (by omega)
theorem all_range {α : Type} (l : List α) (p : α → Bool) : (List.range l.length).all (fun i => match l[i]? with | some x => p x | none => true) = l.all p := by
  rw [Bool.eq_iff_iff, List.all_eq_true, List.all_eq_true]
  constructor
  · intro h x hx
    obtain ⟨i, hi⟩ := List.getElem?_of_mem hx
    have := h i (List.mem_range.2 (List.getElem?_eq_some_iff.1 hi).1)
    simpa [hi] using this
  · intro h i hi
    have hi' := List.mem_range.1 hi
    rw [List.getElem?_eq_getElem hi']
    exact h _ (List.getElem_mem hi')
theorem spec_word {s : List UInt8} (hs : s.length < 9223372036854775807) : F_spec_WordOk s = some (wordOk s) := by
  have hl : iter (S_spec_WordOk_1 s) 0 = some (if s.all lowB then .inr () else .inl false) := by
    rw [← all_range]
    refine iter_all (fun i => (i : Int)) s.length _ ?_ ?_ ?_
    · intro i hi hp
      rw [List.getElem?_eq_getElem hi] at hp
      simp only [lowB, Bool.and_eq_true, decide_eq_true_eq] at hp
      unfold S_spec_WordOk_1
      simp only [show decide ((i : Int) < (s.length : Int)) = true from by simp; omega, if_true, bt?_nat hi, Option.bind_some]
      rw [if_neg (by simp; omega), if_neg (by simp; omega)]
      simp [w64_succ (show i < 9223372036854775807 by omega)]
    · intro i hi hp
      rw [List.getElem?_eq_getElem hi] at hp
      simp only [lowB, Bool.and_eq_false_iff, decide_eq_false_iff_not] at hp
      unfold S_spec_WordOk_1
      simp only [show decide ((i : Int) < (s.length : Int)) = true from by simp; omega, if_true, bt?_nat hi, Option.bind_some]
      by_cases h : (s[i]).toNat < 97
      · rw [if_pos (by simp; omega)]; rfl
      · rw [if_neg (by simp; omega), if_pos (by simp; omega)]; rfl
    · unfold S_spec_WordOk_1
      simp
  unfold F_spec_WordOk
  rw [hl]
  unfold wordOk
  cases s.all lowB <;> simp [spec_in]
theorem impl_word {s : List UInt8} (hs : s.length < 9223372036854775807) : F_impl_WordOk s = some (wordOk s) := by
  have hl : iter (S_impl_WordOk_1 s) 0 = some (if s.all lowB then .inr () else .inl false) := by
    rw [← all_range]
    refine iter_all (fun i => (i : Int)) s.length _ ?_ ?_ ?_
    · intro i hi hp
      rw [List.getElem?_eq_getElem hi] at hp
      simp only [lowB, Bool.and_eq_true, decide_eq_true_eq] at hp
      unfold S_impl_WordOk_1
      simp only [show decide ((i : Int) < (s.length : Int)) = true from by simp; omega, if_true, bt?_nat hi, Option.bind_some]
      rw [if_neg (by simp; omega), if_neg (by simp; omega)]
      simp [w64_succ (show i < 9223372036854775807 by omega)]
    · intro i hi hp
      rw [List.getElem?_eq_getElem hi] at hp
      simp only [lowB, Bool.and_eq_false_iff, decide_eq_false_iff_not] at hp
      unfold S_impl_WordOk_1
      simp only [show decide ((i : Int) < (s.length : Int)) = true from by simp; omega, if_true, bt?_nat hi, Option.bind_some]
      by_cases h : (s[i]).toNat < 97
      · rw [if_pos (by simp; omega)]; rfl
      · rw [if_neg (by simp; omega), if_pos (by simp; omega)]; rfl
    · unfold S_impl_WordOk_1
      simp
  unfold F_impl_WordOk
  rw [impl_in, Option.bind_some, hl]
  unfold wordOk
  cases s.all lowB <;> cases inR (s.length : Int) 1 8 <;> simp
end Go.Proofs.Ytgdcbjoaoagbpaa.V
/- What a record must be, and its text; frames. -/
namespace Go.Proofs.Ytgdcbjoaoagbpaa.V
open Go Go.RowKit

/-- The lengths of what a record holds are no more than a machine's. -/
structure RecS (x : TRec) : Prop where
  user : x.User.length ≤ 1048576
  name : x.Name.length ≤ 1048576
  text : x.Text.length ≤ 1048576

def recOk (x : TRec) : Bool := inR x.Kind 1 5 && inR x.Valid 1 9999 &&
  (if x.Kind = 1 then wordOk x.User && wordOk x.Name && inR x.Next 1 10000 else x.User == [] && x.Name == [] && x.Next == 0) &&
  (if x.Kind = 3 ∨ x.Kind = 4 ∨ x.Kind = 5 then inR x.Uid 1 9999 else x.Uid == 0) &&
  (if x.Kind = 3 ∨ x.Kind = 4 then inR x.Flags 0 7 else x.Flags == 0) &&
  (if x.Kind = 3 then decide (x.Text.length ≤ 100) else x.Text == [])

theorem kinds {n : Int} : inR n 1 5 = true → n = 1 ∨ n = 2 ∨ n = 3 ∨ n = 4 ∨ n = 5 := by
  unfold inR
  intro h
  simp only [Bool.and_eq_true, decide_eq_true_eq] at h
  omega
theorem kinds_no {n : Int} : inR n 1 5 = false → n ≠ 1 ∧ n ≠ 2 ∧ n ≠ 3 ∧ n ≠ 4 ∧ n ≠ 5 := by
  unfold inR
  intro h
  simp only [Bool.and_eq_false_iff, decide_eq_false_iff_not] at h
  omega
theorem iteS {α : Type} {p : Prop} [Decidable p] {a b : α} : (if p then some a else some b) = some (if p then a else b) := by split <;> rfl
theorem spec_recOk {x : TRec} (h : RecS x) : F_spec_RecOk x = some (recOk x) := by
  have h1 := spec_word (s := x.User) (by have := h.user; omega)
  have h2 := spec_word (s := x.Name) (by have := h.name; omega)
  unfold F_spec_RecOk recOk
  simp only [spec_in, h1, h2, Option.bind_some]
  cases hk : inR x.Kind 1 5 with
  | false => simp
  | true =>
    cases hv : inR x.Valid 1 9999 with
    | false => simp
    | true =>
      rcases kinds hk with k | k | k | k | k <;> simp [k, iteS] <;> grind
theorem impl_recOk {x : TRec} (h : RecS x) : F_impl_RecOk x = some (recOk x) := by
  have h1 := impl_word (s := x.User) (by have := h.user; omega)
  have h2 := impl_word (s := x.Name) (by have := h.name; omega)
  unfold F_impl_RecOk recOk
  simp only [impl_in, h1, h2, Option.bind_some]
  cases hv : inR x.Valid 1 9999 with
  | false => simp
  | true =>
    cases hk : inR x.Kind 1 5 with
    | false =>
      obtain ⟨k1, k2, k3, k4, k5⟩ := kinds_no hk
      simp [k1, k2, k3, k4, k5]
    | true =>
      rcases kinds hk with k | k | k | k | k <;> simp [k, iteS] <;> grind
end Go.Proofs.Ytgdcbjoaoagbpaa.V
/- The text of a record; frames; sizes. -/
namespace Go.Proofs.Ytgdcbjoaoagbpaa.V
open Go Go.RowKit

theorem recOk_rng {x : TRec} (h : recOk x = true) : (0 ≤ x.Valid ∧ x.Valid ≤ 10000) ∧ (0 ≤ x.Uid ∧ x.Uid ≤ 10000) ∧ (0 ≤ x.Next ∧ x.Next ≤ 10000) ∧ (0 ≤ x.Flags ∧ x.Flags ≤ 10000) ∧ 1 ≤ x.Kind ∧ x.Kind ≤ 5 := by
  unfold recOk inR at h
  grind
def short (s : List UInt8) : List UInt8 := vt s.length ++ s
def recT (x : TRec) : List UInt8 := [ofI (IntKind.u8.wrap x.Kind)] ++ vt x.Valid ++ vt x.Uid ++ vt x.Next ++ vt x.Flags ++ short x.User ++ short x.Name ++ short x.Text
def recText (x : TRec) : List UInt8 × Bool := if recOk x then (recT x, true) else ([], false)
theorem short_len {s : List UInt8} (h : s.length ≤ 1048576) : (short s).length ≤ s.length + 11 := by
  unfold short
  have := vt_len (n := s.length) (by omega)
  simp; omega
theorem spec_short {s : List UInt8} (h : s.length ≤ 1048576) : F_spec_l06Short s = some (short s) := by
  unfold F_spec_l06Short
  have := vt_len (n := s.length) (by omega)
  rw [spec_var (by omega) (by omega), Option.bind_some, cat?_ok (by omega)]
  rfl
theorem spec_recText {x : TRec} (h : RecS x) : F_spec_RecText x = some (recText x) := by
  unfold F_spec_RecText recText
  rw [spec_recOk h, Option.bind_some]
  cases hk : recOk x with
  | false => rfl
  | true =>
    obtain ⟨r1, r2, r3, r4, _⟩ := recOk_rng hk
    have l1 := vt_len (n := x.Valid) (by omega)
    have l2 := vt_len (n := x.Uid) (by omega)
    have l3 := vt_len (n := x.Next) (by omega)
    have l4 := vt_len (n := x.Flags) (by omega)
    have l5 := short_len h.user
    have l6 := short_len h.name
    have l7 := short_len h.text
    have b1 := h.user
    have b2 := h.name
    have b3 := h.text
    simp only [if_true]
    rw [spec_var (by omega) (by omega), Option.bind_some, cat?_ok (by simp; omega), Option.bind_some,
      spec_var (by omega) (by omega), Option.bind_some, cat?_ok (by simp; omega), Option.bind_some,
      spec_var (by omega) (by omega), Option.bind_some, cat?_ok (by simp; omega), Option.bind_some,
      spec_var (by omega) (by omega), Option.bind_some, cat?_ok (by simp; omega), Option.bind_some,
      spec_short h.user, Option.bind_some, cat?_ok (by simp; omega), Option.bind_some,
      spec_short h.name, Option.bind_some, cat?_ok (by simp; omega), Option.bind_some,
      spec_short h.text, Option.bind_some, cat?_ok (by simp; omega), Option.bind_some]
    rfl
end Go.Proofs.Ytgdcbjoaoagbpaa.V
/- Frames; the size of a record. -/
namespace Go.Proofs.Ytgdcbjoaoagbpaa.V
open Go Go.RowKit

theorem recOk_lens {x : TRec} (hk : recOk x = true) : x.User.length ≤ 8 ∧ x.Name.length ≤ 8 ∧ x.Text.length ≤ 100 := by
  unfold recOk wordOk inR at hk
  simp only [Bool.and_eq_true, decide_eq_true_eq] at hk
  obtain ⟨⟨⟨⟨_, h1⟩, _⟩, _⟩, h2⟩ := hk
  refine ⟨?_, ?_, ?_⟩
  · split at h1
    · simp only [Bool.and_eq_true, decide_eq_true_eq] at h1; omega
    · simp only [Bool.and_eq_true, beq_iff_eq] at h1; rw [h1.1.1]; simp
  · split at h1
    · simp only [Bool.and_eq_true, decide_eq_true_eq] at h1; omega
    · simp only [Bool.and_eq_true, beq_iff_eq] at h1; rw [h1.1.2]; simp
  · split at h2
    · simpa using h2
    · simp at h2; rw [h2]; simp
def frameOk (f : TFrame) : Bool := inR f.Gen 1 1000000000 && inR f.Seq 1 1000000000 && inR f.Body.length 1 180
theorem spec_frameOk (f : TFrame) : F_spec_FrameOk f = some (frameOk f) := by
  unfold F_spec_FrameOk frameOk
  simp only [spec_in, Option.bind_some]
  cases inR f.Gen 1 1000000000 <;> cases inR f.Seq 1 1000000000 <;> simp
theorem impl_frameOk (f : TFrame) : F_impl_FrameOk f = some (frameOk f) := by
  unfold F_impl_FrameOk frameOk
  simp only [impl_in, Option.bind_some]
  cases inR f.Gen 1 1000000000 <;> cases inR f.Seq 1 1000000000 <;> simp
theorem frameOk_rng {f : TFrame} (h : frameOk f = true) : (1 ≤ f.Gen ∧ f.Gen ≤ 1000000000) ∧ (1 ≤ f.Seq ∧ f.Seq ≤ 1000000000) ∧ 1 ≤ f.Body.length ∧ f.Body.length ≤ 180 := by
  unfold frameOk inR at h
  simp only [Bool.and_eq_true, decide_eq_true_eq] at h
  omega
def frameT (f : TFrame) : List UInt8 := vt f.Gen ++ vt f.Seq ++ vt f.Body.length ++ f.Body
def frameText (f : TFrame) : List UInt8 × Bool := if frameOk f then (frameT f ++ sealL (frameT f), true) else ([], false)
theorem frameT_len {f : TFrame} (h : frameOk f = true) : (frameT f).length ≤ 213 := by
  obtain ⟨h1, h2, h3, h4⟩ := frameOk_rng h
  have l1 := vt_len (n := f.Gen) (by omega)
  have l2 := vt_len (n := f.Seq) (by omega)
  have l3 := vt_len (n := f.Body.length) (by omega)
  unfold frameT
  simp; omega
theorem spec_frameText (f : TFrame) : F_spec_FrameText f = some (frameText f) := by
  unfold F_spec_FrameText frameText
  rw [spec_frameOk, Option.bind_some]
  cases hk : frameOk f with
  | false => rfl
  | true =>
    obtain ⟨h1, h2, h3, h4⟩ := frameOk_rng hk
    have l1 := vt_len (n := f.Gen) (by omega)
    have l2 := vt_len (n := f.Seq) (by omega)
    have l3 := vt_len (n := f.Body.length) (by omega)
    have lt := frameT_len hk
    simp only [if_true]
    rw [spec_var (by omega) (by omega), Option.bind_some, spec_var (by omega) (by omega), Option.bind_some, cat?_ok (by omega), Option.bind_some, spec_var (by omega) (by omega), Option.bind_some, cat?_ok (by simp; omega), Option.bind_some, cat?_ok (by simp; omega), Option.bind_some]
    rw [show vt f.Gen ++ vt f.Seq ++ vt f.Body.length ++ f.Body = frameT f from rfl, spec_sealed (by omega), Option.bind_some]
    unfold sealed
    rw [if_neg (by omega)]
theorem impl_frameText (f : TFrame) : F_impl_FrameText f = some (frameText f) := by
  unfold F_impl_FrameText frameText
  rw [impl_frameOk, Option.bind_some]
  cases hk : frameOk f with
  | false => rfl
  | true =>
    obtain ⟨h1, h2, h3, h4⟩ := frameOk_rng hk
    have l1 := vt_len (n := f.Gen) (by omega)
    have l2 := vt_len (n := f.Seq) (by omega)
    have l3 := vt_len (n := f.Body.length) (by omega)
    have lt := frameT_len hk
    simp only [if_true]
    rw [impl_var (by omega) (by omega), Option.bind_some, impl_var (by omega) (by omega), Option.bind_some, cat?_ok (by omega), Option.bind_some, impl_var (by omega) (by omega), Option.bind_some, cat?_ok (by simp; omega), Option.bind_some, cat?_ok (by simp; omega), Option.bind_some]
    rw [show vt f.Gen ++ vt f.Seq ++ vt f.Body.length ++ f.Body = frameT f from rfl, impl_sealed (by omega), Option.bind_some]
    unfold sealed
    rw [if_neg (by omega)]
def frame0 : TFrame := { Gen := 0, Seq := 0, Body := [] }
end Go.Proofs.Ytgdcbjoaoagbpaa.V
/- What the statements' own functions need: loops over lists. -/
namespace Go.Proofs.Ytgdcbjoaoagbpaa.V
open Go Go.RowKit

theorem iter_ex {σ ρ : Type} {step : σ → Option (σ ⊕ ρ)} (n : Nat) (I : Nat → σ → Prop) (Q : ρ → Prop) (h : ∀ i s, i < n → I i s → (∃ s', step s = some (.inl s') ∧ I (i + 1) s') ∨ ∃ r, step s = some (.inr r) ∧ Q r) (he : ∀ s, I n s → ∃ r, step s = some (.inr r) ∧ Q r) : ∀ s, I 0 s → ∃ r, iter step s = some r ∧ Q r := by
  have key : ∀ d i s, i + d = n → I i s → ∃ r, iter step s = some r ∧ Q r := by
    intro d
    induction d with
    | zero =>
      intro i s hi hs
      have : i = n := by omega
      subst this
      obtain ⟨r, h1, h2⟩ := he s hs
      exact ⟨r, iter_done h1, h2⟩
    | succ d ih =>
      intro i s hi hs
      rcases h i s (by omega) hs with ⟨s', h1, h2⟩ | ⟨r, h1, h2⟩
      · obtain ⟨r, h3, h4⟩ := ih (i + 1) s' (by omega) h2
        exact ⟨r, by rw [iter_next h1]; exact h3, h4⟩
      · exact ⟨r, iter_done h1, h2⟩
  exact fun s hs => key n 0 s (by omega) hs

theorem set'_nat {α : Type} {l : List α} {i : Nat} {x : α} : set' l (i : Int) x = l.set i x := by simp [set']
theorem at?_set {α : Type} {l : List α} {i : Nat} {x : α} (h : i < l.length) : at? (l.set i x) (i : Int) = some x := by
  rw [at?_nat (by simpa using h)]; simp
theorem dlt {i : Nat} {n : Nat} (h : i < n) : decide ((i : Int) < (n : Int)) = true := by simpa using h

/-- Copied one by one. -/
theorem to_loop {α : Type} {l : List α} {z : α} {step : Int × List α → Option ((Int × List α) ⊕ List α)} (hl : l.length < 9223372036854775807)
    (h1 : ∀ (i : Nat) (h : i < l.length) (m : List α), m.length = l.length → step ((i : Int), m) = some (.inl (((i + 1 : Nat) : Int), m.set i l[i])))
    (h2 : ∀ m : List α, step ((l.length : Int), m) = some (.inr m)) : iter step (0, List.replicate l.length z) = some l := by
  have := iter_range (step := step) (fun i => ((i : Int), l.take i ++ List.replicate (l.length - i) z)) l.length (r := l) ?_ ?_
  · simpa using this
  · intro i hi
    rw [h1 i hi _ (by simp; omega)]
    have e : (l.take i ++ List.replicate (l.length - i) z).set i l[i] = l.take (i + 1) ++ List.replicate (l.length - (i + 1)) z := by
      have e1 : l.length - i = (l.length - (i + 1)) + 1 := by omega
      have e2 : (l.take i).length = i := by simp; omega
      rw [e1, List.replicate_succ, List.set_append_right _ _ (by omega), e2, Nat.sub_self, List.set_cons_zero, List.take_succ_eq_append_getElem hi, List.append_assoc]
      rfl
    rw [e]
  · simp [h2]
/-- Marked one by one: what stands at a place tells the place. -/
theorem mark_loop {α : Type} {l : List α} {k m0 : Nat} {g : Nat → α → α} {step : Int × Int × List α → Option ((Int × Int × List α) ⊕ (Int × List α))}
    (h1 : ∀ (i m : Nat) (l' : List α) (h : i < l'.length), i < l.length → m = m0 + k * i → step ((m : Int), (i : Int), l') = some (.inl (((m + k : Nat) : Int), ((i + 1 : Nat) : Int), l'.set i (g m l'[i]))))
    (h2 : ∀ (m : Nat) (l' : List α), l'.length = l.length → step ((m : Int), (l.length : Int), l') = some (.inr ((m : Int), l'))) :
    iter step ((m0 : Int), 0, l) = some (((m0 + k * l.length : Nat) : Int), l.mapIdx fun i x => g (m0 + k * i) x) := by
  have := iter_range (step := step) (fun i => (((m0 + k * i : Nat) : Int), (i : Int), (l.take i).mapIdx (fun i x => g (m0 + k * i) x) ++ l.drop i)) l.length (r := (((m0 + k * l.length : Nat) : Int), l.mapIdx fun i x => g (m0 + k * i) x)) ?_ ?_
  · simpa using this
  · intro i hi
    have hlen : i < ((l.take i).mapIdx (fun i x => g (m0 + k * i) x) ++ l.drop i).length := by simp; omega
    rw [h1 i _ _ hlen hi rfl]
    have e0 : ((l.take i).mapIdx (fun i x => g (m0 + k * i) x)).length = i := by simp; omega
    have e1 : ((l.take i).mapIdx (fun i x => g (m0 + k * i) x) ++ l.drop i)[i] = l[i] := by
      rw [List.getElem_append_right (by omega)]
      simp [e0]
    have e : ((l.take i).mapIdx (fun i x => g (m0 + k * i) x) ++ l.drop i).set i (g (m0 + k * i) l[i]) = (l.take (i + 1)).mapIdx (fun i x => g (m0 + k * i) x) ++ l.drop (i + 1) := by
      rw [List.set_append_right _ _ (by omega), e0, Nat.sub_self, List.drop_eq_getElem_cons hi, List.set_cons_zero, List.take_succ_eq_append_getElem hi, List.mapIdx_append]
      have : (l.take i).length = i := by simp; omega
      simp [this]
    rw [e1, e, Nat.mul_succ, Nat.add_assoc]
  · rw [h2 _ _ (by simp)]
    simp
theorem held_loop {α : Type} {l : List α} {k m0 : Nat} {ρ : Type} {r : Int → ρ} {g : Nat → α → α} {step : Int × Int → Option ((Int × Int) ⊕ ρ)}
    (h1 : ∀ (i m : Nat) (h : i < l.length), m = m0 + k * i → step ((m : Int), (i : Int)) = some (.inl (((m + k : Nat) : Int), ((i + 1 : Nat) : Int))))
    (h2 : ∀ (m : Nat), step ((m : Int), (l.length : Int)) = some (.inr (r (m : Int)))) :
    iter step ((m0 : Int), 0) = some (r ((m0 + k * l.length : Nat) : Int)) := by
  refine iter_range (step := step) (fun i => (((m0 + k * i : Nat) : Int), (i : Int))) l.length (r := r ((m0 + k * l.length : Nat) : Int)) ?_ ?_
  · intro i hi
    rw [h1 i _ hi rfl, Nat.mul_succ, Nat.add_assoc]
  · exact h2 _
/-! ### marks of what holds lists -/
theorem mk?_ok {α : Type} {byt : Nat} {z : α} {n : Nat} (h : n ≤ 1099511627776) (h2 : n * byt ≤ 140737488355328) : mk? byt z (n : Int) = some (List.replicate n z) := by
  unfold mk?
  have h3 : ((n * byt : Nat) : Int) ≤ 140737488355328 := by omega
  rw [if_pos ⟨by omega, by rw [Int.mul_comm]; rw [Int.natCast_mul] at h3; exact h3, by omega⟩]; simp
end Go.Proofs.Ytgdcbjoaoagbpaa.V
/- The functions that the statements are made of. -/
namespace Go.Proofs.Ytgdcbjoaoagbpaa.V
open Go Go.RowKit
set_option maxRecDepth 100000
def szN_TWrite (x : TWrite) : Nat := x.Text.length
structure Sz_TWrite (x : TWrite) : Prop where
  sText : x.Text.length ≤ 1048576
def szN_TDisk (x : TDisk) : Nat := x.Sectors.length + (x.Sectors.map fun y => y.length).sum + x.Cache.length + (x.Cache.map fun y => szN_TWrite y).sum
structure Sz_TDisk (x : TDisk) : Prop where
  sSectors : x.Sectors.length ≤ 1048576 ∧ ∀ y ∈ x.Sectors, y.length ≤ 1048576
  sCache : x.Cache.length ≤ 1048576 ∧ ∀ y ∈ x.Cache, Sz_TWrite y
structure Sz_TRec (x : TRec) : Prop where
  sUser : x.User.length ≤ 1048576
  sName : x.Name.length ≤ 1048576
  sText : x.Text.length ≤ 1048576
structure Sz_TItem (x : TItem) : Prop where
  sRec : Sz_TRec x.Rec
structure Sz_TSeg (x : TSeg) : Prop where
  sItems : x.Items.length ≤ 1048576 ∧ ∀ y ∈ x.Items, Sz_TItem y

/-! ### the words that mark -/
theorem mt_loop : ∀ (d n : Nat) (out : List UInt8), n < 10 ^ d → n < 4611686018427387904 → out.length + d ≤ 1000 → ∃ o, iter S_laws_markText_1 ((n : Int), out) = some o ∧ o.length ≤ 1000
  | 0, n, out, h, _, h2 => by
    have : n = 0 := by simp at h; omega
    subst this
    exact ⟨out, iter_done (by unfold S_laws_markText_1; simp), by omega⟩
  | d + 1, n, out, h, h1, h2 => by
    by_cases h0 : n = 0
    · subst h0; exact ⟨out, iter_done (by unfold S_laws_markText_1; simp), by omega⟩
    · have hs : S_laws_markText_1 ((n : Int), out) = some (.inl (((n / 10 : Nat) : Int), [ofI (IntKind.u8.wrap (w64 (48 + Int.tmod (n : Int) 10)))] ++ out)) := by
        unfold S_laws_markText_1
        have e2 : w64 (Int.tdiv (n : Int) 10) = ((n / 10 : Nat) : Int) := by
          rw [Int.tdiv_eq_ediv_of_nonneg (by omega), w64_id (by omega) (by omega)]; omega
        simp only [show decide ((n : Int) > 0) = true from by simp; omega, if_true, e2]
        rw [cat?_ok (by simp; omega)]
        rfl
      obtain ⟨o, h3, h4⟩ := mt_loop d (n / 10) ([ofI (IntKind.u8.wrap (w64 (48 + Int.tmod (n : Int) 10)))] ++ out) (by rw [Nat.pow_succ] at h; exact Nat.div_lt_of_lt_mul (by rw [Nat.mul_comm]; exact h)) (by omega) (by simp; omega)
      exact ⟨o, by rw [iter_next hs]; exact h3, h4⟩
noncomputable def mt (n : Nat) : List UInt8 := (F_laws_markText (n : Int)).getD []
theorem p_laws_markText {n : Nat} (h : n < 4611686018427387904) : F_laws_markText (n : Int) = some (mt n) := by
  have : ∃ o, F_laws_markText (n : Int) = some o := by
    unfold F_laws_markText
    by_cases h0 : n = 0
    · subst h0; exact ⟨_, by simp; rfl⟩
    · rw [if_neg (by simp; omega)]
      obtain ⟨o, h1, h2⟩ := mt_loop 19 n [] (Nat.lt_trans h (by decide)) h (by simp)
      rw [h1]
      simp only [Option.bind_some]
      rw [cat?_ok (by simp; omega)]
      exact ⟨_, rfl⟩
  obtain ⟨o, ho⟩ := this
  unfold mt
  rw [ho]; rfl
theorem p_laws_szStringS {x : List (List UInt8)} {n : Int} (w : (x.length ≤ maxLen ∧ ∀ a ∈ x, a.length ≤ maxLen)) (h0 : 0 ≤ n) (h1 : n ≤ 1048576) : ∃ r, F_laws_szStringS x n = some r ∧ r ≤ n ∧ -1 ≤ r ∧ (0 ≤ r → (x.length ≤ 1048576 ∧ ∀ y ∈ x, y.length ≤ 1048576) ∧ r + ((x.length + (x.map fun y => y.length).sum : Nat) : Int) ≤ n) := by
  unfold F_laws_szStringS
  have hw : (x.length : Int) ≤ 9223372036854775807 := by have := w.1; unfold maxLen at this; omega
  have e0 : w64 (n - (x.length : Int)) = n - x.length := w64_id (by omega) (by omega)
  rw [e0]
  by_cases c0 : n - (x.length : Int) < 0
  · rw [if_pos (by simpa using c0)]; exact ⟨-1, rfl, by omega, by omega, fun h => absurd h (by omega)⟩
  rw [if_neg (by simpa using c0)]
  have hl : x.length < 9223372036854775807 := by omega
  have key := iter_ex (step := S_laws_szStringS_1 x) x.length (fun i st => ∃ m : Int, st = (m, (i : Int)) ∧ 0 ≤ m ∧ m + ((((x.take i).map fun y => y.length).sum : Nat) : Int) ≤ n - x.length ∧ ∀ (j : Nat) y, j < i → x[j]? = some y → y.length ≤ 1048576) (fun o : Int ⊕ Int => match o with | .inl r => r = -1 | .inr r => r + x.length + (((x.map fun y => y.length).sum : Nat) : Int) ≤ n ∧ 0 ≤ r ∧ ∀ y ∈ x, y.length ≤ 1048576) ?_ ?_ (n - x.length, 0) ⟨_, rfl, by omega, by simp, by simp⟩
  · obtain ⟨r, h2, h3⟩ := key
    rw [h2]
    cases r with
    | inl r => simp only at h3; subst h3; exact ⟨-1, rfl, by omega, by omega, fun h => absurd h (by omega)⟩
    | inr r => exact ⟨r, rfl, by have := h3.1; omega, by have := h3.2.1; omega, fun _ => ⟨⟨by have := h3.1; omega, h3.2.2⟩, by have := h3.1; omega⟩⟩
  · rintro i _ hi ⟨m, rfl, hm0, hm1, hj⟩
    have hsum : ((x.take (i + 1)).map fun y => y.length).sum = ((x.take i).map fun y => y.length).sum + ((x[i]).length) := by rw [List.take_succ_eq_append_getElem hi, List.map_append, List.sum_append]; simp
    unfold S_laws_szStringS_1
    simp only [dlt hi, if_true, at?_nat hi, Option.bind_some, w64_succ (show i < 9223372036854775807 by omega)]
    have hs : (x[i].length : Int) ≤ 9223372036854775807 := by have := w.2 _ (List.getElem_mem hi); unfold maxLen at this; omega
    have e1 : w64 (m - (x[i].length : Int)) = m - x[i].length := w64_id (by omega) (by omega)
    simp only [e1]; generalize hr : m - (x[i].length : Int) = r
    have h3 : r ≤ m := by omega
    have h5 : 0 ≤ r → x[i].length ≤ 1048576 ∧ r + ((x[i].length : Nat) : Int) ≤ m := by omega
    by_cases c1 : r < 0
    · exact .inr ⟨.inl (-1), by simp [c1], rfl⟩
    have h6 := h5 (by omega)
    refine .inl ⟨(r, ((i + 1 : Nat) : Int)), by simp [c1], r, rfl, by omega, by rw [hsum]; have := h6.2; omega, ?_⟩
    intro j y hj1 hj2
    by_cases e : j = i
    · subst e; rw [List.getElem?_eq_getElem hi] at hj2; cases hj2; exact h6.1
    · exact hj j y (by omega) hj2
  · rintro _ ⟨m, rfl, hm0, hm1, hj⟩
    rw [List.take_length] at hm1
    refine ⟨.inr m, by unfold S_laws_szStringS_1; simp, by show m + _ + _ ≤ n; omega, hm0, fun y hy => ?_⟩
    obtain ⟨j, hj2⟩ := List.getElem?_of_mem hy
    exact hj j y (List.getElem?_eq_some_iff.1 hj2).1 hj2
theorem p_laws_szWrite {x : TWrite} {n : Int} (w : wf_TWrite x) (h0 : 0 ≤ n) (h1 : n ≤ 1048576) : ∃ r, F_laws_szWrite x n = some r ∧ r ≤ n ∧ -1 ≤ r ∧ (0 ≤ r → (Sz_TWrite x) ∧ r + ((szN_TWrite x : Nat) : Int) ≤ n) := by
  unfold F_laws_szWrite
  have hw1 : (x.Text.length : Int) ≤ 9223372036854775807 := by have := w.2.1; unfold maxLen at this; omega
  have e1 : w64 (n - (x.Text.length : Int)) = n - x.Text.length := w64_id (by omega) (by omega)
  simp only [e1]
  generalize hr1 : n - (x.Text.length : Int) = r1
  by_cases c1 : r1 < 0
  · rw [if_pos (by simpa using c1)]; exact ⟨-1, rfl, by omega, by omega, fun h => absurd h (by omega)⟩
  rw [if_neg (by simpa using c1)]
  exact ⟨_, rfl, by omega, by omega, fun _ => ⟨⟨by omega⟩, by unfold szN_TWrite; omega⟩⟩
theorem p_laws_szWriteS {x : List TWrite} {n : Int} (w : (x.length ≤ maxLen ∧ ∀ a ∈ x, wf_TWrite a)) (h0 : 0 ≤ n) (h1 : n ≤ 1048576) : ∃ r, F_laws_szWriteS x n = some r ∧ r ≤ n ∧ -1 ≤ r ∧ (0 ≤ r → (x.length ≤ 1048576 ∧ ∀ y ∈ x, Sz_TWrite y) ∧ r + ((x.length + (x.map fun y => szN_TWrite y).sum : Nat) : Int) ≤ n) := by
  unfold F_laws_szWriteS
  have hw : (x.length : Int) ≤ 9223372036854775807 := by have := w.1; unfold maxLen at this; omega
  have e0 : w64 (n - (x.length : Int)) = n - x.length := w64_id (by omega) (by omega)
  rw [e0]
  by_cases c0 : n - (x.length : Int) < 0
  · rw [if_pos (by simpa using c0)]; exact ⟨-1, rfl, by omega, by omega, fun h => absurd h (by omega)⟩
  rw [if_neg (by simpa using c0)]
  have hl : x.length < 9223372036854775807 := by omega
  have key := iter_ex (step := S_laws_szWriteS_1 x) x.length (fun i st => ∃ m : Int, st = (m, (i : Int)) ∧ 0 ≤ m ∧ m + ((((x.take i).map fun y => szN_TWrite y).sum : Nat) : Int) ≤ n - x.length ∧ ∀ (j : Nat) y, j < i → x[j]? = some y → Sz_TWrite y) (fun o : Int ⊕ Int => match o with | .inl r => r = -1 | .inr r => r + x.length + (((x.map fun y => szN_TWrite y).sum : Nat) : Int) ≤ n ∧ 0 ≤ r ∧ ∀ y ∈ x, Sz_TWrite y) ?_ ?_ (n - x.length, 0) ⟨_, rfl, by omega, by simp, by simp⟩
  · obtain ⟨r, h2, h3⟩ := key
    rw [h2]
    cases r with
    | inl r => simp only at h3; subst h3; exact ⟨-1, rfl, by omega, by omega, fun h => absurd h (by omega)⟩
    | inr r => exact ⟨r, rfl, by have := h3.1; omega, by have := h3.2.1; omega, fun _ => ⟨⟨by have := h3.1; omega, h3.2.2⟩, by have := h3.1; omega⟩⟩
  · rintro i _ hi ⟨m, rfl, hm0, hm1, hj⟩
    have hsum : ((x.take (i + 1)).map fun y => szN_TWrite y).sum = ((x.take i).map fun y => szN_TWrite y).sum + (szN_TWrite (x[i])) := by rw [List.take_succ_eq_append_getElem hi, List.map_append, List.sum_append]; simp
    unfold S_laws_szWriteS_1
    simp only [dlt hi, if_true, at?_nat hi, Option.bind_some, w64_succ (show i < 9223372036854775807 by omega)]
    obtain ⟨r, h2, h3, h4, h5⟩ := p_laws_szWrite (x := x[i]) (n := m) (w.2 _ (List.getElem_mem hi)) hm0 (by omega)
    simp only [h2, Option.bind_some]
    by_cases c1 : r < 0
    · exact .inr ⟨.inl (-1), by simp [c1], rfl⟩
    have h6 := h5 (by omega)
    refine .inl ⟨(r, ((i + 1 : Nat) : Int)), by simp [c1], r, rfl, by omega, by rw [hsum]; have := h6.2; omega, ?_⟩
    intro j y hj1 hj2
    by_cases e : j = i
    · subst e; rw [List.getElem?_eq_getElem hi] at hj2; cases hj2; exact h6.1
    · exact hj j y (by omega) hj2
  · rintro _ ⟨m, rfl, hm0, hm1, hj⟩
    rw [List.take_length] at hm1
    refine ⟨.inr m, by unfold S_laws_szWriteS_1; simp, by show m + _ + _ ≤ n; omega, hm0, fun y hy => ?_⟩
    obtain ⟨j, hj2⟩ := List.getElem?_of_mem hy
    exact hj j y (List.getElem?_eq_some_iff.1 hj2).1 hj2
theorem p_laws_szDisk {x : TDisk} {n : Int} (w : wf_TDisk x) (h0 : 0 ≤ n) (h1 : n ≤ 1048576) : ∃ r, F_laws_szDisk x n = some r ∧ r ≤ n ∧ -1 ≤ r ∧ (0 ≤ r → (Sz_TDisk x) ∧ r + ((szN_TDisk x : Nat) : Int) ≤ n) := by
  unfold F_laws_szDisk
  obtain ⟨r1, f1, g1, b1, q1⟩ := p_laws_szStringS (x := x.Sectors) (n := n) w.1 (by omega) (by omega)
  simp only [f1, Option.bind_some]
  by_cases c1 : r1 < 0
  · rw [if_pos (by simpa using c1)]; exact ⟨-1, rfl, by omega, by omega, fun h => absurd h (by omega)⟩
  rw [if_neg (by simpa using c1)]
  have a1 := (q1 (by omega)).2
  obtain ⟨r2, f2, g2, b2, q2⟩ := p_laws_szWriteS (x := x.Cache) (n := r1) w.2.1 (by omega) (by omega)
  simp only [f2, Option.bind_some]
  by_cases c2 : r2 < 0
  · rw [if_pos (by simpa using c2)]; exact ⟨-1, rfl, by omega, by omega, fun h => absurd h (by omega)⟩
  rw [if_neg (by simpa using c2)]
  have a2 := (q2 (by omega)).2
  exact ⟨_, rfl, by omega, by omega, fun _ => ⟨⟨(q1 (by omega)).1, (q2 (by omega)).1⟩, by unfold szN_TDisk; omega⟩⟩
theorem p_laws_toStringS {x : List (List UInt8)} (h : x.length ≤ 1048576 ∧ ∀ y ∈ x, y.length ≤ 1048576) : F_laws_toStringS x = some x := by
  unfold F_laws_toStringS
  have hl := h.1
  rw [mk?_ok (by omega) (by omega), Option.bind_some, to_loop (step := S_laws_toStringS_1 x) (by omega)]
  · rfl
  · intro i hi m hm
    unfold S_laws_toStringS_1
    simp only [dlt hi, if_true, at?_nat hi, at?_nat (show i < m.length by omega), Option.bind_some, set'_nat, w64_succ (show i < 9223372036854775807 by omega)]
  · intro m
    unfold S_laws_toStringS_1
    simp
theorem p_laws_toWrite {x : TWrite} (h : Sz_TWrite x) : F_laws_toWrite x = some x := by
  unfold F_laws_toWrite
  rfl
theorem p_laws_toWriteS {x : List TWrite} (h : x.length ≤ 1048576 ∧ ∀ y ∈ x, Sz_TWrite y) : F_laws_toWriteS x = some x := by
  unfold F_laws_toWriteS
  have hl := h.1
  rw [mk?_ok (by omega) (by omega), Option.bind_some, to_loop (step := S_laws_toWriteS_1 x) (by omega)]
  · rfl
  · intro i hi m hm
    unfold S_laws_toWriteS_1
    have he := p_laws_toWrite (x := x[i]) (h.2 _ (List.getElem_mem hi))
    simp only [dlt hi, if_true, at?_nat hi, at?_nat (show i < m.length by omega), Option.bind_some, set'_nat, w64_succ (show i < 9223372036854775807 by omega), he]
  · intro m
    unfold S_laws_toWriteS_1
    simp
theorem p_laws_toDisk {x : TDisk} (h : Sz_TDisk x) : F_laws_toDisk x = some x := by
  unfold F_laws_toDisk
  simp only [p_laws_toStringS (x := x.Sectors) h.sSectors, p_laws_toWriteS (x := x.Cache) h.sCache, Option.bind_some]
theorem p_laws_eqStringS {x : List (List UInt8)} (h : x.length ≤ 1048576 ∧ ∀ y ∈ x, y.length ≤ 1048576) : F_laws_eqStringS x x = some true := by
  unfold F_laws_eqStringS
  have hl := h.1
  have key : iter (S_laws_eqStringS_1 x x) 0 = some (.inr ()) := by
    refine iter_range (fun i => (i : Int)) x.length ?_ ?_
    · intro i hi
      unfold S_laws_eqStringS_1
      simp only [dlt hi, if_true, at?_nat hi, Option.bind_some, w64_succ (show i < 9223372036854775807 by omega)]
      try simp
    · unfold S_laws_eqStringS_1
      simp
  rw [key]
  simp
theorem p_laws_eqWrite {x : TWrite} (h : Sz_TWrite x) : F_laws_eqWrite x x = some true := by
  unfold F_laws_eqWrite
  simp []
theorem p_laws_eqWriteS {x : List TWrite} (h : x.length ≤ 1048576 ∧ ∀ y ∈ x, Sz_TWrite y) : F_laws_eqWriteS x x = some true := by
  unfold F_laws_eqWriteS
  have hl := h.1
  have key : iter (S_laws_eqWriteS_1 x x) 0 = some (.inr ()) := by
    refine iter_range (fun i => (i : Int)) x.length ?_ ?_
    · intro i hi
      unfold S_laws_eqWriteS_1
      have he := p_laws_eqWrite (x := x[i]) (h.2 _ (List.getElem_mem hi))
      simp only [dlt hi, if_true, at?_nat hi, Option.bind_some, w64_succ (show i < 9223372036854775807 by omega), he]
      try simp
    · unfold S_laws_eqWriteS_1
      simp
  rw [key]
  simp
theorem p_laws_eqDisk {x : TDisk} (h : Sz_TDisk x) : F_laws_eqDisk x x = some true := by
  unfold F_laws_eqDisk
  simp [p_laws_eqStringS (x := x.Sectors) h.sSectors, p_laws_eqWriteS (x := x.Cache) h.sCache]
theorem p_laws_eqRec {x : TRec} (h : Sz_TRec x) : F_laws_eqRec x x = some true := by
  unfold F_laws_eqRec
  simp []
theorem p_laws_eqItem {x : TItem} (h : Sz_TItem x) : F_laws_eqItem x x = some true := by
  unfold F_laws_eqItem
  simp [p_laws_eqRec (x := x.Rec) h.sRec]
theorem p_laws_eqItemS {x : List TItem} (h : x.length ≤ 1048576 ∧ ∀ y ∈ x, Sz_TItem y) : F_laws_eqItemS x x = some true := by
  unfold F_laws_eqItemS
  have hl := h.1
  have key : iter (S_laws_eqItemS_1 x x) 0 = some (.inr ()) := by
    refine iter_range (fun i => (i : Int)) x.length ?_ ?_
    · intro i hi
      unfold S_laws_eqItemS_1
      have he := p_laws_eqItem (x := x[i]) (h.2 _ (List.getElem_mem hi))
      simp only [dlt hi, if_true, at?_nat hi, Option.bind_some, w64_succ (show i < 9223372036854775807 by omega), he]
      try simp
    · unfold S_laws_eqItemS_1
      simp
  rw [key]
  simp
theorem p_laws_eqSeg {x : TSeg} (h : Sz_TSeg x) : F_laws_eqSeg x x = some true := by
  unfold F_laws_eqSeg
  simp [p_laws_eqItemS (x := x.Items) h.sItems]
noncomputable def mk_laws_markItemS_w (m : Nat) (_ : TItem) : TItem := ({ Seq := ((m : Nat) : Int), Rec := ({ Kind := ((m + 1 : Nat) : Int), Valid := ((m + 2 : Nat) : Int), Uid := ((m + 3 : Nat) : Int), Next := ((m + 4 : Nat) : Int), Flags := ((m + 5 : Nat) : Int), User := mt (m + 6), Name := mt (m + 7), Text := mt (m + 8) } : TRec) } : TItem)
theorem p_laws_markItemS_w {l : List TItem} {m0 : Nat} (hl : l.length ≤ 1048576) (hm0 : m0 ≤ 1125899906842624) : F_laws_markItemS_w l (m0 : Int) = some (((m0 + 9 * l.length : Nat) : Int), l.mapIdx fun i x => mk_laws_markItemS_w (m0 + 9 * i) x) := by
  unfold F_laws_markItemS_w
  rw [mark_loop (step := S_laws_markItemS_w_1) (k := 9) (g := mk_laws_markItemS_w) (l := l) ?_ ?_]
  · rfl
  · intro i m l' h hi hm
    unfold S_laws_markItemS_w_1
    simp only [dlt h, if_true, at?_nat h, at?_set h, Option.bind_some, set'_nat, List.set_set, w64_succ (show i < 9223372036854775807 by omega), w64_succ (show m < 9223372036854775807 by omega), w64_succ (n := m + 1) (by omega), w64_succ (n := m + 2) (by omega), w64_succ (n := m + 3) (by omega), w64_succ (n := m + 4) (by omega), w64_succ (n := m + 5) (by omega), w64_succ (n := m + 6) (by omega), w64_succ (n := m + 7) (by omega), w64_succ (n := m + 8) (by omega), p_laws_markText (show m + 6 < 4611686018427387904 by omega), p_laws_markText (show m + 7 < 4611686018427387904 by omega), p_laws_markText (show m + 8 < 4611686018427387904 by omega)]
    try rfl
  · intro m l' hl'
    unfold S_laws_markItemS_w_1
    simp [hl']
theorem p_laws_heldItemS {l : List TItem} {m0 : Nat} (hl : l.length ≤ 1048576) (hm0 : m0 ≤ 1125899906842624) : F_laws_heldItemS (l.mapIdx fun i x => mk_laws_markItemS_w (m0 + 9 * i) x) (m0 : Int) = some ((m0 + 9 * l.length : Nat) : Int) := by
  unfold F_laws_heldItemS
  rw [held_loop (step := S_laws_heldItemS_1 _) (k := 9) (r := Sum.inr) (l := l.mapIdx fun i x => mk_laws_markItemS_w (m0 + 9 * i) x) (g := mk_laws_markItemS_w) ?_ ?_]
  · simp
  · intro i m h hm
    have hi : i < l.length := by simpa using h
    unfold S_laws_heldItemS_1
    simp only [dlt h, if_true, at?_nat h, List.getElem_mapIdx, ← hm, Option.bind_some, w64_succ (show i < 9223372036854775807 by omega), w64_succ (show m < 9223372036854775807 by omega), w64_succ (n := m + 1) (by omega), w64_succ (n := m + 2) (by omega), w64_succ (n := m + 3) (by omega), w64_succ (n := m + 4) (by omega), w64_succ (n := m + 5) (by omega), w64_succ (n := m + 6) (by omega), w64_succ (n := m + 7) (by omega), w64_succ (n := m + 8) (by omega), p_laws_markText (show m + 6 < 4611686018427387904 by omega), p_laws_markText (show m + 7 < 4611686018427387904 by omega), p_laws_markText (show m + 8 < 4611686018427387904 by omega)]
    simp [mk_laws_markItemS_w, Int.add_assoc]
  · intro m
    unfold S_laws_heldItemS_1
    simp
noncomputable def mk_laws_markStringS_w (m : Nat) (_ : List UInt8) : List UInt8 := mt (m)
theorem p_laws_markStringS_w {l : List (List UInt8)} {m0 : Nat} (hl : l.length ≤ 1048576) (hm0 : m0 ≤ 1125899906842624) : F_laws_markStringS_w l (m0 : Int) = some (((m0 + 1 * l.length : Nat) : Int), l.mapIdx fun i x => mk_laws_markStringS_w (m0 + 1 * i) x) := by
  unfold F_laws_markStringS_w
  rw [mark_loop (step := S_laws_markStringS_w_1) (k := 1) (g := mk_laws_markStringS_w) (l := l) ?_ ?_]
  · rfl
  · intro i m l' h hi hm
    unfold S_laws_markStringS_w_1
    simp only [dlt h, if_true, at?_nat h, at?_set h, Option.bind_some, set'_nat, List.set_set, w64_succ (show i < 9223372036854775807 by omega), w64_succ (show m < 9223372036854775807 by omega), p_laws_markText (show m < 4611686018427387904 by omega)]
    try rfl
  · intro m l' hl'
    unfold S_laws_markStringS_w_1
    simp [hl']
noncomputable def mk_laws_markWriteS_w (m : Nat) (_ : TWrite) : TWrite := ({ At := ((m : Nat) : Int), Text := mt (m + 1) } : TWrite)
theorem p_laws_markWriteS_w {l : List TWrite} {m0 : Nat} (hl : l.length ≤ 1048576) (hm0 : m0 ≤ 1125899906842624) : F_laws_markWriteS_w l (m0 : Int) = some (((m0 + 2 * l.length : Nat) : Int), l.mapIdx fun i x => mk_laws_markWriteS_w (m0 + 2 * i) x) := by
  unfold F_laws_markWriteS_w
  rw [mark_loop (step := S_laws_markWriteS_w_1) (k := 2) (g := mk_laws_markWriteS_w) (l := l) ?_ ?_]
  · rfl
  · intro i m l' h hi hm
    unfold S_laws_markWriteS_w_1
    simp only [dlt h, if_true, at?_nat h, at?_set h, Option.bind_some, set'_nat, List.set_set, w64_succ (show i < 9223372036854775807 by omega), w64_succ (show m < 9223372036854775807 by omega), w64_succ (n := m + 1) (by omega), p_laws_markText (show m + 1 < 4611686018427387904 by omega)]
    try rfl
  · intro m l' hl'
    unfold S_laws_markWriteS_w_1
    simp [hl']
end Go.Proofs.Ytgdcbjoaoagbpaa.V
/- What a check must be, and its text. -/
namespace Go.Proofs.Ytgdcbjoaoagbpaa.V
open Go Go.RowKit
set_option maxRecDepth 100000



end Go.Proofs.Ytgdcbjoaoagbpaa.V
/- The text of a check. -/
namespace Go.Proofs.Ytgdcbjoaoagbpaa.V
open Go Go.RowKit
set_option maxRecDepth 100000

end Go.Proofs.Ytgdcbjoaoagbpaa.V
/- Numbers, words and seals that are read. -/
namespace Go.Proofs.Ytgdcbjoaoagbpaa.V
open Go Go.RowKit
set_option maxRecDepth 100000

theorem ofI_toNat (b : UInt8) : ofI (b.toNat : Int) = b := by
  simp [ofI]
theorem toNat_ofI {n : Nat} (h : n < 256) : (ofI (n : Int)).toNat = n := by
  simp [ofI]; omega
def dig : Nat → List UInt8 → Option (Nat × Nat)
  | 0, _ => none
  | _ + 1, [] => none
  | f + 1, b :: r => if b.toNat < 128 then some (b.toNat, 1) else match dig f r with
    | some x => some (b.toNat - 128 + 128 * x.1, x.2 + 1)
    | none => none
theorem dig_len : ∀ {f : Nat} {r : List UInt8} {x : Nat × Nat}, dig f r = some x → 1 ≤ x.2 ∧ x.2 ≤ r.length ∧ x.2 ≤ f ∧ x.1 < 128 ^ x.2
  | 0, _, _, h => by simp [dig] at h
  | _ + 1, [], _, h => by simp [dig] at h
  | f + 1, b :: r, x, h => by
    simp only [dig] at h
    split at h
    · cases h; simp; omega
    · split at h
      · rename_i y hy
        cases h
        obtain ⟨h1, h2, h3, h4⟩ := dig_len hy
        have := b.toNat_lt
        refine ⟨by simp, by simpa using h2, by simpa using h3, ?_⟩
        show _ < 128 ^ (y.2 + 1)
        rw [Nat.pow_succ]
        simp only []
        omega
      · cases h
theorem dig_zero : ∀ {f : Nat} {r : List UInt8} {x : Nat × Nat}, dig f r = some x → x.1 = 0 → r[x.2 - 1]? = some 0
  | 0, _, _, h, _ => by simp [dig] at h
  | _ + 1, [], _, h, _ => by simp [dig] at h
  | f + 1, b :: r, x, h, h0 => by
    simp only [dig] at h
    split at h
    · cases h
      simp only at h0
      simp
      exact UInt8.toNat_inj.1 h0
    · split at h
      · rename_i y hy
        cases h
        obtain ⟨h1, _⟩ := dig_len hy
        have := dig_zero hy (by simp only at h0; omega)
        obtain ⟨c, hc⟩ : ∃ c, y.2 = c + 1 := ⟨y.2 - 1, by omega⟩
        simp only [hc, Nat.add_sub_cancel] at this ⊢
        simpa using this
      · cases h
/-- What is read is told as it stood, if the last is not nothing. -/
theorem dig_canon : ∀ {f : Nat} {r : List UInt8} {x : Nat × Nat}, dig f r = some x → ((vtl x.1).map ofI = r.take x.2 ↔ ¬ (1 < x.2 ∧ r[x.2 - 1]? = some 0))
  | 0, _, _, h => by simp [dig] at h
  | _ + 1, [], _, h => by simp [dig] at h
  | f + 1, b :: r, x, h => by
    simp only [dig] at h
    split at h
    · cases h
      rw [vtl_small (by simp only; omega)]
      simp [ofI_toNat]
    · split at h
      · rename_i hb y hy
        cases h
        have hl := b.toNat_lt
        obtain ⟨h1, h2, _⟩ := dig_len hy
        have ih := dig_canon hy
        obtain ⟨c, hc⟩ : ∃ c, y.2 = c + 1 := ⟨y.2 - 1, by omega⟩
        simp only []
        by_cases h0 : y.1 = 0
        · have hz := dig_zero hy h0
          rw [hc] at hz
          simp only [Nat.add_sub_cancel] at hz
          rw [h0, vtl_small (by omega)]
          constructor
          · intro e
            have := congrArg List.length e
            rw [List.length_take] at this
            simp only [List.length_map, List.length_cons, List.length_nil] at this
            omega
          · intro e
            refine absurd ⟨by omega, ?_⟩ e
            simp only [Nat.add_sub_cancel, hc]
            simpa using hz
        · have e1 : (b.toNat - 128 + 128 * y.1) % 128 = b.toNat - 128 := by omega
          have e2 : (b.toNat - 128 + 128 * y.1) / 128 = y.1 := by omega
          rw [vtl_big (by omega), e1, e2]
          have e3 : ofI ((b.toNat - 128 + 128 : Nat) : Int) = b := by
            rw [show b.toNat - 128 + 128 = b.toNat by omega]; exact ofI_toNat b
          simp only [List.map_cons, e3, List.take_succ_cons, List.cons.injEq, true_and, ih, Nat.add_sub_cancel]
          rw [hc]
          simp only [Nat.add_sub_cancel, List.getElem?_cons_succ]
          constructor
          · intro hh he
            cases c with
            | zero =>
              cases f with
              | zero => simp [dig] at hy
              | succ f =>
                cases r with
                | nil => simp at h2; omega
                | cons b2 r =>
                  simp at he
                  subst he
                  simp [dig] at hy
                  rw [← hy] at h0
                  exact h0 rfl
            | succ c => exact hh ⟨by omega, he.2⟩
          · intro hh he
            exact hh ⟨by omega, he.2⟩
      · cases h
theorem vtl_len' : ∀ (k n : Nat), n < 128 ^ (k + 1) → (vtl n).length ≤ k + 1
  | 0, n, h => by rw [vtl_small (by simp at h; omega)]; simp
  | k + 1, n, h => by
    by_cases hb : 127 < n
    · rw [vtl_big hb]
      have := vtl_len' k (n / 128) (by rw [Nat.pow_succ] at h; exact Nat.div_lt_of_lt_mul (by rw [Nat.mul_comm]; exact h))
      simp; omega
    · rw [vtl_small (by omega)]; simp
theorem dig_vtl : ∀ (f n : Nat) (r : List UInt8), (vtl n).length ≤ f → dig f ((vtl n).map ofI ++ r) = some (n, (vtl n).length)
  | 0, n, r, h => by
    exfalso
    unfold vtl at h
    split at h <;> simp at h
  | f + 1, n, r, h => by
    by_cases hb : 127 < n
    · rw [vtl_big hb] at h ⊢
      have ih := dig_vtl f (n / 128) r (by simpa using h)
      simp only [List.map_cons, List.cons_append, dig, toNat_ofI (show n % 128 + 128 < 256 by omega)]
      rw [if_neg (by omega), ih]
      simp; omega
    · rw [vtl_small (by omega)]
      simp only [List.map_cons, List.map_nil, List.cons_append, dig, toNat_ofI (show n < 256 by omega)]
      rw [if_pos (by omega)]
      simp
theorem vt_nat (n : Nat) : vt (n : Int) = (vtl n).map ofI := by
  unfold vt; rw [if_pos (by omega)]; simp

def rv (t : List UInt8) (a : Nat) : Option (Nat × Nat) := match dig 5 (t.drop a) with
  | some x => if x.1 ≤ 1000000000 ∧ vt (x.1 : Int) = (t.drop a).take x.2 then some (x.1, a + x.2) else none
  | none => none
def rvR (o : Option (Nat × Nat)) : Int × Int × Bool := match o with
  | some x => ((x.1 : Int), (x.2 : Int), true)
  | none => (0, 0, false)
theorem rv_vt {t : List UInt8} {a n : Nat} {r : List UInt8} (h : t.drop a = vt (n : Int) ++ r) (hn : n ≤ 1000000000) : rv t a = some (n, a + (vt (n : Int)).length) := by
  have hl : (vtl n).length ≤ 5 := vtl_len' 4 n (by omega)
  unfold rv
  rw [h, vt_nat, dig_vtl 5 n r hl]
  simp [hn, vt_nat]
theorem rv_bnd {t : List UInt8} {a : Nat} {x : Nat × Nat} (h : rv t a = some x) : a < x.2 ∧ x.2 ≤ t.length ∧ x.1 ≤ 1000000000 := by
  unfold rv at h
  split at h
  · rename_i y hy
    split at h
    · rename_i hc
      cases h
      obtain ⟨h1, h2, _⟩ := dig_len hy
      simp at h2
      exact ⟨by simp only; omega, by simp only; omega, hc.1⟩
    · cases h
  · cases h

theorem andv127' (b : UInt8) : andv .i64 (b.toNat : Int) 127 = ((b.toNat % 128 : Nat) : Int) := andv127 (by have := b.toNat_lt; omega)
theorem orv_add {a x j : Nat} (ha : a < 2 ^ j) (h : a + x * 2 ^ j < 9223372036854775808) : orv .i64 (a : Int) ((x * 2 ^ j : Nat) : Int) = ((a + x * 2 ^ j : Nat) : Int) := by
  show IntKind.i64.wrap ((BitVec.ofInt 64 (a : Int) ||| BitVec.ofInt 64 ((x * 2 ^ j : Nat) : Int)).toNat : Int) = _
  have e1 : BitVec.ofInt 64 (a : Int) = BitVec.ofNat 64 a := by simp
  have e2 : BitVec.ofInt 64 ((x * 2 ^ j : Nat) : Int) = BitVec.ofNat 64 (x * 2 ^ j) := BitVec.ofInt_natCast ..
  rw [e1, e2]
  have e3 : (BitVec.ofNat 64 a ||| BitVec.ofNat 64 (x * 2 ^ j)).toNat = a + x * 2 ^ j := by
    rw [BitVec.toNat_or]
    simp only [BitVec.toNat_ofNat]
    rw [Nat.mod_eq_of_lt (a := a) (by omega), Nat.mod_eq_of_lt (a := x * 2 ^ j) (by omega), Nat.or_comm, Nat.mul_comm x, ← Nat.two_pow_add_eq_or_of_lt ha]
    omega
  rw [e3]
  exact w64_nat (by omega)
theorem p128 (k : Nat) : 128 ^ k = 2 ^ (7 * k) := by rw [Nat.pow_mul]
theorem impl_rv_loop {t : List UInt8} {a : Nat} (ht : t.length ≤ 4611686018427387904) (ha : a ≤ t.length) : ∀ (f k acc : Nat), f + k = 5 → acc < 128 ^ k →
    (iter (S_impl_ReadVar_1 t (a : Int)) ((acc : Int), (k : Int))).bind (Sum.elim (fun r => some r) (fun _ => some (0, 0, false))) = some (match dig f (t.drop (a + k)) with
      | none => (0, 0, false)
      | some x => if 1000000000 < acc + x.1 * 128 ^ k ∨ ((t.drop (a + k))[x.2 - 1]? = some 0 ∧ 1 < k + x.2) then (0, 0, false) else (((acc + x.1 * 128 ^ k : Nat) : Int), ((a + k + x.2 : Nat) : Int), true))
  | 0, k, acc, hk, _ => by
    have : k = 5 := by omega
    subst this
    rw [iter_done (r := .inr ()) (by unfold S_impl_ReadVar_1; simp)]
    simp [dig]
  | f + 1, k, acc, hk, hacc => by
    have ew : w64 ((a : Int) + (k : Int)) = ((a + k : Nat) : Int) := by rw [w64_id (by omega) (by omega)]; omega
    by_cases hlt : a + k < t.length
    · have hd : t.drop (a + k) = t[a + k] :: t.drop (a + k + 1) := List.drop_eq_getElem_cons hlt
      have hb := (t[a + k]).toNat_lt
      generalize hbv : t[a + k] = b at hd hb
      have e7 : w64 (7 * (k : Int)) = ((7 * k : Nat) : Int) := by rw [w64_id (by omega) (by omega)]; omega
      have hpk : 128 ^ k ≤ 128 ^ 4 := Nat.pow_le_pow_right (by omega) (by omega)
      have hpp : (b.toNat % 128) * 128 ^ k ≤ 127 * 128 ^ 4 := Nat.mul_le_mul (by omega) hpk
      have es : shl? .i64 ((b.toNat % 128 : Nat) : Int) ((7 * k : Nat) : Int) = some (((b.toNat % 128) * 2 ^ (7 * k) : Nat) : Int) := by
        unfold shl?
        rw [if_neg (by omega)]
        have hm : min ((7 * k : Nat) : Int).toNat IntKind.i64.bits = 7 * k := by
          simp [IntKind.bits]; omega
        rw [hm]
        have : ((b.toNat % 128 : Nat) : Int) * 2 ^ (7 * k) = (((b.toNat % 128) * 2 ^ (7 * k) : Nat) : Int) := by simp
        rw [this]
        exact congrArg some (w64_nat (by rw [← p128]; omega))
      have eo : orv .i64 (acc : Int) (((b.toNat % 128) * 2 ^ (7 * k) : Nat) : Int) = ((acc + (b.toNat % 128) * 128 ^ k : Nat) : Int) := by
        rw [orv_add (by rw [← p128]; exact hacc) (by rw [← p128]; omega), p128]
      have eb : w64 ((b.toNat : Nat) : Int) = (b.toNat : Int) := w64_nat (by omega)
      have hst : S_impl_ReadVar_1 t (a : Int) ((acc : Int), (k : Int)) = if 127 < b.toNat then some (.inl (((acc + (b.toNat % 128) * 128 ^ k : Nat) : Int), ((k + 1 : Nat) : Int))) else if (b.toNat = 0 ∧ 0 < k) ∨ 1000000000 < acc + (b.toNat % 128) * 128 ^ k then some (.inr (.inl (0, 0, false))) else some (.inr (.inl (((acc + (b.toNat % 128) * 128 ^ k : Nat) : Int), ((a + k + 1 : Nat) : Int), true))) := by
        unfold S_impl_ReadVar_1
        simp only [show decide ((k : Int) < 5) = true from by simp; omega, if_true, ew, show decide (((a + k : Nat) : Int) < (t.length : Int)) = true from by simp; omega, Option.bind_some, bt?_nat hlt, hbv, eb, andv127', e7, es, eo, w64_succ (show k < 9223372036854775807 by omega), w64_succ (show a + k < 9223372036854775807 by omega)]
        by_cases g1 : 127 < b.toNat
        · rw [if_pos g1, if_pos (by simp; omega)]
        · rw [if_neg g1, if_neg (by simp; omega)]
          generalize acc + b.toNat % 128 * 128 ^ k = M
          by_cases g2 : b.toNat = 0 <;> by_cases g3 : 0 < k <;> by_cases g4 : 1000000000 < M
          all_goals
            have g4' : decide ((M : Int) > 1000000000) = decide (1000000000 < M) := by
              rw [decide_eq_decide]; omega
            rw [g4']
            have g2' : ((b.toNat : Int) == 0) = decide (b.toNat = 0) := by
              rw [Bool.eq_iff_iff]; simp
            rw [g2']
            simp [g2, g3, g4]
      by_cases g1 : 127 < b.toNat
      · rw [if_pos g1] at hst
        have hq : (b.toNat % 128) * 128 ^ k ≤ 127 * 128 ^ k := Nat.mul_le_mul_right _ (by omega)
        rw [iter_next hst, impl_rv_loop ht ha f (k + 1) _ (by omega) (by rw [Nat.pow_succ]; omega), hd]
        simp only [dig, if_neg (show ¬ b.toNat < 128 by omega)]
        have ed : t.drop (a + (k + 1)) = t.drop (a + k + 1) := by rw [Nat.add_assoc]
        rw [ed]
        cases hdg : dig f (t.drop (a + k + 1)) with
        | none => rfl
        | some x =>
          obtain ⟨h1, _⟩ := dig_len hdg
          obtain ⟨c, hc⟩ : ∃ c, x.2 = c + 1 := ⟨x.2 - 1, by omega⟩
          have ev : acc + b.toNat % 128 * 128 ^ k + x.1 * 128 ^ (k + 1) = acc + (b.toNat - 128 + 128 * x.1) * 128 ^ k := by
            rw [show b.toNat % 128 = b.toNat - 128 by omega, Nat.pow_succ, Nat.add_mul]
            rw [show 128 * x.1 * 128 ^ k = x.1 * (128 ^ k * 128) by rw [Nat.mul_comm 128, Nat.mul_assoc, Nat.mul_comm 128]]
            omega
          have ei : (b :: t.drop (a + k + 1))[x.2 + 1 - 1]? = (t.drop (a + k + 1))[x.2 - 1]? := by
            rw [hc]; simp
          have e4 : a + (k + 1) + x.2 = a + k + (x.2 + 1) := by omega
          have e5 : k + 1 + x.2 = k + (x.2 + 1) := by omega
          simp only [ev, ei, e4, e5]
      · rw [if_neg g1] at hst
        rw [hd]
        simp only [dig, if_pos (show b.toNat < 128 by omega)]
        have em : b.toNat % 128 = b.toNat := by omega
        rw [em] at hst
        have hz : (some b = some (0 : UInt8)) ↔ b.toNat = 0 := by
          rw [Option.some_inj]
          exact ⟨fun h => by rw [h]; rfl, fun h => UInt8.toNat_inj.1 (by simpa using h)⟩
        by_cases g2 : (b.toNat = 0 ∧ 0 < k) ∨ 1000000000 < acc + b.toNat * 128 ^ k
        · rw [if_pos g2] at hst
          rw [iter_done hst, if_pos]
          · rfl
          · rcases g2 with g | g
            · exact .inr ⟨by simpa using hz.2 g.1, by omega⟩
            · exact .inl g
        · rw [if_neg g2] at hst
          rw [iter_done hst, if_neg]
          · rfl
          · rintro (g | g)
            · exact g2 (.inr g)
            · exact g2 (.inl ⟨hz.1 (by simpa using g.1), by omega⟩)
    · rw [iter_done (r := .inr ()) (by unfold S_impl_ReadVar_1; simp only [ew]; rw [show decide (((a + k : Nat) : Int) < (t.length : Int)) = false from by simp; omega]; simp)]
      rw [List.drop_eq_nil_of_le (by omega)]
      simp [dig]
theorem spec_rv_loop {t : List UInt8} {a : Nat} (ht : t.length ≤ 4611686018427387904) (ha : a ≤ t.length) : ∀ (f k acc : Nat), f + k = 5 → acc < 128 ^ k →
    (iter (S_spec_ReadVar_1 t (a : Int)) ((acc : Int), ((128 ^ k : Nat) : Int), ((a + k : Nat) : Int))).bind (Sum.elim (fun r => some r) (fun _ => some (0, 0, false))) = some (match dig f (t.drop (a + k)) with
      | none => (0, 0, false)
      | some x => if 1000000000 < acc + x.1 * 128 ^ k ∨ vt ((acc + x.1 * 128 ^ k : Nat) : Int) ≠ (t.drop a).take (k + x.2) then (0, 0, false) else (((acc + x.1 * 128 ^ k : Nat) : Int), ((a + k + x.2 : Nat) : Int), true))
  | 0, k, acc, hk, _ => by
    have : k = 5 := by omega
    subst this
    have ew : w64 ((a : Int) + 5) = ((a + 5 : Nat) : Int) := by rw [w64_id (by omega) (by omega)]; omega
    rw [iter_done (r := .inr ()) (by
      unfold S_spec_ReadVar_1
      simp only [ew]
      rw [show decide (((a + 5 : Nat) : Int) < ((a + 5 : Nat) : Int)) = false from by simp]
      cases decide (((a + 5 : Nat) : Int) < (t.length : Int)) <;> simp)]
    simp [dig]
  | f + 1, k, acc, hk, hacc => by
    have ew : w64 ((a : Int) + 5) = ((a + 5 : Nat) : Int) := by rw [w64_id (by omega) (by omega)]; omega
    by_cases hlt : a + k < t.length
    · have hd : t.drop (a + k) = t[a + k] :: t.drop (a + k + 1) := List.drop_eq_getElem_cons hlt
      have hb := (t[a + k]).toNat_lt
      generalize hbv : t[a + k] = b at hd hb
      have hpk : 128 ^ k ≤ 128 ^ 4 := Nat.pow_le_pow_right (by omega) (by omega)
      have hpp : (b.toNat % 128) * 128 ^ k ≤ 127 * 128 ^ 4 := Nat.mul_le_mul (by omega) hpk
      have hq : (b.toNat % 128) * 128 ^ k ≤ 127 * 128 ^ k := Nat.mul_le_mul_right _ (by omega)
      have eb : w64 ((b.toNat : Nat) : Int) = (b.toNat : Int) := w64_nat (by omega)
      have em : w64 (Int.tmod (b.toNat : Int) 128 * ((128 ^ k : Nat) : Int)) = (((b.toNat % 128) * 128 ^ k : Nat) : Int) := by
        rw [Int.tmod_eq_emod_of_nonneg (by omega)]
        have : ((b.toNat : Int) % 128) * ((128 ^ k : Nat) : Int) = (((b.toNat % 128) * 128 ^ k : Nat) : Int) := by simp
        rw [this]
        exact w64_nat (by omega)
      have ea : w64 ((acc : Int) + (((b.toNat % 128) * 128 ^ k : Nat) : Int)) = ((acc + (b.toNat % 128) * 128 ^ k : Nat) : Int) := by
        rw [← Int.natCast_add]; exact w64_nat (by omega)
      have e128 : w64 (((128 ^ k : Nat) : Int) * 128) = ((128 ^ (k + 1) : Nat) : Int) := by
        rw [show ((128 ^ k : Nat) : Int) * 128 = ((128 ^ (k + 1) : Nat) : Int) by rw [Nat.pow_succ]; simp]
        exact w64_nat (by rw [Nat.pow_succ]; omega)
      have hsub : sub? t (a : Int) ((a + k + 1 : Nat) : Int) = some ((t.drop a).take (k + 1)) := by
        unfold sub?
        rw [if_pos (by omega)]
        have e1 : ((a + k + 1 : Nat) : Int).toNat = a + (k + 1) := by omega
        have e2 : (a : Int).toNat = a := by omega
        rw [e1, e2, List.drop_take]
        congr 2
        omega
      have hst : S_spec_ReadVar_1 t (a : Int) ((acc : Int), ((128 ^ k : Nat) : Int), ((a + k : Nat) : Int)) = if 127 < b.toNat then some (.inl (((acc + (b.toNat % 128) * 128 ^ k : Nat) : Int), ((128 ^ (k + 1) : Nat) : Int), ((a + k + 1 : Nat) : Int))) else if 1000000000 < acc + (b.toNat % 128) * 128 ^ k ∨ vt ((acc + (b.toNat % 128) * 128 ^ k : Nat) : Int) ≠ (t.drop a).take (k + 1) then some (.inr (.inl (0, 0, false))) else some (.inr (.inl (((acc + (b.toNat % 128) * 128 ^ k : Nat) : Int), ((a + k + 1 : Nat) : Int), true))) := by
        unfold S_spec_ReadVar_1
        simp only [show decide (((a + k : Nat) : Int) < (t.length : Int)) = true from by simp; omega, if_true, ew, show decide (((a + k : Nat) : Int) < ((a + 5 : Nat) : Int)) = true from by simp; omega, Option.bind_some, bt?_nat hlt, hbv, eb, em, ea, e128, hsub, w64_succ (show a + k < 9223372036854775807 by omega)]
        rw [spec_var (by omega) (by omega), Option.bind_some]
        generalize acc + b.toNat % 128 * 128 ^ k = M
        by_cases g1 : 127 < b.toNat
        · rw [if_pos g1, if_neg (by simp; omega)]
        · rw [if_neg g1, if_pos (by simp; omega)]
          have g4' : decide ((M : Int) > 1000000000) = decide (1000000000 < M) := by
            rw [decide_eq_decide]; omega
          rw [g4']
          by_cases g3 : 1000000000 < M <;> by_cases g4 : vt (M : Int) = (t.drop a).take (k + 1) <;> simp [g3, g4]
      by_cases g1 : 127 < b.toNat
      · rw [if_pos g1] at hst
        have ih := spec_rv_loop ht ha f (k + 1) (acc + (b.toNat % 128) * 128 ^ k) (by omega) (by rw [Nat.pow_succ]; omega)
        rw [show a + (k + 1) = a + k + 1 by omega] at ih
        rw [iter_next hst, ih, hd]
        simp only [dig, if_neg (show ¬ b.toNat < 128 by omega)]
        cases hdg : dig f (t.drop (a + k + 1)) with
        | none => rfl
        | some x =>
          have ev : acc + b.toNat % 128 * 128 ^ k + x.1 * 128 ^ (k + 1) = acc + (b.toNat - 128 + 128 * x.1) * 128 ^ k := by
            rw [show b.toNat % 128 = b.toNat - 128 by omega, Nat.pow_succ, Nat.add_mul]
            rw [show 128 * x.1 * 128 ^ k = x.1 * (128 ^ k * 128) by rw [Nat.mul_comm 128, Nat.mul_assoc, Nat.mul_comm 128]]
            omega
          have e4 : a + k + 1 + x.2 = a + k + (x.2 + 1) := by omega
          have e5 : k + 1 + x.2 = k + (x.2 + 1) := by omega
          simp only [ev, e4, e5]
      · rw [if_neg g1] at hst
        rw [hd]
        simp only [dig, if_pos (show b.toNat < 128 by omega)]
        have em : b.toNat % 128 = b.toNat := by omega
        rw [em] at hst
        by_cases g2 : 1000000000 < acc + b.toNat * 128 ^ k ∨ vt ((acc + b.toNat * 128 ^ k : Nat) : Int) ≠ (t.drop a).take (k + 1)
        · rw [if_pos g2] at hst
          rw [iter_done hst, if_pos g2]; rfl
        · rw [if_neg g2] at hst
          rw [iter_done hst, if_neg g2]; rfl
    · rw [iter_done (r := .inr ()) (by unfold S_spec_ReadVar_1; rw [show decide (((a + k : Nat) : Int) < (t.length : Int)) = false from by simp; omega]; simp)]
      rw [List.drop_eq_nil_of_le (by omega)]
      simp [dig]
theorem rv_over {t : List UInt8} {a : Nat} (h : t.length < a) : rv t a = none := by
  unfold rv
  rw [List.drop_eq_nil_of_le (by omega)]
  simp [dig]
theorem spec_rv {t : List UInt8} (ht : t.length ≤ 4611686018427387904) (a : Nat) : F_spec_ReadVar t (a : Int) = some (rvR (rv t a)) := by
  unfold F_spec_ReadVar
  rw [spec_in, Option.bind_some]
  by_cases ha : a ≤ t.length
  · rw [if_pos (by unfold inR; simp; omega)]
    have := spec_rv_loop ht ha 5 0 0 (by omega) (by simp)
    simp only [Nat.pow_zero, Nat.mul_one, Nat.zero_add, Nat.add_zero] at this
    rw [show ((0 : Nat) : Int) = 0 from rfl, show ((1 : Nat) : Int) = 1 from rfl] at this
    rw [this]
    unfold rv rvR
    cases hd : dig 5 (t.drop a) with
    | none => rfl
    | some x =>
      simp only []
      by_cases g1 : 1000000000 < x.1
      · rw [if_pos (.inl g1), if_neg (by omega)]
      · by_cases g2 : vt (x.1 : Int) = (t.drop a).take x.2
        · rw [if_neg (by rintro (g | g); exact g1 g; exact g g2), if_pos ⟨by omega, g2⟩]
        · rw [if_pos (.inr g2), if_neg (fun g => g2 g.2)]
  · rw [if_neg (by unfold inR; simp; omega), rv_over (by omega)]; rfl
theorem impl_rv {t : List UInt8} (ht : t.length ≤ 4611686018427387904) (a : Nat) : F_impl_ReadVar t (a : Int) = some (rvR (rv t a)) := by
  unfold F_impl_ReadVar
  rw [impl_in, Option.bind_some]
  by_cases ha : a ≤ t.length
  · rw [if_pos (by unfold inR; simp; omega)]
    have := impl_rv_loop ht ha 5 0 0 (by omega) (by simp)
    simp only [Nat.pow_zero, Nat.mul_one, Nat.zero_add, Nat.add_zero] at this
    rw [show ((0 : Nat) : Int) = 0 from rfl] at this
    rw [this]
    unfold rv rvR
    cases hd : dig 5 (t.drop a) with
    | none => rfl
    | some x =>
      have hc := dig_canon hd
      rw [← vt_nat] at hc
      simp only []
      by_cases g1 : 1000000000 < x.1
      · rw [if_pos (.inl g1), if_neg (by omega)]
      · by_cases g2 : vt (x.1 : Int) = (t.drop a).take x.2
        · have := hc.1 g2
          rw [if_neg (by rintro (g | g); exact g1 g; exact this ⟨g.2, g.1⟩), if_pos ⟨by omega, g2⟩]
        · rw [if_pos, if_neg (fun g => g2 g.2)]
          refine .inr ?_
          have : ¬ ¬ (1 < x.2 ∧ (t.drop a)[x.2 - 1]? = some 0) := fun h => g2 (hc.2 h)
          have := Classical.not_not.1 this
          exact ⟨this.2, this.1⟩
  · rw [if_neg (by unfold inR; simp; omega), rv_over (by omega)]; rfl
end Go.Proofs.Ytgdcbjoaoagbpaa.V
/- Checks that are read. -/
namespace Go.Proofs.Ytgdcbjoaoagbpaa.V
open Go Go.RowKit
set_option maxRecDepth 100000

/-! ### words with their length ahead, and seals -/
def rsR (o : Option (List UInt8 × Nat)) : List UInt8 × Int × Bool := match o with
  | some x => (x.1, (x.2 : Int), true)
  | none => ([], 0, false)
theorem sub?_mid {α : Type} {l : List α} {i n : Nat} (h : i + n ≤ l.length) : sub? l (i : Int) ((i + n : Nat) : Int) = some ((l.drop i).take n) := by
  unfold sub?
  rw [if_pos (by omega)]
  have e1 : ((i + n : Nat) : Int).toNat = i + n := by omega
  have e2 : (i : Int).toNat = i := by omega
  rw [e1, e2, List.drop_take]
  congr 2
  omega
theorem rs_some {t : List UInt8} (ht : t.length ≤ 8388608) {n p : Nat} (h2 : p ≤ t.length) (h3 : n ≤ 1000000000) : ((if !true then some true else (if decide ((n : Int) > 20000) then some true else (if decide ((n : Int) > (w64 ((t.length : Int) - (p : Int)))) then some true else some false))) : Option Bool).bind (fun y2 => (if y2 then some (([] : List UInt8), (0 : Int), false) else (sub? t (p : Int) (w64 ((p : Int) + (n : Int)))).bind fun v3 => some (v3, w64 ((p : Int) + (n : Int)), true))) = some (rsR (if n ≤ 20000 ∧ p + n ≤ t.length then some ((t.drop p).take n, p + n) else none)) := by
  have e1 : w64 ((t.length : Int) - (p : Int)) = (t.length : Int) - p := w64_id (by omega) (by omega)
  have e2 : w64 ((p : Int) + (n : Int)) = ((p + n : Nat) : Int) := by rw [w64_id (by omega) (by omega)]; omega
  rw [e1, e2]
  by_cases g1 : 20000 < n
  · rw [if_neg (by simp), if_pos (by simp <;> omega), if_neg (by omega)]; rfl
  · rw [if_neg (by simp), if_neg (by simp <;> omega)]
    by_cases g2 : p + n ≤ t.length
    · rw [if_neg (by simp <;> omega), if_pos ⟨by omega, g2⟩, Option.bind_some, if_neg (by simp), sub?_mid g2]; rfl
    · rw [if_pos (by simp <;> omega), if_neg (by omega)]; rfl
theorem sub?_tail {α : Type} {l : List α} {i : Nat} (h : i ≤ l.length) : sub? l (i : Int) (l.length : Int) = some (l.drop i) := by
  unfold sub?
  rw [if_pos (by omega)]
  simp
end Go.Proofs.Ytgdcbjoaoagbpaa.V
/- A check is read as it was told. -/
namespace Go.Proofs.Ytgdcbjoaoagbpaa.V
open Go Go.RowKit
set_option maxRecDepth 100000


theorem rv_at {A B : List UInt8} {z : Int} (h : 0 ≤ z ∧ z ≤ 1000000000) : rvR (rv (A ++ (vt z ++ B)) A.length) = (z, ((A ++ vt z).length : Int), true) := by
  obtain ⟨n, rfl⟩ : ∃ n : Nat, z = n := ⟨z.toNat, by omega⟩
  rw [rv_vt (n := n) (r := B) (by rw [List.drop_left]) (by omega)]
  simp [rvR]

/-! ### the program's reading -/
end Go.Proofs.Ytgdcbjoaoagbpaa.V
/- The document's reading of a check, and the law. -/
namespace Go.Proofs.Ytgdcbjoaoagbpaa.V
open Go Go.RowKit
set_option maxRecDepth 100000

theorem spec_cur {s : List UInt8} (hs : s.length ≤ 8388608) (a : Nat) (bad : Bool) : F_spec_l06Var_w { mText := s, mAt := (a : Int), mBad := bad } = some (if bad then (0, { mText := s, mAt := (a : Int), mBad := true }) else match rv s a with | some x => ((x.1 : Int), { mText := s, mAt := (x.2 : Int), mBad := false }) | none => (0, { mText := s, mAt := (a : Int), mBad := true })) := by
  unfold F_spec_l06Var_w
  dsimp only
  rw [spec_rv (t := s) (by omega) a, Option.bind_some]
  cases bad with
  | true => rfl
  | false =>
    cases rv s a with
    | none => rfl
    | some x => rfl
theorem spec_curA {s : List UInt8} (hs : s.length ≤ 8388608) (a : Nat) (bad : Bool) : ∃ (n : Int) (b : Nat) (bad' : Bool), F_spec_l06Var_w { mText := s, mAt := (a : Int), mBad := bad } = some (n, { mText := s, mAt := (b : Int), mBad := bad' }) := by
  rw [spec_cur hs]
  cases bad with
  | true => exact ⟨0, a, true, rfl⟩
  | false =>
    cases rv s a with
    | none => exact ⟨0, a, true, rfl⟩
    | some x => exact ⟨x.1, x.2, false, rfl⟩
theorem spec_curB {A B : List UInt8} {z : Int} (hs : (A ++ (vt z ++ B)).length ≤ 8388608) (h : 0 ≤ z ∧ z ≤ 1000000000) : F_spec_l06Var_w { mText := A ++ (vt z ++ B), mAt := (A.length : Int), mBad := false } = some (z, { mText := A ++ (vt z ++ B), mAt := ((A ++ vt z).length : Int), mBad := false }) := by
  obtain ⟨n, rfl⟩ : ∃ n : Nat, z = n := ⟨z.toNat, by omega⟩
  rw [spec_cur hs, rv_vt (n := n) (r := B) (by rw [List.drop_left]) (by omega)]
  simp
end Go.Proofs.Ytgdcbjoaoagbpaa.V
/- Marks of disks and logs. -/
namespace Go.Proofs.Ytgdcbjoaoagbpaa.V
open Go Go.RowKit
set_option maxRecDepth 100000

theorem mark_disk {s : List (List UInt8)} {c : List TWrite} {m0 : Nat} (hs : s.length ≤ 1048576) (hc : c.length ≤ 1048576) (hm : m0 ≤ 1000000000000) :
    guardO (fun r : Int × List (List UInt8) × List TWrite => s.length = r.2.1.length ∧ c.length = r.2.2.length) (F_laws_markDisk_w s c (m0 : Int)) = some (((m0 + 1 * s.length + 2 * c.length : Nat) : Int), (s.mapIdx fun i x => mk_laws_markStringS_w (m0 + 1 * i) x), (c.mapIdx fun i x => mk_laws_markWriteS_w (m0 + 1 * s.length + 2 * i) x)) := by
  have m1 : guardO (fun r : Int × List (List UInt8) => s.length = r.2.length) (F_laws_markStringS_w s (m0 : Int)) = some _ := guardO_of (p_laws_markStringS_w hs (by omega)) (by simp)
  have m2 : guardO (fun r : Int × List TWrite => c.length = r.2.length) (F_laws_markWriteS_w c ((m0 + 1 * s.length : Nat) : Int)) = some _ := guardO_of (p_laws_markWriteS_w hc (by omega)) (by simp)
  refine guardO_of ?_ (by simp)
  unfold F_laws_markDisk_w
  rw [m1, Option.bind_some, m2]; rfl
end Go.Proofs.Ytgdcbjoaoagbpaa.V
/- Sectors read. -/
namespace Go.Proofs.Ytgdcbjoaoagbpaa.V
open Go Go.RowKit
set_option maxRecDepth 100000

def hit (a : Int) (l : List TWrite) : Option TWrite := l.foldl (fun o w => if w.At == a then some w else o) none
theorem hit_append (a : Int) (l : List TWrite) (w : TWrite) : hit a (l ++ [w]) = if w.At == a then some w else hit a l := by
  unfold hit
  rw [List.foldl_append]; rfl
theorem hit_mem {a : Int} {l : List TWrite} {w : TWrite} (h : hit a l = some w) : w ∈ l := by
  have key : ∀ (l : List TWrite) (o : Option TWrite), l.foldl (fun o w => if w.At == a then some w else o) o = some w → w ∈ l ∨ o = some w := by
    intro l
    induction l with
    | nil => intro o h; exact .inr h
    | cons x l ih =>
      intro o h
      rcases ih _ h with h1 | h1
      · exact .inl (List.mem_cons_of_mem _ h1)
      · dsimp only at h1
        split at h1
        · cases h1; exact .inl List.mem_cons_self
        · exact .inr h1
  rcases key l none h with h1 | h1
  · exact h1
  · cases h1
def secV (o : Option TWrite) (z : List UInt8) : List UInt8 := match o with | some w => w.Text | none => z
def rsec (d : TDisk) (a : Nat) : List UInt8 := secV (hit (a : Int) d.Cache) ((d.Sectors[a]?).getD [])
structure DkS (d : TDisk) : Prop where
  sec : d.Sectors.length ≤ 1048576 ∧ ∀ y ∈ d.Sectors, y.length ≤ 1048576
  cache : d.Cache.length ≤ 1048576 ∧ ∀ y ∈ d.Cache, y.Text.length ≤ 1048576
theorem DkS.of {d : TDisk} (h : Sz_TDisk d) : DkS d := ⟨h.sSectors, h.sCache.1, fun y hy => (h.sCache.2 y hy).sText⟩
theorem rsec_len {d : TDisk} (h : DkS d) (a : Nat) : (rsec d a).length ≤ 1048576 := by
  unfold rsec secV
  split
  · rename_i w hw; exact h.cache.2 w (hit_mem hw)
  · by_cases ha : a < d.Sectors.length
    · rw [List.getElem?_eq_getElem ha]; exact h.sec.2 _ (List.getElem_mem ha)
    · rw [List.getElem?_eq_none (by omega)]; simp
def readS (d : TDisk) (x : Int) : List UInt8 × Bool := if inR x 0 ((d.Sectors.length : Int) - 1) then (rsec d x.toNat, true) else ([], false)
theorem spec_readSector {d : TDisk} (h : DkS d) (x : Int) : F_spec_ReadSector d x = some (readS d x) := by
  have hs := h.sec.1
  have hc := h.cache.1
  unfold F_spec_ReadSector readS
  rw [w64_id (n := (d.Sectors.length : Int) - 1) (by omega) (by omega), spec_in, Option.bind_some]
  cases hr : inR x 0 ((d.Sectors.length : Int) - 1) with
  | false => rfl
  | true =>
    unfold inR at hr
    simp only [Bool.and_eq_true, decide_eq_true_eq] at hr
    obtain ⟨a, rfl⟩ : ∃ a : Nat, x = a := ⟨x.toNat, by omega⟩
    have ha : a < d.Sectors.length := by omega
    have key : ∀ n : Nat, n ≤ d.Cache.length → iter (S_spec_ReadSector_1 d (a : Int)) ((n : Int) - 1) = some (match hit (a : Int) (d.Cache.take n) with | some w => .inl (w.Text, true) | none => .inr ()) := by
      intro n
      induction n with
      | zero =>
        intro _
        refine iter_done ?_
        unfold S_spec_ReadSector_1
        simp [hit]
      | succ n ih =>
        intro hn
        have hn' : n < d.Cache.length := by omega
        have e0 : (((n + 1 : Nat) : Int) - 1) = (n : Int) := by omega
        rw [e0, List.take_succ_eq_append_getElem hn', hit_append]
        by_cases c : d.Cache[n].At = (a : Int)
        · refine iter_done ?_
          unfold S_spec_ReadSector_1
          rw [if_pos (by simp), at?_nat hn', Option.bind_some, if_pos (by simpa using c), if_pos (by simpa using c)]
          rfl
        · rw [iter_next (s' := ((n : Int) - 1)), ih (by omega), if_neg (by simpa using c)]
          unfold S_spec_ReadSector_1
          rw [if_pos (by simp), at?_nat hn', Option.bind_some, if_neg (by simpa using c), w64_id (by omega) (by omega)]
    rw [if_pos rfl, w64_id (n := (d.Cache.length : Int) - 1) (by omega) (by omega), key _ (Nat.le_refl _), List.take_length, Int.toNat_natCast]
    unfold rsec secV
    cases hit (a : Int) d.Cache with
    | some w => rfl
    | none => simp [at?_nat ha, ha]
theorem impl_readSector {d : TDisk} (h : DkS d) (x : Int) : F_impl_ReadSector d x = some (readS d x) := by
  have hs := h.sec.1
  have hc := h.cache.1
  unfold F_impl_ReadSector readS
  rw [w64_id (n := (d.Sectors.length : Int) - 1) (by omega) (by omega), impl_in, Option.bind_some]
  cases hr : inR x 0 ((d.Sectors.length : Int) - 1) with
  | false => rfl
  | true =>
    unfold inR at hr
    simp only [Bool.and_eq_true, decide_eq_true_eq] at hr
    obtain ⟨a, rfl⟩ : ∃ a : Nat, x = a := ⟨x.toNat, by omega⟩
    have ha : a < d.Sectors.length := by omega
    have key := iter_range (step := S_impl_ReadSector_1 d (a : Int)) (fun i => (secV (hit (a : Int) (d.Cache.take i)) d.Sectors[a], (i : Int))) d.Cache.length (r := secV (hit (a : Int) d.Cache) d.Sectors[a]) ?_ ?_
    · rw [if_pos rfl, at?_nat ha, Option.bind_some]
      rw [show ((secV (hit (a : Int) (d.Cache.take 0)) d.Sectors[a], ((0 : Nat) : Int)) : List UInt8 × Int) = (d.Sectors[a], 0) from rfl] at key
      rw [key, Option.bind_some, if_pos rfl, Int.toNat_natCast]
      unfold rsec
      rw [List.getElem?_eq_getElem ha]; rfl
    · intro i hi
      rw [List.take_succ_eq_append_getElem hi, hit_append]
      unfold S_impl_ReadSector_1
      rw [if_pos (dlt hi), at?_nat hi, Option.bind_some]
      by_cases c : d.Cache[i].At = (a : Int)
      · rw [if_pos (by simpa using c), if_pos (by simpa using c), w64_succ (by omega)]; rfl
      · rw [if_neg (by simpa using c), if_neg (by simpa using c), w64_succ (by omega)]
    · unfold S_impl_ReadSector_1
      rw [List.take_length]; simp
def secT (d : TDisk) (f : Nat) : Nat → List UInt8
  | 0 => []
  | i + 1 => secT d f i ++ rsec d (f + i)
theorem secT_len {d : TDisk} (h : DkS d) (f : Nat) : ∀ n, (secT d f n).length ≤ 1048576 * n
  | 0 => by simp [secT]
  | n + 1 => by
    have h1 := secT_len h f n
    have h2 := rsec_len h (f + n)
    rw [secT, List.length_append]; omega
def sectorT (d : TDisk) (f n : Nat) : List UInt8 × Bool := if f + n ≤ d.Sectors.length then (secT d f n, true) else ([], false)
theorem readS_in {d : TDisk} {a : Nat} (h : a < d.Sectors.length) : readS d (a : Int) = (rsec d a, true) := by
  unfold readS
  rw [if_pos (by unfold inR; simp; omega)]; rfl
theorem readS_out {d : TDisk} {a : Nat} (h : d.Sectors.length ≤ a) : readS d (a : Int) = ([], false) := by
  unfold readS
  rw [if_neg (by unfold inR; simp; omega)]
theorem sector_loop {d : TDisk} (h : DkS d) {f n : Nat} (h0 : 0 < n) {step : List UInt8 × Int → Option ((List UInt8 × Int) ⊕ ((List UInt8 × Bool) ⊕ List UInt8))}
    (h1 : ∀ (i : Nat) (o : List UInt8), i < n → f + i < d.Sectors.length → o.length ≤ 1048576 * i → step (o, (i : Int)) = some (.inl (o ++ rsec d (f + i), ((i + 1 : Nat) : Int))))
    (h2 : ∀ (i : Nat) (o : List UInt8), i < n → d.Sectors.length ≤ f + i → step (o, (i : Int)) = some (.inr (.inl ([], false))))
    (h3 : ∀ o, step (o, (n : Int)) = some (.inr (.inr o))) : (iter step ([], 0)).bind (Sum.elim (fun r => some r) (fun y => some (y, true))) = some (sectorT d f n) := by
  unfold sectorT
  by_cases c : f + n ≤ d.Sectors.length
  · have := iter_range (step := step) (fun i => (secT d f i, (i : Int))) n (r := .inr (secT d f n)) ?_ (h3 _)
    · rw [show ((secT d f 0, ((0 : Nat) : Int)) : List UInt8 × Int) = ([], 0) from rfl] at this
      rw [this, if_pos c]; rfl
    · intro i hi
      rw [h1 i _ hi (by omega) (secT_len h f i)]; rfl
  · have := iter_range (step := step) (fun i => (secT d f i, (i : Int))) (d.Sectors.length - f) (r := .inl ([], false)) ?_ (h2 _ _ (by omega) (by omega))
    · rw [show ((secT d f 0, ((0 : Nat) : Int)) : List UInt8 × Int) = ([], 0) from rfl] at this
      rw [this, if_neg c]; rfl
    · intro i hi
      rw [h1 i _ (by omega) (by omega) (secT_len h f i)]; rfl
theorem spec_sectorText {d : TDisk} (h : DkS d) {f n : Nat} (hf : f ≤ 1000) (h0 : 0 < n) (hn : n ≤ 100) : F_spec_SectorText d (f : Int) (n : Int) = some (sectorT d f n) := by
  unfold F_spec_SectorText
  rw [spec_in, Option.bind_some, if_pos (by unfold inR; simp; omega)]
  have e : ∀ i : Nat, i < n → w64 ((f : Int) + (i : Int)) = ((f + i : Nat) : Int) := fun i hi => by rw [w64_id (by omega) (by omega)]; omega
  refine sector_loop h h0 ?_ ?_ ?_
  · intro i o hi hb ho
    have hr := rsec_len h (f + i)
    unfold S_spec_SectorText_1
    rw [if_pos (by simpa using hi), if_neg (by simp), if_neg (by simp; omega), Option.bind_some, if_neg (by simp), e i hi, spec_readSector h, Option.bind_some, readS_in hb]
    dsimp only
    rw [if_neg (by simp), cat?_ok (by omega), Option.bind_some, w64_succ (by omega)]
  · intro i o hi hb
    unfold S_spec_SectorText_1
    rw [if_pos (by simpa using hi), if_neg (by simp)]
    by_cases c : (f : Int) > (d.Sectors.length : Int)
    · rw [if_pos (by simpa using c), Option.bind_some, if_pos rfl]
    · rw [if_neg (by simpa using c), Option.bind_some, if_neg (by simp), e i hi, spec_readSector h, Option.bind_some, readS_out hb]
      rfl
  · intro o
    unfold S_spec_SectorText_1
    simp
theorem impl_sectorText {d : TDisk} (h : DkS d) {f n : Nat} (hf : f ≤ 1000) (h0 : 0 < n) (hn : n ≤ 100) : F_impl_SectorText d (f : Int) (n : Int) = some (sectorT d f n) := by
  unfold F_impl_SectorText
  rw [impl_in, Option.bind_some, if_pos (by unfold inR; simp; omega)]
  have e : ∀ i : Nat, i < n → w64 ((f : Int) + (i : Int)) = ((f + i : Nat) : Int) := fun i hi => by rw [w64_id (by omega) (by omega)]; omega
  refine sector_loop h h0 ?_ ?_ ?_
  · intro i o hi hb ho
    have hr := rsec_len h (f + i)
    unfold S_impl_SectorText_1
    rw [if_pos (by simpa using hi), e i hi, impl_readSector h, Option.bind_some, readS_in hb]
    dsimp only
    rw [if_neg (by simp), cat?_ok (by omega), Option.bind_some, w64_succ (by omega)]
  · intro i o hi hb
    unfold S_impl_SectorText_1
    rw [if_pos (by simpa using hi), e i hi, impl_readSector h, Option.bind_some, readS_out hb]
    rfl
  · intro o
    unfold S_impl_SectorText_1
    simp
end Go.Proofs.Ytgdcbjoaoagbpaa.V
/- Frames that are read. -/
namespace Go.Proofs.Ytgdcbjoaoagbpaa.V
open Go Go.RowKit
set_option maxRecDepth 100000

def rsA (t : List UInt8) (a : Nat) : Option (List UInt8 × Nat) := match rv t a with
  | some x => if x.1 ≤ 20000 ∧ x.2 + x.1 ≤ t.length then some ((t.drop x.2).take x.1, x.2 + x.1) else none
  | none => none
theorem rsA_gen {t : List UInt8} (ht : t.length ≤ 8388608) (a : Nat) : ((if !(rvR (rv t a)).2.2 then some true else (if decide ((rvR (rv t a)).1 > 20000) then some true else (if decide ((rvR (rv t a)).1 > (w64 ((t.length : Int) - (rvR (rv t a)).2.1))) then some true else some false))) : Option Bool).bind (fun y2 => (if y2 then some (([] : List UInt8), (0 : Int), false) else (sub? t (rvR (rv t a)).2.1 (w64 ((rvR (rv t a)).2.1 + (rvR (rv t a)).1))).bind fun v3 => some (v3, w64 ((rvR (rv t a)).2.1 + (rvR (rv t a)).1), true))) = some (rsR (rsA t a)) := by
  unfold rsA
  cases h : rv t a with
  | none => rfl
  | some x =>
    obtain ⟨h1, h2, h3⟩ := rv_bnd h
    exact rs_some ht h2 h3
theorem spec_rsA {t : List UInt8} (ht : t.length ≤ 8388608) (a : Nat) : F_spec_ReadShort t (a : Int) = some (rsR (rsA t a)) := by
  unfold F_spec_ReadShort
  rw [spec_rv (by omega) a, Option.bind_some]
  exact rsA_gen ht a
theorem impl_rsA {t : List UInt8} (ht : t.length ≤ 8388608) (a : Nat) : F_impl_ReadShort t (a : Int) = some (rsR (rsA t a)) := by
  unfold F_impl_ReadShort
  rw [impl_rv (by omega) a, Option.bind_some]
  exact rsA_gen ht a
theorem rsA_bnd {t : List UInt8} {a : Nat} {x : List UInt8 × Nat} (h : rsA t a = some x) : a < x.2 ∧ x.2 ≤ t.length ∧ x.1.length ≤ 20000 := by
  unfold rsA at h
  split at h
  · rename_i y hy
    obtain ⟨h1, h2, h3⟩ := rv_bnd hy
    split at h
    · rename_i hc
      cases h
      refine ⟨by simp only; omega, hc.2, ?_⟩
      simp only [List.length_take]
      omega
    · cases h
  · cases h
theorem rv_drop {t : List UInt8} {a : Nat} {x : Nat × Nat} (h : rv t a = some x) : t.drop a = vt (x.1 : Int) ++ t.drop x.2 := by
  unfold rv at h
  split at h
  · rename_i y hy
    split at h
    · rename_i hc
      cases h
      dsimp only
      rw [hc.2, ← List.drop_drop, List.take_append_drop]
    · cases h
  · cases h
theorem rsA_drop {t : List UInt8} {a : Nat} {x : List UInt8 × Nat} (h : rsA t a = some x) : t.drop a = short x.1 ++ t.drop x.2 := by
  unfold rsA at h
  split at h
  · rename_i y hy
    obtain ⟨h1, h2, h3⟩ := rv_bnd hy
    split at h
    · rename_i hc
      cases h
      have hl : ((t.drop y.2).take y.1).length = y.1 := by simp only [List.length_take, List.length_drop]; omega
      rw [rv_drop hy]
      unfold short
      dsimp only
      rw [hl, List.append_assoc, ← List.drop_drop, List.take_append_drop]
    · cases h
  · cases h
theorem rsA_at {A B s : List UInt8} (h : s.length ≤ 20000) : rsA (A ++ (short s ++ B)) A.length = some (s, (A ++ short s).length) := by
  have hs : short s = vt (s.length : Int) ++ s := rfl
  unfold rsA
  rw [rv_vt (n := s.length) (r := s ++ B) (by rw [List.drop_left, hs, List.append_assoc]) (by omega)]
  dsimp only
  have e1 : (A ++ (short s ++ B)).drop (A.length + (vt (s.length : Int)).length) = s ++ B := by
    rw [← List.drop_drop, List.drop_left, hs, List.append_assoc, List.drop_left]
  rw [if_pos ⟨h, by simp [hs]; omega⟩, e1, List.take_left]
  simp [hs, Nat.add_assoc]

/-! ### frames -/
def frameOut (f : TFrame) : List UInt8 := frameT f ++ sealL (frameT f)
def rfC (t : List UInt8) (a : Nat) (f : TFrame) (n : Nat) : Option (TFrame × Nat) := if frameOk f = true ∧ n + 4 ≤ t.length ∧ (t.take (n + 4)).drop a = frameOut f then some (f, n + 4) else none
theorem rfC_pos {t : List UInt8} {a : Nat} {f : TFrame} {n : Nat} (h1 : frameOk f = true) (h2 : n + 4 ≤ t.length) (h3 : (t.take (n + 4)).drop a = frameOut f) : rfC t a f n = some (f, n + 4) := if_pos ⟨h1, h2, h3⟩
theorem rfC_neg {t : List UInt8} {a : Nat} {f : TFrame} {n : Nat} (h : ¬ (frameOk f = true ∧ n + 4 ≤ t.length ∧ (t.take (n + 4)).drop a = frameOut f)) : rfC t a f n = none := if_neg h
theorem sub?_td {t : List UInt8} {a n : Nat} (h1 : a ≤ n) (h2 : n ≤ t.length) : sub? t (a : Int) (n : Int) = some ((t.take n).drop a) := by
  unfold sub?
  rw [if_pos (by omega), Int.toNat_natCast, Int.toNat_natCast]
def rf (t : List UInt8) (a : Nat) : Option (TFrame × Nat) := match rv t a with
  | none => none
  | some g => match rv t g.2 with
    | none => none
    | some s => match rsA t s.2 with
      | none => none
      | some b => rfC t a { Gen := (g.1 : Int), Seq := (s.1 : Int), Body := b.1 } b.2
def rfR (o : Option (TFrame × Nat)) : TFrame × Int × Bool := match o with
  | some x => (x.1, (x.2 : Int), true)
  | none => (frame0, 0, false)
theorem rvR_none : rvR none = (0, 0, false) := rfl
theorem rvR_some (x : Nat × Nat) : rvR (some x) = ((x.1 : Int), (x.2 : Int), true) := rfl
theorem rsR_none : rsR none = ([], 0, false) := rfl
theorem rsR_some (x : List UInt8 × Nat) : rsR (some x) = (x.1, (x.2 : Int), true) := rfl
theorem spec_rf {t : List UInt8} (ht : t.length ≤ 8388608) (a : Nat) : F_spec_ReadFrame t (a : Int) = some (rfR (rf t a)) := by
  unfold F_spec_ReadFrame rf
  rw [spec_rv (by omega) a, Option.bind_some]
  cases h1 : rv t a with
  | none =>
    rw [rvR_none]
    dsimp only
    rw [show (0 : Int) = ((0 : Nat) : Int) from rfl, spec_rv (by omega) 0, Option.bind_some]
    have : ∃ n : Nat, (rvR (rv t 0)).2.1 = n := by cases rv t 0 <;> exact ⟨_, rfl⟩
    obtain ⟨n, hn⟩ := this
    rw [hn, spec_rsA ht, Option.bind_some]
    rfl
  | some g =>
    obtain ⟨b1, b2, b3⟩ := rv_bnd h1
    rw [rvR_some]
    dsimp only
    rw [spec_rv (by omega) g.2, Option.bind_some]
    cases h2 : rv t g.2 with
    | none =>
      rw [rvR_none]
      dsimp only
      rw [show (0 : Int) = ((0 : Nat) : Int) from rfl, spec_rsA ht, Option.bind_some]
      rfl
    | some s =>
      obtain ⟨c1, c2, c3⟩ := rv_bnd h2
      rw [rvR_some]
      dsimp only
      rw [spec_rsA ht, Option.bind_some]
      cases h3 : rsA t s.2 with
      | none => rfl
      | some b =>
        obtain ⟨d1, d2, d3⟩ := rsA_bnd h3
        rw [rsR_some]
        dsimp only
        have e1 : w64 ((t.length : Int) - 4) = (t.length : Int) - 4 := w64_id (by omega) (by omega)
        have e2 : w64 ((b.2 : Int) + 4) = ((b.2 + 4 : Nat) : Int) := by rw [w64_id (by omega) (by omega)]; omega
        rw [e1, e2, if_neg (by simp), if_neg (by simp), if_neg (by simp)]
        by_cases k1 : b.2 + 4 ≤ t.length
        · rw [if_neg (by simp; omega), if_neg (by simp), Option.bind_some, if_neg (by simp), spec_frameText, Option.bind_some]
          unfold frameText
          by_cases k2 : frameOk { Gen := (g.1 : Int), Seq := (s.1 : Int), Body := b.1 } = true
          · rw [if_pos k2, if_neg (by simp)]
            rw [sub?_td (by omega) k1, Option.bind_some]
            by_cases k3 : (t.take (b.2 + 4)).drop a = frameOut { Gen := (g.1 : Int), Seq := (s.1 : Int), Body := b.1 }
            · rw [rfC_pos k2 k1 k3, if_neg (by rw [k3]; simp [frameOut]), Option.bind_some, if_neg (by simp)]
              rfl
            · rw [rfC_neg (fun h => k3 h.2.2), if_pos (by simp only [Bool.not_eq_true', beq_eq_false_iff_ne, ne_eq]; exact fun h => k3 h.symm), Option.bind_some, if_pos rfl]
              rfl
          · rw [if_neg k2, rfC_neg (fun h => k2 h.1), if_pos (by simp), Option.bind_some, if_pos rfl]
            rfl
        · rw [if_pos (by simp; omega), Option.bind_some, if_pos rfl, rfC_neg (fun h => k1 h.2.1)]
          rfl
theorem impl_rf {t : List UInt8} (ht : t.length ≤ 8388608) (a : Nat) : F_impl_ReadFrame t (a : Int) = some (rfR (rf t a)) := by
  unfold F_impl_ReadFrame rf
  rw [impl_rv (by omega) a, Option.bind_some]
  cases h1 : rv t a with
  | none =>
    rw [rvR_none]
    dsimp only
    rw [show (0 : Int) = ((0 : Nat) : Int) from rfl, impl_rv (by omega) 0, Option.bind_some]
    have : ∃ n : Nat, (rvR (rv t 0)).2.1 = n := by cases rv t 0 <;> exact ⟨_, rfl⟩
    obtain ⟨n, hn⟩ := this
    rw [hn, impl_rsA ht, Option.bind_some]
    rfl
  | some g =>
    obtain ⟨b1, b2, b3⟩ := rv_bnd h1
    rw [rvR_some]
    dsimp only
    rw [impl_rv (by omega) g.2, Option.bind_some]
    cases h2 : rv t g.2 with
    | none =>
      rw [rvR_none]
      dsimp only
      rw [show (0 : Int) = ((0 : Nat) : Int) from rfl, impl_rsA ht, Option.bind_some]
      rfl
    | some s =>
      obtain ⟨c1, c2, c3⟩ := rv_bnd h2
      rw [rvR_some]
      dsimp only
      rw [impl_rsA ht, Option.bind_some]
      cases h3 : rsA t s.2 with
      | none => rfl
      | some b =>
        obtain ⟨d1, d2, d3⟩ := rsA_bnd h3
        rw [rsR_some]
        dsimp only
        have e1 : w64 ((t.length : Int) - (b.2 : Int)) = (t.length : Int) - b.2 := w64_id (by omega) (by omega)
        have e2 : w64 ((b.2 : Int) + 4) = ((b.2 + 4 : Nat) : Int) := by rw [w64_id (by omega) (by omega)]; omega
        rw [e1, e2, if_neg (by simp), if_neg (by simp), if_neg (by simp), impl_frameOk, Option.bind_some]
        by_cases k2 : frameOk { Gen := (g.1 : Int), Seq := (s.1 : Int), Body := b.1 } = true
        · rw [if_pos k2]
          by_cases k1 : b.2 + 4 ≤ t.length
          · rw [if_neg (by simp; omega), Option.bind_some, if_neg (by simp), impl_frameText, Option.bind_some]
            unfold frameText
            rw [if_pos k2, sub?_td (by omega) k1, Option.bind_some]
            by_cases k3 : (t.take (b.2 + 4)).drop a = frameOut { Gen := (g.1 : Int), Seq := (s.1 : Int), Body := b.1 }
            · rw [rfC_pos k2 k1 k3, if_neg (by rw [k3]; simp [frameOut])]
              rfl
            · rw [rfC_neg (fun h => k3 h.2.2), if_pos (by simp only [Bool.not_eq_true', beq_eq_false_iff_ne, ne_eq]; exact k3)]
              rfl
          · rw [if_pos (by simp; omega), Option.bind_some, if_pos rfl, rfC_neg (fun h => k1 h.2.1)]
            rfl
        · rw [if_neg k2, Option.bind_some, if_pos rfl, rfC_neg (fun h => k2 h.1)]
          rfl
theorem vt_pos (n : Int) : 1 ≤ (vt n).length := by
  unfold vt
  split
  · unfold vtl
    split <;> simp
  · simp
theorem rf_bnd {t : List UInt8} {a : Nat} {x : TFrame × Nat} (h : rf t a = some x) : a + 8 ≤ x.2 ∧ x.2 ≤ t.length ∧ frameOk x.1 = true := by
  unfold rf at h
  split at h
  · cases h
  rename_i g hg
  split at h
  · cases h
  rename_i s hs
  split at h
  · cases h
  rename_i b hb
  unfold rfC at h
  split at h
  · rename_i hc
    obtain ⟨h1, h2, h3⟩ := hc
    cases h
    refine ⟨?_, h2, h1⟩
    have hl := congrArg List.length h3
    rw [List.length_drop, List.length_take] at hl
    have hb2 := frameOk_rng h1
    have p1 := vt_pos (g.1 : Int)
    have p2 := vt_pos (s.1 : Int)
    have p3 := vt_pos ((b.1.length : Nat) : Int)
    unfold frameOut frameT at hl
    simp only [List.length_append, sealL_len] at hl
    dsimp only at hb2 ⊢
    omega
  · cases h
end Go.Proofs.Ytgdcbjoaoagbpaa.V
/- The frames of a segment. -/
namespace Go.Proofs.Ytgdcbjoaoagbpaa.V
open Go Go.RowKit
set_option maxRecDepth 100000

def scanN (t : List UInt8) (gen : Int) : Nat → Nat → List TFrame → List TFrame × Nat
  | 0, a, l => (l, a)
  | n + 1, a, l => match rf t a with
    | some x => if x.1.Gen = gen then scanN t gen n x.2 (l ++ [x.1]) else (l, a)
    | none => (l, a)
theorem rf_over {t : List UInt8} {a : Nat} (h : t.length < a) : rf t a = none := by
  unfold rf
  rw [rv_over h]
theorem scan_loop {t : List UInt8} (ht : t.length ≤ 8388608) {gen : Int} {step : Int × List TFrame → Option ((Int × List TFrame) ⊕ ((List TFrame × Int) ⊕ Empty))}
    (h1 : ∀ (a : Nat) (l : List TFrame), step ((a : Int), l) = match rf t a with
      | some x => if x.1.Gen = gen then (app? 32 l [x.1]).bind fun v => some (.inl ((x.2 : Int), v)) else some (.inr (.inl (l, (a : Int))))
      | none => some (.inr (.inl (l, (a : Int))))) :
    ∀ (n a : Nat) (l : List TFrame), t.length < a + n → 8 * l.length ≤ a → iter step ((a : Int), l) = some (.inl ((scanN t gen n a l).1, ((scanN t gen n a l).2 : Int)))
  | 0, a, l, hn, _ => by
    refine iter_done ?_
    rw [h1, rf_over (by omega)]; rfl
  | n + 1, a, l, hn, hl => by
    rw [scanN]
    cases hr : rf t a with
    | none =>
      refine iter_done ?_
      rw [h1, hr]
    | some x =>
      obtain ⟨b1, b2, b3⟩ := rf_bnd hr
      dsimp only
      by_cases hg : x.1.Gen = gen
      · rw [if_pos hg, iter_next (s' := ((x.2 : Int), l ++ [x.1]))]
        · exact scan_loop ht h1 n x.2 _ (by omega) (by simp; omega)
        · rw [h1, hr]
          dsimp only
          rw [if_pos hg, app?_ok (by simp; omega) (by simp; omega)]; rfl
      · rw [if_neg hg]
        refine iter_done ?_
        rw [h1, hr]
        dsimp only
        rw [if_neg hg]
theorem scanN_len {t : List UInt8} {gen : Int} : ∀ (n a : Nat) (l : List TFrame), 8 * l.length ≤ a → a ≤ t.length → 8 * (scanN t gen n a l).1.length ≤ t.length ∧ (scanN t gen n a l).2 ≤ t.length ∧ l.length ≤ (scanN t gen n a l).1.length
  | 0, a, l, h, h2 => by simp only [scanN]; omega
  | n + 1, a, l, h, h2 => by
    rw [scanN]
    cases hr : rf t a with
    | none => dsimp only; omega
    | some x =>
      obtain ⟨b1, b2, b3⟩ := rf_bnd hr
      dsimp only
      by_cases hg : x.1.Gen = gen
      · rw [if_pos hg]
        have := scanN_len (t := t) (gen := gen) n x.2 (l ++ [x.1]) (by simp; omega) b2
        simp at this
        omega
      · rw [if_neg hg]; dsimp only; omega
theorem scanN_ok {t : List UInt8} {gen : Int} : ∀ (n a : Nat) (l : List TFrame), (∀ f ∈ l, frameOk f = true) → ∀ f ∈ (scanN t gen n a l).1, frameOk f = true
  | 0, a, l, h => h
  | n + 1, a, l, h => by
    rw [scanN]
    cases hr : rf t a with
    | none => exact h
    | some x =>
      dsimp only
      by_cases hg : x.1.Gen = gen
      · rw [if_pos hg]
        refine scanN_ok n _ _ ?_
        intro f hf
        rcases List.mem_append.1 hf with hf | hf
        · exact h f hf
        · rw [List.mem_singleton] at hf; subst hf; exact (rf_bnd hr).2.2
      · rw [if_neg hg]; exact h
def scan (t : List UInt8) (gen : Int) : List TFrame × Nat := scanN t gen (t.length + 1) 0 []
theorem spec_scan {t : List UInt8} (ht : t.length ≤ 8388608) (gen : Int) : F_spec_ScanFrames t gen = some ((scan t gen).1, ((scan t gen).2 : Int)) := by
  unfold F_spec_ScanFrames
  have := scan_loop (t := t) ht (gen := gen) (step := S_spec_ScanFrames_1 t gen) ?_ (t.length + 1) 0 [] (by omega) (by simp)
  · rw [show ((0 : Nat) : Int) = 0 from rfl] at this
    rw [this]; rfl
  · intro a l
    unfold S_spec_ScanFrames_1
    rw [spec_rf ht, Option.bind_some]
    cases rf t a with
    | none => rfl
    | some x =>
      simp only [rfR]
      by_cases hg : x.1.Gen = gen
      · rw [if_pos hg]
        simp [hg]
      · rw [if_neg hg]
        simp [hg]
theorem impl_scan {t : List UInt8} (ht : t.length ≤ 8388608) (gen : Int) : F_impl_ScanFrames t gen = some ((scan t gen).1, ((scan t gen).2 : Int)) := by
  unfold F_impl_ScanFrames
  have := scan_loop (t := t) ht (gen := gen) (step := S_impl_ScanFrames_1 t gen) ?_ (t.length + 1) 0 [] (by omega) (by simp)
  · rw [show ((0 : Nat) : Int) = 0 from rfl] at this
    rw [this]; rfl
  · intro a l
    unfold S_impl_ScanFrames_1
    rw [impl_rf ht, Option.bind_some]
    cases rf t a with
    | none => rfl
    | some x =>
      simp only [rfR]
      by_cases hg : x.1.Gen = gen
      · rw [if_pos hg]
        simp [hg]
      · rw [if_neg hg]
        simp [hg]

/-! ### segments -/
def segT (d : TDisk) (no : Int) : List UInt8 := if inR no 0 10 then (sectorT d (8 + 8 * no.toNat) 8).1 else []
theorem segT_len {d : TDisk} (h : DkS d) (no : Int) : (segT d no).length ≤ 8388608 := by
  unfold segT
  split
  · unfold sectorT
    split
    · have := secT_len h (8 + 8 * no.toNat) 8; dsimp only; omega
    · simp
  · simp
theorem inR_nat {no : Int} {k : Nat} (h : inR no 0 k = true) : ∃ n : Nat, no = n ∧ n ≤ k := by
  unfold inR at h
  simp only [Bool.and_eq_true, decide_eq_true_eq] at h
  exact ⟨no.toNat, by omega, by omega⟩
theorem spec_segT {d : TDisk} (h : DkS d) (no : Int) : F_spec_SegText d no = some (segT d no) := by
  unfold F_spec_SegText F_spec_SegFirst segT
  rw [spec_in, Option.bind_some]
  cases hr : inR no 0 10 with
  | false => rfl
  | true =>
    obtain ⟨n, rfl, hn⟩ := inR_nat (k := 10) hr
    have e1 : w64 ((n : Int) * 8) = (n : Int) * 8 := w64_id (by omega) (by omega)
    have e2 : w64 (8 + (n : Int) * 8) = ((8 + 8 * n : Nat) : Int) := by rw [w64_id (by omega) (by omega)]; omega
    rw [if_pos rfl, Option.bind_some, if_pos rfl, e1, e2, Option.bind_some]
    have := spec_sectorText h (f := 8 + 8 * n) (n := 8) (by omega) (by omega) (by omega)
    rw [show ((8 : Nat) : Int) = 8 from rfl] at this
    rw [this, Option.bind_some, if_pos rfl, Int.toNat_natCast]
theorem impl_segT {d : TDisk} (h : DkS d) (no : Int) : F_impl_SegText d no = some (segT d no) := by
  unfold F_impl_SegText F_impl_SegFirst segT
  rw [impl_in, Option.bind_some]
  cases hr : inR no 0 10 with
  | false => rfl
  | true =>
    obtain ⟨n, rfl, hn⟩ := inR_nat (k := 10) hr
    have e1 : w64 ((n : Int) * 8) = (n : Int) * 8 := w64_id (by omega) (by omega)
    have e2 : w64 (8 + (n : Int) * 8) = ((8 + 8 * n : Nat) : Int) := by rw [w64_id (by omega) (by omega)]; omega
    rw [if_pos rfl, Option.bind_some, if_pos rfl, e1, e2, Option.bind_some]
    have := impl_sectorText h (f := 8 + 8 * n) (n := 8) (by omega) (by omega) (by omega)
    rw [show ((8 : Nat) : Int) = 8 from rfl] at this
    rw [this, Option.bind_some, if_pos rfl, Int.toNat_natCast]
def segGen (t : List UInt8) : Int := match rf t 0 with
  | some x => if x.1.Body = [115, 101, 103] then x.1.Gen else 0
  | none => 0
theorem spec_segGen {d : TDisk} (h : DkS d) (no : Int) : F_spec_SegGen d no = some (segGen (segT d no)) := by
  unfold F_spec_SegGen segGen
  rw [spec_segT h, Option.bind_some]
  have := spec_rf (segT_len h no) 0
  rw [show ((0 : Nat) : Int) = 0 from rfl] at this
  rw [this, Option.bind_some]
  cases rf (segT d no) 0 with
  | none => rfl
  | some x =>
    simp only [rfR]
    by_cases hb : x.1.Body = [115, 101, 103]
    · rw [if_pos hb]; simp [hb]
    · rw [if_neg hb]; simp [hb]
theorem impl_segGen {d : TDisk} (h : DkS d) (no : Int) : F_impl_SegGen d no = some (segGen (segT d no)) := by
  unfold F_impl_SegGen segGen
  rw [impl_segT h, Option.bind_some]
  have := impl_rf (segT_len h no) 0
  rw [show ((0 : Nat) : Int) = 0 from rfl] at this
  rw [this, Option.bind_some]
  cases rf (segT d no) 0 with
  | none => simp [rfR, frame0]
  | some x =>
    simp only [rfR]
    by_cases hb : x.1.Body = [115, 101, 103]
    · rw [if_pos hb]; simp [hb]
    · rw [if_neg hb]; simp [hb]
def segFr (t : List UInt8) : List TFrame × Nat := if segGen t = 0 then ([], 0) else ((scan t (segGen t)).1.drop 1, (scan t (segGen t)).2)
theorem scan_first {t : List UInt8} (h : segGen t ≠ 0) : 1 ≤ (scan t (segGen t)).1.length := by
  have key : ∃ x, rf t 0 = some x ∧ x.1.Gen = segGen t := by
    unfold segGen at h ⊢
    cases hr : rf t 0 with
    | none => rw [hr] at h; exact absurd rfl h
    | some x =>
      rw [hr] at h
      dsimp only at h ⊢
      by_cases hb : x.1.Body = [115, 101, 103]
      · exact ⟨x, rfl, by rw [if_pos hb]⟩
      · rw [if_neg hb] at h; exact absurd rfl h
  obtain ⟨x, hr, hg⟩ := key
  unfold scan
  rw [scanN, hr]
  dsimp only
  rw [if_pos hg]
  obtain ⟨b1, b2, _⟩ := rf_bnd hr
  have := (scanN_len (t := t) (gen := segGen t) t.length x.2 ([] ++ [x.1]) (by simp; omega) b2).2.2
  simpa using this
theorem segFr_len {t : List UInt8} : 8 * (segFr t).1.length ≤ t.length := by
  unfold segFr
  split
  · simp
  · have := (scanN_len (t := t) (gen := segGen t) (t.length + 1) 0 [] (by simp) (by omega)).1
    unfold scan
    simp only [List.length_drop]
    omega
theorem segFr_ok {t : List UInt8} : ∀ f ∈ (segFr t).1, frameOk f = true := by
  intro f hf
  unfold segFr at hf
  split at hf
  · cases hf
  · exact scanN_ok _ _ _ (by simp) f (List.mem_of_mem_drop hf)
theorem spec_segFr {d : TDisk} (h : DkS d) (no : Int) : F_spec_SegFrames d no = some ((segFr (segT d no)).1, ((segFr (segT d no)).2 : Int)) := by
  have hl := segT_len h no
  unfold F_spec_SegFrames segFr
  rw [spec_segGen h, Option.bind_some]
  by_cases hg : segGen (segT d no) = 0
  · rw [if_pos (by simpa using hg), if_pos hg]; rfl
  · have h1 := scan_first hg
    have h2 := (scanN_len (t := segT d no) (gen := segGen (segT d no)) ((segT d no).length + 1) 0 [] (by simp) (by omega)).1
    have h3 : 8 * (scan (segT d no) (segGen (segT d no))).1.length ≤ (segT d no).length := h2
    rw [if_neg (by simpa using hg), if_neg hg, spec_segT h, Option.bind_some, spec_scan hl, Option.bind_some]
    have e := sub?_tail (l := (scan (segT d no) (segGen (segT d no))).1) (i := 1) h1
    rw [show ((1 : Nat) : Int) = 1 from rfl] at e
    dsimp only
    rw [e, Option.bind_some, app?_ok (by simp; omega) (by simp; omega)]
    rfl
theorem impl_segFr {d : TDisk} (h : DkS d) (no : Int) : F_impl_SegFrames d no = some ((segFr (segT d no)).1, ((segFr (segT d no)).2 : Int)) := by
  have hl := segT_len h no
  unfold F_impl_SegFrames segFr
  rw [impl_segGen h, Option.bind_some]
  by_cases hg : segGen (segT d no) = 0
  · rw [if_pos (by simpa using hg), if_pos hg]; rfl
  · have h1 := scan_first hg
    rw [if_neg (by simpa using hg), if_neg hg, impl_segT h, Option.bind_some, impl_scan hl, Option.bind_some]
    have e := sub?_tail (l := (scan (segT d no) (segGen (segT d no))).1) (i := 1) h1
    rw [show ((1 : Nat) : Int) = 1 from rfl] at e
    dsimp only
    rw [e, Option.bind_some]
end Go.Proofs.Ytgdcbjoaoagbpaa.V
/- Records that are read. -/
namespace Go.Proofs.Ytgdcbjoaoagbpaa.V
open Go Go.RowKit
set_option maxRecDepth 100000

def rec0 : TRec := { Kind := 0, Valid := 0, Uid := 0, Next := 0, Flags := 0, User := [], Name := [], Text := [] }
def goodR (t : List UInt8) (r : TRec) : Prop := recOk r = true ∧ t = recT r
theorem goodR_sz {t : List UInt8} {r : TRec} (h : goodR t r) : Sz_TRec r := by
  obtain ⟨h1, h2, h3⟩ := recOk_lens h.1
  exact ⟨by first | omega | (dsimp only; omega), by first | omega | (dsimp only; omega), by first | omega | (dsimp only; omega)⟩
theorem bt?_cons (c : UInt8) (s : List UInt8) : bt? (c :: s) 0 = some c := by simp [bt?]
theorem kind_byte (c : UInt8) : ofI (IntKind.u8.wrap (w64 (c.toNat : Int))) = c := by
  have := c.toNat_lt
  rw [w64_id (by omega) (by omega), u8_wrap]
  have e : (c.toNat : Int) % 256 = c.toNat := by omega
  rw [e, ofI_toNat]

/-! ### the document's reading -/
theorem spec_curS {s : List UInt8} (hs : s.length ≤ 8388608) (a : Nat) (bad : Bool) : F_spec_l06ReadShort_w { mText := s, mAt := (a : Int), mBad := bad } = some (if bad then ([], { mText := s, mAt := (a : Int), mBad := true }) else match rsA s a with | some x => (x.1, { mText := s, mAt := (x.2 : Int), mBad := false }) | none => ([], { mText := s, mAt := (a : Int), mBad := true })) := by
  unfold F_spec_l06ReadShort_w
  dsimp only
  rw [spec_rsA hs a, Option.bind_some]
  cases bad with
  | true => rfl
  | false =>
    cases rsA s a with
    | none => rfl
    | some x => rfl
theorem spec_curSA {s : List UInt8} (hs : s.length ≤ 8388608) (a : Nat) (bad : Bool) : ∃ (u : List UInt8) (b : Nat) (bad' : Bool), F_spec_l06ReadShort_w { mText := s, mAt := (a : Int), mBad := bad } = some (u, { mText := s, mAt := (b : Int), mBad := bad' }) ∧ u.length ≤ 20000 := by
  rw [spec_curS hs]
  cases bad with
  | true => exact ⟨[], a, true, rfl, by simp⟩
  | false =>
    cases h : rsA s a with
    | none => exact ⟨[], a, true, rfl, by simp⟩
    | some x => exact ⟨x.1, x.2, false, rfl, (rsA_bnd h).2.2⟩
theorem spec_curSB {A B u : List UInt8} (hs : (A ++ (short u ++ B)).length ≤ 8388608) (h : u.length ≤ 20000) : F_spec_l06ReadShort_w { mText := A ++ (short u ++ B), mAt := (A.length : Int), mBad := false } = some (u, { mText := A ++ (short u ++ B), mAt := ((A ++ short u).length : Int), mBad := false }) := by
  rw [spec_curS hs, rsA_at h]
  rfl
theorem spec_recA {t : List UInt8} (ht : t.length ≤ 8388608) : ∃ q, F_spec_ReadRec t = some q ∧ (q.2 = true → goodR t q.1) ∧ (q.2 = false → q.1 = rec0) := by
  have fail : ∃ q, some (rec0, false) = some q ∧ (q.2 = true → goodR t q.1) ∧ (q.2 = false → q.1 = rec0) := ⟨_, rfl, by simp, by simp⟩
  unfold F_spec_ReadRec
  cases t with
  | nil => exact fail
  | cons c s =>
    rw [if_neg (by simp), bt?_cons, Option.bind_some]
    obtain ⟨n1, a1, d1, e1⟩ := spec_curA ht 1 false
    rw [show ((1 : Nat) : Int) = 1 from rfl] at e1
    obtain ⟨n2, a2, d2, e2⟩ := spec_curA ht a1 d1
    obtain ⟨n3, a3, d3, e3⟩ := spec_curA ht a2 d2
    obtain ⟨n4, a4, d4, e4⟩ := spec_curA ht a3 d3
    obtain ⟨u5, a5, d5, e5, l5⟩ := spec_curSA ht a4 d4
    obtain ⟨u6, a6, d6, e6, l6⟩ := spec_curSA ht a5 d5
    obtain ⟨u7, a7, d7, e7, l7⟩ := spec_curSA ht a6 d6
    rw [e1, Option.bind_some]
    dsimp only
    rw [e2, Option.bind_some]
    dsimp only
    rw [e3, Option.bind_some]
    dsimp only
    rw [e4, Option.bind_some]
    dsimp only
    rw [e5, Option.bind_some]
    dsimp only
    rw [e6, Option.bind_some]
    dsimp only
    rw [e7, Option.bind_some]
    dsimp only
    rw [spec_recText ⟨by dsimp only; omega, by dsimp only; omega, by dsimp only; omega⟩, Option.bind_some]
    generalize hr : ({ Kind := w64 (c.toNat : Int), Valid := n1, Uid := n2, Next := n3, Flags := n4, User := u5, Name := u6, Text := u7 } : TRec) = r
    cases d7 with
    | true => exact fail
    | false =>
      rw [if_neg (by simp)]
      unfold recText
      by_cases hk : recOk r = true
      · rw [if_pos hk, if_neg (by simp)]
        by_cases he : recT r = c :: s
        · rw [if_neg (by simp [he]), Option.bind_some, if_neg (by simp)]
          exact ⟨_, rfl, fun _ => ⟨hk, he.symm⟩, fun h => absurd h (by simp)⟩
        · rw [if_pos (by simp [he]), Option.bind_some, if_pos rfl]
          exact fail
      · rw [if_neg hk, if_pos (by simp), Option.bind_some, if_pos rfl]
        exact fail
theorem spec_recB {t : List UInt8} (ht : t.length ≤ 8388608) {r : TRec} (h : goodR t r) : F_spec_ReadRec t = some (r, true) := by
  obtain ⟨hk, hT⟩ := h
  obtain ⟨⟨v1, v2⟩, ⟨u1, u2⟩, ⟨n1, n2⟩, ⟨f1, f2⟩, k1, k2⟩ := recOk_rng hk
  obtain ⟨l1, l2, l3⟩ := recOk_lens hk
  have rd : ∀ {A B : List UInt8} {z : Int}, t = A ++ (vt z ++ B) → 0 ≤ z ∧ z ≤ 1000000000 → F_spec_l06Var_w { mText := t, mAt := (A.length : Int), mBad := false } = some (z, { mText := t, mAt := ((A ++ vt z).length : Int), mBad := false }) := by
    intro A B z he hz
    rw [he] at ht ⊢
    exact spec_curB ht hz
  have rdS : ∀ {A B u : List UInt8}, t = A ++ (short u ++ B) → u.length ≤ 20000 → F_spec_l06ReadShort_w { mText := t, mAt := (A.length : Int), mBad := false } = some (u, { mText := t, mAt := ((A ++ short u).length : Int), mBad := false }) := by
    intro A B u he hu
    rw [he] at ht ⊢
    exact spec_curSB ht hu
  generalize hkb : [ofI (IntKind.u8.wrap r.Kind)] = kb
  have hT' : t = kb ++ vt r.Valid ++ vt r.Uid ++ vt r.Next ++ vt r.Flags ++ short r.User ++ short r.Name ++ short r.Text := by rw [hT, ← hkb]; rfl
  have e1 := rd (A := kb) (z := r.Valid) (B := vt r.Uid ++ (vt r.Next ++ (vt r.Flags ++ (short r.User ++ (short r.Name ++ short r.Text))))) (by rw [hT']; simp) (by omega)
  have e2 := rd (A := kb ++ vt r.Valid) (z := r.Uid) (B := vt r.Next ++ (vt r.Flags ++ (short r.User ++ (short r.Name ++ short r.Text)))) (by rw [hT']; simp) (by omega)
  have e3 := rd (A := kb ++ vt r.Valid ++ vt r.Uid) (z := r.Next) (B := vt r.Flags ++ (short r.User ++ (short r.Name ++ short r.Text))) (by rw [hT']; simp) (by omega)
  have e4 := rd (A := kb ++ vt r.Valid ++ vt r.Uid ++ vt r.Next) (z := r.Flags) (B := short r.User ++ (short r.Name ++ short r.Text)) (by rw [hT']; simp) (by omega)
  have e5 := rdS (A := kb ++ vt r.Valid ++ vt r.Uid ++ vt r.Next ++ vt r.Flags) (u := r.User) (B := short r.Name ++ short r.Text) (by rw [hT']; simp) (by omega)
  have e6 := rdS (A := kb ++ vt r.Valid ++ vt r.Uid ++ vt r.Next ++ vt r.Flags ++ short r.User) (u := r.Name) (B := short r.Text) (by rw [hT']; simp) (by omega)
  have e7 := rdS (A := kb ++ vt r.Valid ++ vt r.Uid ++ vt r.Next ++ vt r.Flags ++ short r.User ++ short r.Name) (u := r.Text) (B := []) (by rw [hT']; simp) (by omega)
  have hkl : kb.length = 1 := by rw [← hkb]; rfl
  rw [hkl] at e1
  have ht0 : t = ofI (IntKind.u8.wrap r.Kind) :: t.drop 1 := by rw [hT]; rfl
  have hb : bt? t 0 = some (ofI (IntKind.u8.wrap r.Kind)) := by rw [ht0]; exact bt?_cons _ _
  have hkk : w64 ((ofI (IntKind.u8.wrap r.Kind)).toNat : Int) = r.Kind := by
    have e : IntKind.u8.wrap r.Kind = ((r.Kind.toNat : Nat) : Int) := by rw [u8_wrap]; omega
    rw [e, toNat_ofI (by omega), w64_id (by omega) (by omega)]
    omega
  unfold F_spec_ReadRec
  rw [if_neg (by rw [ht0]; simp), hb, Option.bind_some, show (1 : Int) = ((1 : Nat) : Int) from rfl, e1, Option.bind_some]
  dsimp only
  rw [e2, Option.bind_some]
  dsimp only
  rw [e3, Option.bind_some]
  dsimp only
  rw [e4, Option.bind_some]
  dsimp only
  rw [e5, Option.bind_some]
  dsimp only
  rw [e6, Option.bind_some]
  dsimp only
  rw [e7, Option.bind_some]
  dsimp only
  rw [hkk]
  have hR : ({ Kind := r.Kind, Valid := r.Valid, Uid := r.Uid, Next := r.Next, Flags := r.Flags, User := r.User, Name := r.Name, Text := r.Text } : TRec) = r := rfl
  rw [hR, spec_recText ⟨by first | omega | (dsimp only; omega), by first | omega | (dsimp only; omega), by first | omega | (dsimp only; omega)⟩, Option.bind_some]
  unfold recText
  rw [if_pos hk, if_neg (by simp), if_neg (by simp), if_neg (by simp [hT]), Option.bind_some, if_neg (by simp)]

/-! ### the program's reading -/
theorem impl_recA {t : List UInt8} (ht : t.length ≤ 8388608) : ∃ q, F_impl_ReadRec t = some q ∧ (q.2 = true → goodR t q.1) ∧ (q.2 = false → q.1 = rec0) := by
  have fail : ∃ q, some (rec0, false) = some q ∧ (q.2 = true → goodR t q.1) ∧ (q.2 = false → q.1 = rec0) := ⟨_, rfl, by simp, by simp⟩
  unfold F_impl_ReadRec
  cases ht0 : t with
  | nil => rw [← ht0]; rw [ht0]; exact ⟨_, rfl, by simp, by simp [rec0]⟩
  | cons c s =>
    rw [← ht0]
    rw [if_neg (by rw [ht0]; simp)]
    have hb : bt? t 0 = some c := by rw [ht0]; exact bt?_cons _ _
    have hd : t.drop 1 = s := by rw [ht0]; rfl
    rw [hb, Option.bind_some, show (1 : Int) = ((1 : Nat) : Int) from rfl, impl_rv (by omega) 1, Option.bind_some]
    cases h1 : rv t 1 with
    | none => rw [rvR_none, if_pos (by simp)]; exact fail
    | some x1 =>
      rw [rvR_some, if_neg (by simp)]
      dsimp only
      rw [impl_rv (by omega) x1.2, Option.bind_some]
      cases h2 : rv t x1.2 with
      | none => rw [rvR_none, if_pos (by simp)]; exact fail
      | some x2 =>
        rw [rvR_some, if_neg (by simp)]
        dsimp only
        rw [impl_rv (by omega) x2.2, Option.bind_some]
        cases h3 : rv t x2.2 with
        | none => rw [rvR_none, if_pos (by simp)]; exact fail
        | some x3 =>
          rw [rvR_some, if_neg (by simp)]
          dsimp only
          rw [impl_rv (by omega) x3.2, Option.bind_some]
          cases h4 : rv t x3.2 with
          | none => rw [rvR_none, if_pos (by simp)]; exact fail
          | some x4 =>
            rw [rvR_some, if_neg (by simp)]
            dsimp only
            rw [impl_rsA ht x4.2, Option.bind_some]
            cases h5 : rsA t x4.2 with
            | none => rw [rsR_none, if_pos (by simp)]; exact fail
            | some x5 =>
              rw [rsR_some, if_neg (by simp)]
              dsimp only
              rw [impl_rsA ht x5.2, Option.bind_some]
              cases h6 : rsA t x5.2 with
              | none => rw [rsR_none, if_pos (by simp)]; exact fail
              | some x6 =>
                rw [rsR_some, if_neg (by simp)]
                dsimp only
                rw [impl_rsA ht x6.2, Option.bind_some]
                cases h7 : rsA t x6.2 with
                | none => rw [rsR_none, if_pos (by simp)]; exact fail
                | some x7 =>
                  rw [rsR_some, if_neg (by simp)]
                  dsimp only
                  have l5 := (rsA_bnd h5).2.2
                  have l6 := (rsA_bnd h6).2.2
                  have l7 := (rsA_bnd h7).2.2
                  generalize hr : ({ Kind := w64 (c.toNat : Int), Valid := (x1.1 : Int), Uid := (x2.1 : Int), Next := (x3.1 : Int), Flags := (x4.1 : Int), User := x5.1, Name := x6.1, Text := x7.1 } : TRec) = r
                  by_cases hend : x7.2 = t.length
                  · rw [if_neg (by simp [hend]), impl_recOk (by rw [← hr]; exact ⟨by dsimp only; omega, by dsimp only; omega, by dsimp only; omega⟩), Option.bind_some]
                    by_cases hk : recOk r = true
                    · rw [if_pos hk, Option.bind_some, if_neg (by simp)]
                      refine ⟨_, rfl, fun _ => ⟨hk, ?_⟩, fun h => absurd h (by simp)⟩
                      have d1 := rv_drop h1
                      rw [hd, rv_drop h2, rv_drop h3, rv_drop h4, rsA_drop h5, rsA_drop h6, rsA_drop h7, hend, List.drop_length] at d1
                      dsimp only
                      rw [ht0, d1, ← hr]
                      unfold recT
                      dsimp only
                      rw [kind_byte]
                      simp
                    · rw [if_neg hk, Option.bind_some, if_pos rfl]; exact fail
                  · rw [if_pos (by simp; omega), Option.bind_some, if_pos rfl]; exact fail
theorem impl_recB {t : List UInt8} (ht : t.length ≤ 8388608) {r : TRec} (h : goodR t r) : F_impl_ReadRec t = some (r, true) := by
  obtain ⟨hk, hT⟩ := h
  obtain ⟨⟨v1, v2⟩, ⟨u1, u2⟩, ⟨n1, n2⟩, ⟨f1, f2⟩, k1, k2⟩ := recOk_rng hk
  obtain ⟨l1, l2, l3⟩ := recOk_lens hk
  have rd : ∀ {A B : List UInt8} {z : Int}, t = A ++ (vt z ++ B) → 0 ≤ z ∧ z ≤ 1000000000 → F_impl_ReadVar t (A.length : Int) = some (z, ((A ++ vt z).length : Int), true) := by
    intro A B z he hz
    rw [impl_rv (by omega), he, rv_at hz]
  have rdS : ∀ {A B u : List UInt8}, t = A ++ (short u ++ B) → u.length ≤ 20000 → F_impl_ReadShort t (A.length : Int) = some (u, ((A ++ short u).length : Int), true) := by
    intro A B u he hu
    rw [impl_rsA ht, he, rsA_at hu]; rfl
  generalize hkb : [ofI (IntKind.u8.wrap r.Kind)] = kb
  have hT' : t = kb ++ vt r.Valid ++ vt r.Uid ++ vt r.Next ++ vt r.Flags ++ short r.User ++ short r.Name ++ short r.Text := by rw [hT, ← hkb]; rfl
  have e1 := rd (A := kb) (z := r.Valid) (B := vt r.Uid ++ (vt r.Next ++ (vt r.Flags ++ (short r.User ++ (short r.Name ++ short r.Text))))) (by rw [hT']; simp) (by omega)
  have e2 := rd (A := kb ++ vt r.Valid) (z := r.Uid) (B := vt r.Next ++ (vt r.Flags ++ (short r.User ++ (short r.Name ++ short r.Text)))) (by rw [hT']; simp) (by omega)
  have e3 := rd (A := kb ++ vt r.Valid ++ vt r.Uid) (z := r.Next) (B := vt r.Flags ++ (short r.User ++ (short r.Name ++ short r.Text))) (by rw [hT']; simp) (by omega)
  have e4 := rd (A := kb ++ vt r.Valid ++ vt r.Uid ++ vt r.Next) (z := r.Flags) (B := short r.User ++ (short r.Name ++ short r.Text)) (by rw [hT']; simp) (by omega)
  have e5 := rdS (A := kb ++ vt r.Valid ++ vt r.Uid ++ vt r.Next ++ vt r.Flags) (u := r.User) (B := short r.Name ++ short r.Text) (by rw [hT']; simp) (by omega)
  have e6 := rdS (A := kb ++ vt r.Valid ++ vt r.Uid ++ vt r.Next ++ vt r.Flags ++ short r.User) (u := r.Name) (B := short r.Text) (by rw [hT']; simp) (by omega)
  have e7 := rdS (A := kb ++ vt r.Valid ++ vt r.Uid ++ vt r.Next ++ vt r.Flags ++ short r.User ++ short r.Name) (u := r.Text) (B := []) (by rw [hT']; simp) (by omega)
  have hkl : kb.length = 1 := by rw [← hkb]; rfl
  rw [hkl] at e1
  have ht0 : t = ofI (IntKind.u8.wrap r.Kind) :: t.drop 1 := by rw [hT]; rfl
  have hb : bt? t 0 = some (ofI (IntKind.u8.wrap r.Kind)) := by rw [ht0]; exact bt?_cons _ _
  have hkk : w64 ((ofI (IntKind.u8.wrap r.Kind)).toNat : Int) = r.Kind := by
    have e : IntKind.u8.wrap r.Kind = ((r.Kind.toNat : Nat) : Int) := by rw [u8_wrap]; omega
    rw [e, toNat_ofI (by omega), w64_id (by omega) (by omega)]
    omega
  unfold F_impl_ReadRec
  rw [if_neg (by rw [ht0]; simp), hb, Option.bind_some, show (1 : Int) = ((1 : Nat) : Int) from rfl, e1, Option.bind_some, if_neg (by simp)]
  dsimp only
  rw [e2, Option.bind_some, if_neg (by simp)]
  dsimp only
  rw [e3, Option.bind_some, if_neg (by simp)]
  dsimp only
  rw [e4, Option.bind_some, if_neg (by simp)]
  dsimp only
  rw [e5, Option.bind_some, if_neg (by simp)]
  dsimp only
  rw [e6, Option.bind_some, if_neg (by simp)]
  dsimp only
  rw [e7, Option.bind_some, if_neg (by simp)]
  dsimp only
  rw [hkk]
  have hR : ({ Kind := r.Kind, Valid := r.Valid, Uid := r.Uid, Next := r.Next, Flags := r.Flags, User := r.User, Name := r.Name, Text := r.Text } : TRec) = r := rfl
  have hend : (kb ++ vt r.Valid ++ vt r.Uid ++ vt r.Next ++ vt r.Flags ++ short r.User ++ short r.Name ++ short r.Text).length = t.length := by rw [← hT']
  rw [hR, hend, if_neg (by simp), impl_recOk ⟨by first | omega | (dsimp only; omega), by first | omega | (dsimp only; omega), by first | omega | (dsimp only; omega)⟩, Option.bind_some, if_pos hk, Option.bind_some, if_neg (by simp)]
noncomputable def readR (t : List UInt8) : TRec × Bool := (F_spec_ReadRec t).getD (rec0, false)
theorem readR_spec {t : List UInt8} (ht : t.length ≤ 8388608) : F_spec_ReadRec t = some (readR t) ∧ F_impl_ReadRec t = some (readR t) ∧ ((readR t).2 = true → goodR t (readR t).1) := by
  obtain ⟨⟨sc, sb⟩, k1, k2, k3⟩ := spec_recA ht
  have e : readR t = (sc, sb) := by unfold readR; rw [k1]; rfl
  obtain ⟨⟨rc, rb⟩, h1, h2, h3⟩ := impl_recA ht
  refine ⟨by rw [e, k1], ?_, by rw [e]; exact k2⟩
  rw [e]
  cases rb with
  | true =>
    have := spec_recB ht (h2 rfl)
    rw [k1] at this; cases this
    exact h1
  | false =>
    cases sb with
    | true => exact impl_recB ht (k2 rfl)
    | false =>
      simp only at h3 k3
      rw [h1, h3 trivial, k3 trivial]
end Go.Proofs.Ytgdcbjoaoagbpaa.V
/- A segment as it is on a disk. -/
namespace Go.Proofs.Ytgdcbjoaoagbpaa.V
open Go Go.RowKit
set_option maxRecDepth 100000

def itemZ : TItem := { Seq := 0, Rec := rec0 }
noncomputable def frameItem (f : TFrame) : TItem × Bool := if (readR f.Body).2 = true ∧ frameOk f = true then ({ Seq := f.Seq, Rec := (readR f.Body).1 }, true) else (itemZ, false)
theorem frameItem_sz {f : TFrame} (hb : f.Body.length ≤ 8388608) (h : (frameItem f).2 = true) : Sz_TItem (frameItem f).1 := by
  unfold frameItem at h ⊢
  split at h
  · rename_i hc
    rw [if_pos hc]
    exact ⟨goodR_sz ((readR_spec hb).2.2 hc.1)⟩
  · cases h
theorem spec_frameItem {f : TFrame} (hb : f.Body.length ≤ 8388608) : F_spec_FrameItem f = some (frameItem f) := by
  unfold F_spec_FrameItem frameItem
  rw [(readR_spec hb).1, Option.bind_some, spec_frameOk, Option.bind_some]
  cases frameOk f <;> cases (readR f.Body).2 <;> simp [itemZ, rec0]
theorem impl_frameItem {f : TFrame} (hb : f.Body.length ≤ 8388608) : F_impl_FrameItem f = some (frameItem f) := by
  unfold F_impl_FrameItem frameItem
  rw [(readR_spec hb).2.1, Option.bind_some, impl_frameOk]
  cases frameOk f <;> cases (readR f.Body).2 <;> simp [itemZ, rec0]
noncomputable def itI (f : TFrame) : List TItem := if (frameItem f).2 then [(frameItem f).1] else []
theorem itI_len (f : TFrame) : (itI f).length ≤ 1 := by unfold itI; split <;> simp
noncomputable def segItems (l : List TFrame) : List TItem := l.flatMap itI
theorem segItems_len : ∀ l : List TFrame, (segItems l).length ≤ l.length
  | [] => by simp [segItems]
  | f :: l => by
    have h1 := itI_len f
    have h2 := segItems_len l
    unfold segItems at h2 ⊢
    rw [List.flatMap_cons, List.length_append, List.length_cons]; omega
theorem items_loopF {l : List TFrame} (hl : l.length ≤ 1048576) {step : Int × List TItem → Option ((Int × List TItem) ⊕ List TItem)}
    (h1 : ∀ (i : Nat) (o : List TItem) (hi : i < l.length), step ((i : Int), o) = if (frameItem l[i]).2 then (app? 96 o [(frameItem l[i]).1]).bind fun v => some (.inl (((i + 1 : Nat) : Int), v)) else some (.inl (((i + 1 : Nat) : Int), o)))
    (h2 : ∀ o, step ((l.length : Int), o) = some (.inr o)) : iter step (0, []) = some (segItems l) := by
  have := iter_range (step := step) (fun i => ((i : Int), segItems (l.take i))) l.length (r := segItems l) ?_ ?_
  · simpa [segItems] using this
  · intro i hi
    have hs := segItems_len (l.take i)
    rw [List.length_take] at hs
    have e : segItems (l.take (i + 1)) = segItems (l.take i) ++ itI l[i] := by
      unfold segItems
      rw [List.take_succ_eq_append_getElem hi, List.flatMap_append]; simp
    rw [h1 i _ hi, e]
    unfold itI
    by_cases c : (frameItem l[i]).2 = true
    · rw [if_pos c, if_pos c, app?_ok (by simp; omega) (by simp; omega)]; rfl
    · rw [if_neg c, if_neg c, List.append_nil]
  · rw [h2, List.take_length]
noncomputable def segOf (d : TDisk) (no : Int) : TSeg := { No := no, Gen := segGen (segT d no), End := ((segFr (segT d no)).2 : Int), Items := segItems (segFr (segT d no)).1 }
theorem segFr_cnt {d : TDisk} (h : DkS d) (no : Int) : (segFr (segT d no)).1.length ≤ 1048576 := by
  have h1 := segFr_len (t := segT d no)
  have h2 := segT_len h no
  omega
theorem body_len {t : List UInt8} {f : TFrame} (hf : f ∈ (segFr t).1) : f.Body.length ≤ 8388608 := by
  have := (frameOk_rng (segFr_ok f hf)).2.2.2
  omega
theorem spec_segOf {d : TDisk} (h : DkS d) (no : Int) : F_spec_SegOf d no = some (segOf d no) := by
  have hc := segFr_cnt h no
  unfold F_spec_SegOf F_spec_l09Seg
  rw [spec_segFr h, Option.bind_some, spec_segGen h, Option.bind_some, items_loopF hc]
  · rfl
  · intro i o hi
    have hb := body_len (List.getElem_mem hi)
    unfold S_spec_l09Seg_1
    simp only [dlt hi, if_true, at?_nat hi, Option.bind_some, spec_frameItem hb, w64_succ (show i < 9223372036854775807 by omega)]
  · intro o; unfold S_spec_l09Seg_1; simp
theorem impl_segOf {d : TDisk} (h : DkS d) (no : Int) : F_impl_SegOf d no = some (segOf d no) := by
  have hc := segFr_cnt h no
  unfold F_impl_SegOf
  rw [impl_segFr h, Option.bind_some, impl_segGen h, Option.bind_some, items_loopF hc]
  · rfl
  · intro i o hi
    have hb := body_len (List.getElem_mem hi)
    unfold S_impl_SegOf_1
    simp only [dlt hi, if_true, at?_nat hi, Option.bind_some, impl_frameItem hb, w64_succ (show i < 9223372036854775807 by omega)]
  · intro o; unfold S_impl_SegOf_1; simp
theorem segOf_sz {d : TDisk} (h : DkS d) (no : Int) : (segOf d no).Items.length ≤ 1048576 ∧ ∀ y ∈ (segOf d no).Items, Sz_TItem y := by
  refine ⟨Nat.le_trans (segItems_len _) (segFr_cnt h no), ?_⟩
  intro y hy
  obtain ⟨f, hf, hy⟩ := List.mem_flatMap.1 hy
  unfold itI at hy
  split at hy
  · rename_i hc
    rw [List.mem_singleton] at hy
    subst hy
    exact frameItem_sz (body_len hf) hc
  · cases hy
end Go.Proofs.Ytgdcbjoaoagbpaa.V
/- SegOf. -/
namespace Go.Proofs.Ytgdcbjoaoagbpaa.V
open Go Go.RowKit
set_option maxRecDepth 100000
theorem pure_FnExactSegOf {x : TDisk} {no : Int} (w : wf_TDisk x) (_w' : (Lit.int .i64 no).wf = true) : F_laws_FnExactSegOf x no = some true := by
  obtain ⟨r, h1, h2, h3, h4⟩ := p_laws_szDisk w (n := 1048576) (by omega) (by omega)
  unfold F_laws_FnExactSegOf
  rw [h1, Option.bind_some]
  by_cases hr : r < 0
  · rw [if_pos (by simpa using hr)]
  obtain ⟨hs, ht⟩ := h4 (by omega)
  have hd := DkS.of hs
  have nn : ∀ n : Nat, ¬ ((n : Int) < 0) := fun n => by omega
  have mm := mark_disk (s := x.Sectors) (c := x.Cache) (m0 := 1) hs.sSectors.1 hs.sCache.1 (by omega)
  rw [show ((1 : Nat) : Int) = 1 from rfl] at mm
  have g1 := spec_segOf hd no
  have g2 := impl_segOf hd no
  have hi := segOf_sz hd no
  generalize segOf x no = c at g1 g2 hi
  obtain ⟨c1, c2, c3, l⟩ := c
  dsimp only at hi
  have q : Sz_TSeg { No := c1, Gen := c2, End := c3, Items := l } := ⟨hi⟩
  have m1 : guardO (fun r : Int × List TItem => l.length = r.2.length) (F_laws_markItemS_w l 1) = some _ := guardO_of (p_laws_markItemS_w (m0 := 1) hi.1 (by omega)) (by simp)
  have m2 : guardO (fun r : Int × List TItem => l.length = r.2.length) (F_laws_markSeg_w c1 c2 c3 l 1) = some (((1 + 9 * l.length : Nat) : Int), l.mapIdx fun i x => mk_laws_markItemS_w (1 + 9 * i) x) := guardO_of (by unfold F_laws_markSeg_w; rw [m1]; rfl) (by simp)
  have m3 : F_laws_heldItemS (l.mapIdx fun i x => mk_laws_markItemS_w (1 + 9 * i) x) 1 = some _ := p_laws_heldItemS (l := l) (m0 := 1) hi.1 (by omega)
  rw [if_neg (by simpa using hr)]
  simp only [p_laws_toDisk hs, p_laws_eqDisk hs, g1, g2, p_laws_eqSeg q, F_laws_heldSeg, mm, m2, m3, Option.bind_some, if_true, nn, decide_false, Bool.false_eq_true, if_false, bne_self_eq_false]
end Go.Proofs.Ytgdcbjoaoagbpaa.V
