/- The pure part. -/
import Derived.Test.YtcehlicmghnghaaGreatXT
/- Loops that count, numbers, words: plain lists and numbers. -/
namespace Go.Proofs.YtcehlicmghnghaaGreat.V
open Go Go.RowKit

/-! ### loops that count -/
theorem iter_range {σ ρ : Type} {step : σ → Option (σ ⊕ ρ)} (st : Nat → σ) (n : Nat) {r : ρ} (hs : ∀ i, i < n → step (st i) = some (.inl (st (i + 1)))) (he : step (st n) = some (.inr r)) : iter step (st 0) = some r := by
  have key : ∀ d i, i + d = n → iter step (st i) = some r := by
    intro d
    induction d with
    | zero => intro i hi; have : i = n := by omega
              subst this; exact iter_done he
    | succ d ih => intro i hi; rw [iter_next (hs i (by omega))]; exact ih (i + 1) (by omega)
  exact key n 0 (by omega)

/-! ### numbers -/
theorem w64_id {n : Int} (h : -9223372036854775808 ≤ n) (h' : n < 9223372036854775808) : w64 n = n := by
  unfold w64 IntKind.wrap
  simp [IntKind.bits, IntKind.signed]
  omega
theorem w64_nat {n : Nat} (h : n < 9223372036854775808) : w64 (n : Int) = n := w64_id (by omega) (by omega)
theorem w64_succ {n : Nat} (h : n < 9223372036854775807) : w64 ((n : Int) + 1) = ((n + 1 : Nat) : Int) := by rw [w64_id (by omega) (by omega)]; omega
theorem u8_wrap (n : Int) : IntKind.u8.wrap n = n % 256 := by
  unfold IntKind.wrap
  simp [IntKind.bits, IntKind.signed]
theorem u32_wrap (n : Int) : IntKind.u32.wrap n = n % 4294967296 := by
  unfold IntKind.wrap
  simp [IntKind.bits, IntKind.signed]
theorem at?_nat {α : Type} {l : List α} {i : Nat} (h : i < l.length) : at? l (i : Int) = some l[i] := by
  unfold at?
  rw [if_pos ⟨by omega, by omega⟩]
  simp [h]
theorem bt?_nat {s : List UInt8} {i : Nat} (h : i < s.length) : bt? s (i : Int) = some s[i] := by
  unfold bt?
  rw [if_pos (by omega)]
  simp [h]
theorem cat?_ok {s t : List UInt8} (h : s.length + t.length ≤ 4611686018427387904) : cat? s t = some (s ++ t) := by unfold cat?; rw [if_pos h]
theorem app?_ok {α : Type} {byt : Nat} {l m : List α} (h : l.length + m.length ≤ 1099511627776) (h2 : (l.length + m.length) * byt ≤ 140737488355328) : app? byt l m = some (l ++ m) := by unfold app?; rw [if_pos ⟨h, h2⟩]

theorem andv127 {n : Nat} (h' : n < 9223372036854775808) : andv .i64 n 127 = ((n % 128 : Nat) : Int) := by
  show IntKind.i64.wrap ((BitVec.ofInt 64 (n : Int) &&& BitVec.ofInt 64 127).toNat : Int) = _
  have e1 : BitVec.ofInt 64 (n : Int) = BitVec.ofNat 64 n := by simp
  have e2 : BitVec.ofInt 64 (127 : Int) = BitVec.ofNat 64 127 := by simp
  rw [e1, e2]
  have e3 : (BitVec.ofNat 64 n &&& BitVec.ofNat 64 127).toNat = n % 128 := by
    rw [BitVec.toNat_and]
    simp only [BitVec.toNat_ofNat]
    rw [Nat.mod_eq_of_lt (a := n) (by omega)]
    exact Nat.and_two_pow_sub_one_eq_mod n 7
  rw [e3]
  exact w64_nat (by omega)
theorem orv128 {n : Nat} (h : n < 128) : orv .i64 n 128 = ((n + 128 : Nat) : Int) := by
  show IntKind.i64.wrap ((BitVec.ofInt 64 (n : Int) ||| BitVec.ofInt 64 128).toNat : Int) = _
  have e1 : BitVec.ofInt 64 (n : Int) = BitVec.ofNat 64 n := by simp
  have e2 : BitVec.ofInt 64 (128 : Int) = BitVec.ofNat 64 128 := by simp
  rw [e1, e2]
  have e3 : (BitVec.ofNat 64 n ||| BitVec.ofNat 64 128).toNat = n + 128 := by
    rw [BitVec.toNat_or]
    simp only [BitVec.toNat_ofNat]
    rw [Nat.mod_eq_of_lt (a := n) (by omega)]
    have := Nat.two_pow_add_eq_or_of_lt (i := 7) (b := n) (by omega) 1
    rw [Nat.or_comm] at this
    simp at this ⊢
    omega
  rw [e3]
  exact w64_nat (by omega)
theorem andv1 {n : Nat} (h' : n < 4294967296) : andv .u32 n 1 = ((n % 2 : Nat) : Int) := by
  show IntKind.u32.wrap ((BitVec.ofInt 32 (n : Int) &&& BitVec.ofInt 32 1).toNat : Int) = _
  have e1 : BitVec.ofInt 32 (n : Int) = BitVec.ofNat 32 n := by simp
  have e2 : BitVec.ofInt 32 (1 : Int) = BitVec.ofNat 32 1 := by simp
  rw [e1, e2]
  have e3 : (BitVec.ofNat 32 n &&& BitVec.ofNat 32 1).toNat = n % 2 := by
    rw [BitVec.toNat_and]
    simp only [BitVec.toNat_ofNat]
    rw [Nat.mod_eq_of_lt (a := n) (by omega)]
    exact Nat.and_two_pow_sub_one_eq_mod n 1
  rw [e3, u32_wrap]
  omega
theorem shrv7 (n : Int) : shrv .i64 n 7 = n / 128 := by
  unfold shrv
  rw [Int.fdiv_eq_ediv_of_nonneg _ (by decide)]
  rfl
theorem shrv1 (n : Int) : shrv .u32 n 1 = n / 2 := by
  unfold shrv
  rw [Int.fdiv_eq_ediv_of_nonneg _ (by decide)]
  rfl

/-! ### numbers as words -/
def vtl (n : Nat) : List Int := if h : 127 < n then ((n % 128 + 128 : Nat) : Int) :: vtl (n / 128) else [(n : Int)]
  termination_by n
  decreasing_by omega
theorem vtl_big {n : Nat} (h : 127 < n) : vtl n = ((n % 128 + 128 : Nat) : Int) :: vtl (n / 128) := by rw [vtl, dif_pos h]
theorem vtl_small {n : Nat} (h : n ≤ 127) : vtl n = [(n : Int)] := by rw [vtl, dif_neg (by omega)]
theorem vtl_len : ∀ (k n : Nat), n < 128 ^ k → (vtl n).length ≤ k + 1
  | 0, n, h => by rw [vtl_small (by simp at h; omega)]; simp
  | k + 1, n, h => by
    by_cases hb : 127 < n
    · rw [vtl_big hb]
      have := vtl_len k (n / 128) (by rw [Nat.pow_succ] at h; exact Nat.div_lt_of_lt_mul (by rw [Nat.mul_comm]; exact h))
      simp; omega
    · rw [vtl_small (by omega)]; simp
theorem vtl_len10 {n : Nat} (h : n < 9223372036854775808) : (vtl n).length ≤ 11 := vtl_len 10 n (Nat.lt_trans h (by decide))


/-- The loop that both have: what is left, and what was laid. -/
theorem var_loop {step : Int × List Int → Option ((Int × List Int) ⊕ (Int × List Int))}
    (hbig : ∀ (n : Nat) out, 127 < n → n < 9223372036854775808 → out.length ≤ 1000 → step ((n : Int), out) = some (.inl (((n / 128 : Nat) : Int), out ++ [((n % 128 + 128 : Nat) : Int)])))
    (hsmall : ∀ (n : Int) out, n ≤ 127 → step (n, out) = some (.inr (n, out))) :
    ∀ (n : Nat) (out : List Int), n < 9223372036854775808 → out.length + 11 ≤ 1000 → ∃ (m : Nat) (o : List Int), iter step ((n : Int), out) = some ((m : Int), o) ∧ m ≤ 127 ∧ o ++ [(m : Int)] = out ++ vtl n ∧ o.length ≤ 1000 := by
  have key : ∀ (k n : Nat) (out : List Int), n < 128 ^ k → n < 9223372036854775808 → out.length + k ≤ 1000 → ∃ (m : Nat) (o : List Int), iter step ((n : Int), out) = some ((m : Int), o) ∧ m ≤ 127 ∧ o ++ [(m : Int)] = out ++ vtl n ∧ o.length ≤ 1000 := by
    intro k
    induction k with
    | zero =>
      intro n out hk hn ho
      have h1 : n ≤ 127 := by simp at hk; omega
      exact ⟨n, out, iter_done (hsmall n out (by omega)), h1, by rw [vtl_small h1], by omega⟩
    | succ k ih =>
      intro n out hk hn ho
      by_cases hb : 127 < n
      · obtain ⟨m, o, h1, h2, h3, h4⟩ := ih (n / 128) (out ++ [((n % 128 + 128 : Nat) : Int)]) (by rw [Nat.pow_succ] at hk; exact Nat.div_lt_of_lt_mul (by rw [Nat.mul_comm]; exact hk)) (by omega) (by simp; omega)
        refine ⟨m, o, ?_, h2, ?_, h4⟩
        · rw [iter_next (hbig n out hb hn (by omega))]; exact h1
        · rw [h3, vtl_big hb]; simp
      · exact ⟨n, out, iter_done (hsmall n out (by omega)), by omega, by rw [vtl_small (by omega)], by omega⟩
  intro n out hn ho
  exact key 11 n out (Nat.lt_trans hn (by decide)) hn ho

def vt (n : Int) : List UInt8 := if 0 ≤ n then (vtl n.toNat).map ofI else [ofI (n % 256)]

theorem spec_var {n : Int} (h : -9223372036854775808 ≤ n) (h' : n < 9223372036854775808) : F_spec_l01Var n = some (vt n) := by
  have hsmall : ∀ (n : Int) out, n ≤ 127 → S_spec_l01Var_1 (n, out) = some (.inr (n, out)) := by
    intro n out hn
    unfold S_spec_l01Var_1
    simp [show ¬ n > 127 by omega]
  unfold F_spec_l01Var vt
  by_cases h0 : 0 ≤ n
  · obtain ⟨m, rfl⟩ : ∃ m : Nat, n = m := ⟨n.toNat, by omega⟩
    obtain ⟨m', o, h1, h2, h3, h4⟩ := var_loop (step := S_spec_l01Var_1) (by
      intro n out hb hn ho
      unfold S_spec_l01Var_1
      have e1 : w64 (Int.tmod (n : Int) 128 + 128) = ((n % 128 + 128 : Nat) : Int) := by
        rw [Int.tmod_eq_emod_of_nonneg (by omega), w64_id (by omega) (by omega)]; omega
      have e2 : w64 (Int.tdiv (n : Int) 128) = ((n / 128 : Nat) : Int) := by
        rw [Int.tdiv_eq_ediv_of_nonneg (by omega), w64_id (by omega) (by omega)]; omega
      have e3 : IntKind.u8.wrap ((n % 128 + 128 : Nat) : Int) = ((n % 128 + 128 : Nat) : Int) := by rw [u8_wrap]; omega
      simp only [show decide ((n : Int) > 127) = true from by simp; omega, if_true, e1, e2, e3]
      rw [app?_ok (by simp; omega) (by simp; omega)]
      rfl) hsmall m [] (by omega) (by simp)
    rw [if_pos h0, h1]
    simp only [Option.bind_some]
    rw [app?_ok (by simp; omega) (by simp; omega)]
    simp only [Option.bind_some, u8_wrap]
    rw [show ((m' : Int) % 256) = m' by omega, h3]
    simp
  · rw [if_neg h0, iter_done (hsmall n [] (by omega))]
    simp only [Option.bind_some]
    rw [app?_ok (by simp) (by simp)]
    simp [u8_wrap]
theorem impl_var {n : Int} (h : -9223372036854775808 ≤ n) (h' : n < 9223372036854775808) : F_impl_varText n = some (vt n) := by
  have hsmall : ∀ (n : Int) out, n ≤ 127 → S_impl_varText_1 (n, out) = some (.inr (n, out)) := by
    intro n out hn
    unfold S_impl_varText_1
    simp [show ¬ n > 127 by omega]
  unfold F_impl_varText vt
  by_cases h0 : 0 ≤ n
  · obtain ⟨m, rfl⟩ : ∃ m : Nat, n = m := ⟨n.toNat, by omega⟩
    obtain ⟨m', o, h1, h2, h3, h4⟩ := var_loop (step := S_impl_varText_1) (by
      intro n out hb hn ho
      unfold S_impl_varText_1
      have e1 : orv .i64 (andv .i64 (n : Int) 127) 128 = ((n % 128 + 128 : Nat) : Int) := by
        rw [andv127 hn, orv128 (by omega)]
      have e2 : shrv .i64 (n : Int) 7 = ((n / 128 : Nat) : Int) := by rw [shrv7]; omega
      have e3 : IntKind.u8.wrap ((n % 128 + 128 : Nat) : Int) = ((n % 128 + 128 : Nat) : Int) := by rw [u8_wrap]; omega
      simp only [show decide ((n : Int) > 127) = true from by simp; omega, if_true, e1, e2, e3]
      rw [app?_ok (by simp; omega) (by simp; omega)]
      rfl) hsmall m [] (by omega) (by simp)
    rw [if_pos h0, h1]
    simp only [Option.bind_some]
    rw [app?_ok (by simp; omega) (by simp; omega)]
    simp only [Option.bind_some, u8_wrap]
    rw [show ((m' : Int) % 256) = m' by omega, h3]
    simp
  · rw [if_neg h0, iter_done (hsmall n [] (by omega))]
    simp only [Option.bind_some]
    rw [app?_ok (by simp) (by simp)]
    simp [u8_wrap]
theorem vt_len {n : Int} (h' : n < 9223372036854775808) : (vt n).length ≤ 11 := by
  unfold vt
  split
  · simp; exact vtl_len10 (by omega)
  · simp
end Go.Proofs.YtcehlicmghnghaaGreat.V
/- Sums, words, what a record must be. -/
namespace Go.Proofs.YtcehlicmghnghaaGreat.V
open Go Go.RowKit

/-! ### sums -/
def sumBit (n : Nat) : Nat := if n % 2 = 1 then (xorv .u32 ((n / 2 : Nat) : Int) 3558460437).toNat else n / 2
theorem xorv_range (x y : Int) : 0 ≤ xorv .u32 x y ∧ xorv .u32 x y < 4294967296 := by
  unfold xorv
  rw [u32_wrap]
  omega
theorem sumBit_lt {n : Nat} (h : n < 4294967296) : sumBit n < 4294967296 := by
  unfold sumBit
  have := xorv_range ((n / 2 : Nat) : Int) 3558460437
  split <;> omega
def iterK {α : Type} (f : α → α) : Nat → α → α
  | 0, a => a
  | k + 1, a => f (iterK f k a)
theorem iterK_lt (k : Nat) {n : Nat} (h : n < 4294967296) : iterK sumBit k n < 4294967296 := by
  induction k with
  | zero => exact h
  | succ k ih => exact sumBit_lt ih
theorem spec_sum2 {n : Nat} (h : n < 4294967296) : iter S_spec_SumMore_2 ((n : Int), 0) = some ((iterK sumBit 8 n : Nat) : Int) := by
  refine iter_range (fun k => (((iterK sumBit k n : Nat) : Int), (k : Int))) 8 ?_ ?_
  · intro k hk
    have hl := iterK_lt k h
    unfold S_spec_SumMore_2
    have e0 : w64 ((k : Int) + 1) = ((k + 1 : Nat) : Int) := w64_succ (by omega)
    generalize hm : iterK sumBit k n = m at hl
    have e1 : IntKind.u32.wrap (Int.tdiv (m : Int) 2) = ((m / 2 : Nat) : Int) := by
      rw [u32_wrap, Int.tdiv_eq_ediv_of_nonneg (by omega)]; omega
    have e2 : Int.tmod (m : Int) 2 = ((m % 2 : Nat) : Int) := by rw [Int.tmod_eq_emod_of_nonneg (by omega)]; omega
    simp only [show decide ((k : Int) < 8) = true from by simp; omega, if_true, e0, e1, e2]
    have e3 : iterK sumBit (k + 1) n = sumBit m := by simp [iterK, hm]
    rw [e3]
    unfold sumBit
    by_cases hb : m % 2 = 1
    · have := xorv_range ((m / 2 : Nat) : Int) 3558460437
      simp only [hb, if_true]
      rw [if_pos (by simp)]
      congr 3
    · rw [if_neg (by simp; omega), if_neg hb]
  · unfold S_spec_SumMore_2
    simp
theorem impl_sum2 {n : Nat} (h : n < 4294967296) : iter S_impl_SumMore_2 ((n : Int), 0) = some ((iterK sumBit 8 n : Nat) : Int) := by
  refine iter_range (fun k => (((iterK sumBit k n : Nat) : Int), (k : Int))) 8 ?_ ?_
  · intro k hk
    have hl := iterK_lt k h
    unfold S_impl_SumMore_2
    have e0 : w64 ((k : Int) + 1) = ((k + 1 : Nat) : Int) := w64_succ (by omega)
    generalize hm : iterK sumBit k n = m at hl
    have e1 : shrv .u32 (m : Int) 1 = ((m / 2 : Nat) : Int) := by rw [shrv1]; omega
    have e2 : andv .u32 (m : Int) 1 = ((m % 2 : Nat) : Int) := andv1 hl
    simp only [show decide ((k : Int) < 8) = true from by simp; omega, if_true, e0, e1, e2]
    have e3 : iterK sumBit (k + 1) n = sumBit m := by simp [iterK, hm]
    rw [e3]
    unfold sumBit
    by_cases hb : m % 2 = 1
    · have := xorv_range ((m / 2 : Nat) : Int) 3558460437
      simp only [hb, if_true]
      rw [if_pos (by simp)]
      congr 3
    · rw [if_neg (by simp; omega), if_neg hb]
  · unfold S_impl_SumMore_2
    simp
def sumB (n : Nat) (c : UInt8) : Nat := iterK sumBit 8 (xorv .u32 (n : Int) (c.toNat : Int)).toNat
def sumL (n : Nat) (s : List UInt8) : Nat := s.foldl sumB n
theorem sum_loop {step : List UInt8 → Int × Int → Option ((Int × Int) ⊕ Int)} {s : List UInt8} (hs : s.length < 9223372036854775807) {n : Nat}
    (h1 : ∀ (m i : Nat) (h : i < s.length), step s ((m : Int), (i : Int)) = some (.inl ((sumB m s[i] : Nat), ((i + 1 : Nat) : Int))))
    (h2 : ∀ m : Nat, step s ((m : Int), (s.length : Int)) = some (.inr (m : Int))) : iter (step s) ((n : Int), 0) = some ((sumL n s : Nat) : Int) := by
  refine iter_range (fun i => (((sumL n (s.take i) : Nat) : Int), (i : Int))) s.length ?_ ?_
  · intro i hi
    have e : sumL n (s.take (i + 1)) = sumB (sumL n (s.take i)) s[i] := by
      unfold sumL
      rw [List.take_succ_eq_append_getElem hi, List.foldl_append]
      rfl
    rw [h1 _ i hi, e]
  · rw [List.take_length]; exact h2 _
theorem u8_u32 (c : UInt8) : IntKind.u32.wrap (c.toNat : Int) = c.toNat := by
  rw [u32_wrap]
  have := c.toNat_lt
  omega
theorem spec_sum {s : List UInt8} (hs : s.length < 9223372036854775807) (n : Nat) : F_spec_SumMore (n : Int) s = some ((sumL n s : Nat) : Int) := by
  unfold F_spec_SumMore
  rw [sum_loop (step := S_spec_SumMore_1) hs]
  · rfl
  · intro m i hi
    unfold S_spec_SumMore_1
    simp only [show decide ((i : Int) < (s.length : Int)) = true from by simp; omega, if_true, bt?_nat hi, Option.bind_some, u8_u32, w64_succ (show i < 9223372036854775807 by omega)]
    have hx := xorv_range (m : Int) ((s[i]).toNat : Int)
    have : xorv .u32 (m : Int) ((s[i]).toNat : Int) = ((xorv .u32 (m : Int) ((s[i]).toNat : Int)).toNat : Int) := by omega
    rw [this, spec_sum2 (by omega)]
    rfl
  · intro m
    unfold S_spec_SumMore_1
    simp
theorem impl_sum {s : List UInt8} (hs : s.length < 9223372036854775807) (n : Nat) : F_impl_SumMore (n : Int) s = some ((sumL n s : Nat) : Int) := by
  unfold F_impl_SumMore
  rw [sum_loop (step := S_impl_SumMore_1) hs]
  · rfl
  · intro m i hi
    unfold S_impl_SumMore_1
    simp only [show decide ((i : Int) < (s.length : Int)) = true from by simp; omega, if_true, bt?_nat hi, Option.bind_some, u8_u32, w64_succ (show i < 9223372036854775807 by omega)]
    have hx := xorv_range (m : Int) ((s[i]).toNat : Int)
    have : xorv .u32 (m : Int) ((s[i]).toNat : Int) = ((xorv .u32 (m : Int) ((s[i]).toNat : Int)).toNat : Int) := by omega
    rw [this, impl_sum2 (by omega)]
    rfl
  · intro m
    unfold S_impl_SumMore_1
    simp
def four (n : Int) : List UInt8 := [IntKind.u8.wrap (shrv .u32 n 24), IntKind.u8.wrap (shrv .u32 n 16), IntKind.u8.wrap (shrv .u32 n 8), IntKind.u8.wrap n].map ofI
def sealL (s : List UInt8) : List UInt8 := four (sumL 4294967295 s : Nat)
theorem sealL_len (s : List UInt8) : (sealL s).length = 4 := rfl
theorem spec_sumOf {s : List UInt8} (hs : s.length < 9223372036854775807) : F_spec_SumOf s = some ((sumL 4294967295 s : Nat) : Int) := by
  unfold F_spec_SumOf
  have := spec_sum hs 4294967295
  rw [show (4294967295 : Int) = ((4294967295 : Nat) : Int) from rfl, this]; rfl
theorem impl_sumOf {s : List UInt8} (hs : s.length < 9223372036854775807) : F_impl_SumOf s = some ((sumL 4294967295 s : Nat) : Int) := by
  unfold F_impl_SumOf
  have := impl_sum hs 4294967295
  rw [show (4294967295 : Int) = ((4294967295 : Nat) : Int) from rfl, this]; rfl
theorem spec_four (n : Int) : F_spec_l02Four n = some (four n) := rfl
theorem impl_seal {s : List UInt8} (hs : s.length < 9223372036854775807) : F_impl_seal s = some (sealL s) := by
  unfold F_impl_seal
  rw [impl_sumOf hs]; rfl
def sealed (s : List UInt8) : List UInt8 × Bool := if 20000 < s.length then ([], false) else (s ++ sealL s, true)
theorem spec_sealed {s : List UInt8} (hs : s.length < 9223372036854775807) : F_spec_Sealed s = some (sealed s) := by
  unfold F_spec_Sealed sealed
  by_cases h : 20000 < s.length
  · rw [if_pos (by simp; omega), if_pos h]
  · rw [if_neg (by simp; omega), if_neg h, spec_sumOf hs]
    simp only [Option.bind_some, spec_four]
    rw [cat?_ok (by show s.length + 4 ≤ _; omega)]
    rfl
theorem impl_sealed {s : List UInt8} (hs : s.length < 9223372036854775807) : F_impl_Sealed s = some (sealed s) := by
  unfold F_impl_Sealed sealed
  by_cases h : 20000 < s.length
  · rw [if_pos (by simp; omega), if_pos h]
  · rw [if_neg (by simp; omega), if_neg h, impl_seal hs]
    simp only [Option.bind_some]
    rw [cat?_ok (by show s.length + 4 ≤ _; omega)]
    rfl

/-! ### words -/
def inR (n lo hi : Int) : Bool := decide (lo ≤ n) && decide (n ≤ hi)
theorem spec_in (n lo hi : Int) : F_spec_l01In n lo hi = some (inR n lo hi) := by
  unfold F_spec_l01In inR
  by_cases h : lo ≤ n <;> simp [h]
theorem impl_in (n lo hi : Int) : F_impl_in n lo hi = some (inR n lo hi) := by
  unfold F_impl_in inR
  by_cases h : lo ≤ n <;> simp [h]
theorem iter_all {σ ρ : Type} {step : σ → Option (σ ⊕ ρ)} (st : Nat → σ) (n : Nat) (p : Nat → Bool) {bad good : ρ} (h1 : ∀ i, i < n → p i = true → step (st i) = some (.inl (st (i + 1)))) (h2 : ∀ i, i < n → p i = false → step (st i) = some (.inr bad)) (he : step (st n) = some (.inr good)) :
    iter step (st 0) = some (if (List.range n).all p then good else bad) := by
  have key : ∀ d i, i + d = n → iter step (st i) = some (if ((List.range n).drop i).all p then good else bad) := by
    intro d
    induction d with
    | zero =>
      intro i hi
      have : i = n := by omega
      subst this
      rw [iter_done he, List.drop_eq_nil_of_le (by simp)]; simp
    | succ d ih =>
      intro i hi
      have hd : (List.range n).drop i = i :: (List.range n).drop (i + 1) := by
        rw [List.drop_eq_getElem_cons (by simp; omega)]; simp
      rw [hd]
      cases hp : p i with
      | true => rw [iter_next (h1 i (by omega) hp), ih (i + 1) (by omega)]; simp [hp]
      | false => rw [iter_done (h2 i (by omega) hp)]; simp [hp]
  simpa using key n 0 (by omega)
end Go.Proofs.YtcehlicmghnghaaGreat.V
/- What the statements' own functions need: loops over lists. -/
namespace Go.Proofs.YtcehlicmghnghaaGreat.V
open Go Go.RowKit


theorem set'_nat {α : Type} {l : List α} {i : Nat} {x : α} : set' l (i : Int) x = l.set i x := by simp [set']
theorem at?_set {α : Type} {l : List α} {i : Nat} {x : α} (h : i < l.length) : at? (l.set i x) (i : Int) = some x := by
  rw [at?_nat (by simpa using h)]; simp
theorem dlt {i : Nat} {n : Nat} (h : i < n) : decide ((i : Int) < (n : Int)) = true := by simpa using h

/-- Copied one by one. -/
theorem to_loop {α : Type} {l : List α} {z : α} {step : Int × List α → Option ((Int × List α) ⊕ List α)} (hl : l.length < 9223372036854775807)
    (h1 : ∀ (i : Nat) (h : i < l.length) (m : List α), m.length = l.length → step ((i : Int), m) = some (.inl (((i + 1 : Nat) : Int), m.set i l[i])))
    (h2 : ∀ m : List α, step ((l.length : Int), m) = some (.inr m)) : iter step (0, List.replicate l.length z) = some l := by
  have := iter_range (step := step) (fun i => ((i : Int), l.take i ++ List.replicate (l.length - i) z)) l.length (r := l) ?_ ?_
  · simpa using this
  · intro i hi
    rw [h1 i hi _ (by simp; omega)]
    have e : (l.take i ++ List.replicate (l.length - i) z).set i l[i] = l.take (i + 1) ++ List.replicate (l.length - (i + 1)) z := by
      have e1 : l.length - i = (l.length - (i + 1)) + 1 := by omega
      have e2 : (l.take i).length = i := by simp; omega
      rw [e1, List.replicate_succ, List.set_append_right _ _ (by omega), e2, Nat.sub_self, List.set_cons_zero, List.take_succ_eq_append_getElem hi, List.append_assoc]
      rfl
    rw [e]
  · simp [h2]
/-- Marked one by one: what stands at a place tells the place. -/
theorem mark_loop {α : Type} {l : List α} {k m0 : Nat} {g : Nat → α → α} {step : Int × Int × List α → Option ((Int × Int × List α) ⊕ (Int × List α))}
    (h1 : ∀ (i m : Nat) (l' : List α) (h : i < l'.length), i < l.length → m = m0 + k * i → step ((m : Int), (i : Int), l') = some (.inl (((m + k : Nat) : Int), ((i + 1 : Nat) : Int), l'.set i (g m l'[i]))))
    (h2 : ∀ (m : Nat) (l' : List α), l'.length = l.length → step ((m : Int), (l.length : Int), l') = some (.inr ((m : Int), l'))) :
    iter step ((m0 : Int), 0, l) = some (((m0 + k * l.length : Nat) : Int), l.mapIdx fun i x => g (m0 + k * i) x) := by
  have := iter_range (step := step) (fun i => (((m0 + k * i : Nat) : Int), (i : Int), (l.take i).mapIdx (fun i x => g (m0 + k * i) x) ++ l.drop i)) l.length (r := (((m0 + k * l.length : Nat) : Int), l.mapIdx fun i x => g (m0 + k * i) x)) ?_ ?_
  · simpa using this
  · intro i hi
    have hlen : i < ((l.take i).mapIdx (fun i x => g (m0 + k * i) x) ++ l.drop i).length := by simp; omega
    rw [h1 i _ _ hlen hi rfl]
    have e0 : ((l.take i).mapIdx (fun i x => g (m0 + k * i) x)).length = i := by simp; omega
    have e1 : ((l.take i).mapIdx (fun i x => g (m0 + k * i) x) ++ l.drop i)[i] = l[i] := by
      rw [List.getElem_append_right (by omega)]
      simp [e0]
    have e : ((l.take i).mapIdx (fun i x => g (m0 + k * i) x) ++ l.drop i).set i (g (m0 + k * i) l[i]) = (l.take (i + 1)).mapIdx (fun i x => g (m0 + k * i) x) ++ l.drop (i + 1) := by
      rw [List.set_append_right _ _ (by omega), e0, Nat.sub_self, List.drop_eq_getElem_cons hi, List.set_cons_zero, List.take_succ_eq_append_getElem hi, List.mapIdx_append]
      have : (l.take i).length = i := by simp; omega
      simp [this]
    rw [e1, e, Nat.mul_succ, Nat.add_assoc]
  · rw [h2 _ _ (by simp)]
    simp
theorem held_loop {α : Type} {l : List α} {k m0 : Nat} {ρ : Type} {r : Int → ρ} {g : Nat → α → α} {step : Int × Int → Option ((Int × Int) ⊕ ρ)}
    (h1 : ∀ (i m : Nat) (h : i < l.length), m = m0 + k * i → step ((m : Int), (i : Int)) = some (.inl (((m + k : Nat) : Int), ((i + 1 : Nat) : Int))))
    (h2 : ∀ (m : Nat), step ((m : Int), (l.length : Int)) = some (.inr (r (m : Int)))) :
    iter step ((m0 : Int), 0) = some (r ((m0 + k * l.length : Nat) : Int)) := by
  refine iter_range (step := step) (fun i => (((m0 + k * i : Nat) : Int), (i : Int))) l.length (r := r ((m0 + k * l.length : Nat) : Int)) ?_ ?_
  · intro i hi
    rw [h1 i _ hi rfl, Nat.mul_succ, Nat.add_assoc]
  · exact h2 _
/-! ### marks of what holds lists -/
def mkL {α : Type} (mk1 : Nat → α → α) (cn1 : α → Nat) : Nat → List α → List α
  | _, [] => []
  | m, x :: l => mk1 m x :: mkL mk1 cn1 (m + cn1 x) l
def cnL {α : Type} (cn1 : α → Nat) (l : List α) : Nat := (l.map cn1).sum
theorem mkL_len {α : Type} {mk1 : Nat → α → α} {cn1 : α → Nat} : ∀ (l : List α) (m : Nat), (mkL mk1 cn1 m l).length = l.length
  | [], _ => rfl
  | x :: l, m => by simp [mkL, mkL_len l]
theorem mkL_append {α : Type} {mk1 : Nat → α → α} {cn1 : α → Nat} : ∀ (a b : List α) (m : Nat), mkL mk1 cn1 m (a ++ b) = mkL mk1 cn1 m a ++ mkL mk1 cn1 (m + cnL cn1 a) b
  | [], b, m => by simp [mkL, cnL]
  | x :: a, b, m => by
    have h := mkL_append (mk1 := mk1) (cn1 := cn1) a b (m + cn1 x)
    simp only [List.cons_append, mkL, h, cnL, List.map_cons, List.sum_cons, Nat.add_assoc]
theorem cnL_le {α : Type} {cn1 : α → Nat} {B : Nat} : ∀ (l : List α), (∀ x ∈ l, cn1 x ≤ B) → cnL cn1 l ≤ B * l.length
  | [], _ => by simp [cnL]
  | x :: l, h => by
    have h1 := h x List.mem_cons_self
    have h2 := cnL_le l fun y hy => h y (List.mem_cons_of_mem _ hy)
    simp only [cnL, List.map_cons, List.sum_cons, List.length_cons, Nat.mul_succ] at h2 ⊢
    omega
theorem mark_loop2 {α : Type} {l : List α} {m0 B : Nat} {mk1 : Nat → α → α} {cn1 : α → Nat} {step : Int × Int × List α → Option ((Int × Int × List α) ⊕ (Int × List α))}
    (hB : ∀ x ∈ l, cn1 x ≤ B)
    (h1 : ∀ (i m : Nat) (l' : List α) (x : α) (h : i < l'.length), i < l.length → x ∈ l → l'[i] = x → m ≤ m0 + B * i → step ((m : Int), (i : Int), l') = some (.inl (((m + cn1 x : Nat) : Int), ((i + 1 : Nat) : Int), l'.set i (mk1 m x))))
    (h2 : ∀ (m : Nat) (l' : List α), l'.length = l.length → step ((m : Int), (l.length : Int), l') = some (.inr ((m : Int), l'))) :
    iter step ((m0 : Int), 0, l) = some (((m0 + cnL cn1 l : Nat) : Int), mkL mk1 cn1 m0 l) := by
  have := iter_range (step := step) (fun i => (((m0 + cnL cn1 (l.take i) : Nat) : Int), (i : Int), mkL mk1 cn1 m0 (l.take i) ++ l.drop i)) l.length (r := (((m0 + cnL cn1 l : Nat) : Int), mkL mk1 cn1 m0 l)) ?_ ?_
  · simpa [cnL, mkL] using this
  · intro i hi
    have e0 : (mkL mk1 cn1 m0 (l.take i)).length = i := by rw [mkL_len]; simp; omega
    have hlen : i < (mkL mk1 cn1 m0 (l.take i) ++ l.drop i).length := by simp [e0]; omega
    have e1 : (mkL mk1 cn1 m0 (l.take i) ++ l.drop i)[i] = l[i] := by
      rw [List.getElem_append_right (by omega)]
      simp [e0]
    have hc := cnL_le (cn1 := cn1) (B := B) (l.take i) fun x hx => hB x (List.mem_of_mem_take hx)
    have hc2 : cnL cn1 (l.take i) ≤ B * i := by
      have : (l.take i).length = i := by simp; omega
      rw [this] at hc; exact hc
    rw [h1 i _ _ l[i] hlen hi (List.getElem_mem hi) e1 (by omega)]
    have e2 : cnL cn1 (l.take (i + 1)) = cnL cn1 (l.take i) + cn1 l[i] := by
      unfold cnL
      rw [List.take_succ_eq_append_getElem hi, List.map_append, List.sum_append]; simp
    have e3 : (mkL mk1 cn1 m0 (l.take i) ++ l.drop i).set i (mk1 (m0 + cnL cn1 (l.take i)) l[i]) = mkL mk1 cn1 m0 (l.take (i + 1)) ++ l.drop (i + 1) := by
      rw [List.set_append_right _ _ (by omega), e0, Nat.sub_self, List.drop_eq_getElem_cons hi, List.set_cons_zero, List.take_succ_eq_append_getElem hi, mkL_append, List.append_assoc]
      rfl
    rw [e3, e2, Nat.add_assoc]
  · rw [h2 _ _ (by rw [List.length_append, mkL_len]; simp)]
    simp
theorem held_loop2 {α : Type} {l : List α} {m0 B : Nat} {ρ : Type} {r : Int → ρ} {mk1 : Nat → α → α} {cn1 : α → Nat} {step : Int × Int → Option ((Int × Int) ⊕ ρ)}
    (hB : ∀ x ∈ l, cn1 x ≤ B)
    (h1 : ∀ (i m : Nat) (x : α) (h : i < (mkL mk1 cn1 m0 l).length), i < l.length → x ∈ l → (mkL mk1 cn1 m0 l)[i] = mk1 m x → m ≤ m0 + B * i → step ((m : Int), (i : Int)) = some (.inl (((m + cn1 x : Nat) : Int), ((i + 1 : Nat) : Int))))
    (h2 : ∀ (m : Nat), step ((m : Int), ((mkL mk1 cn1 m0 l).length : Int)) = some (.inr (r (m : Int)))) :
    iter step ((m0 : Int), 0) = some (r ((m0 + cnL cn1 l : Nat) : Int)) := by
  have := iter_range (step := step) (fun i => (((m0 + cnL cn1 (l.take i) : Nat) : Int), (i : Int))) l.length (r := r ((m0 + cnL cn1 l : Nat) : Int)) ?_ ?_
  · simpa [cnL] using this
  · intro i hi
    have hlen : i < (mkL mk1 cn1 m0 l).length := by rw [mkL_len]; exact hi
    have e0 : (mkL mk1 cn1 m0 (l.take i)).length = i := by rw [mkL_len]; simp; omega
    have e1 : (mkL mk1 cn1 m0 l)[i] = mk1 (m0 + cnL cn1 (l.take i)) l[i] := by
      have e : mkL mk1 cn1 m0 l = mkL mk1 cn1 m0 (l.take i) ++ mk1 (m0 + cnL cn1 (l.take i)) l[i] :: mkL mk1 cn1 (m0 + cnL cn1 (l.take i) + cn1 l[i]) (l.drop (i + 1)) := by
        conv => lhs; rw [← List.take_append_drop i l, List.drop_eq_getElem_cons hi]
        rw [mkL_append]; rfl
      simp only [e]
      rw [List.getElem_append_right (by omega)]
      simp [e0]
    have hc := cnL_le (cn1 := cn1) (B := B) (l.take i) fun x hx => hB x (List.mem_of_mem_take hx)
    have hc2 : cnL cn1 (l.take i) ≤ B * i := by
      have : (l.take i).length = i := by simp; omega
      rw [this] at hc; exact hc
    rw [h1 i _ l[i] hlen hi (List.getElem_mem hi) e1 (by omega)]
    have e2 : cnL cn1 (l.take (i + 1)) = cnL cn1 (l.take i) + cn1 l[i] := by
      unfold cnL
      rw [List.take_succ_eq_append_getElem hi, List.map_append, List.sum_append]; simp
    rw [e2, Nat.add_assoc]
  · have := h2 (m0 + cnL cn1 (l.take l.length))
    rw [mkL_len] at this
    rw [this, List.take_length]
theorem mk?_ok {α : Type} {byt : Nat} {z : α} {n : Nat} (h : n ≤ 1099511627776) (h2 : n * byt ≤ 140737488355328) : mk? byt z (n : Int) = some (List.replicate n z) := by
  unfold mk?
  have h3 : ((n * byt : Nat) : Int) ≤ 140737488355328 := by omega
  rw [if_pos ⟨by omega, by rw [Int.mul_comm]; rw [Int.natCast_mul] at h3; exact h3, by omega⟩]; simp
/-- A scan that ends where something is found. -/
theorem any_loop {α ρ : Type} {l : List α} {k : Nat} (hk : k ≤ l.length) {q : α → Bool} {step : Int → Option (Int ⊕ ρ)} {bad good : ρ} (h1 : ∀ (i : Nat) (h : i < l.length), i < k → step (i : Int) = if q l[i] then some (.inr bad) else some (.inl ((i + 1 : Nat) : Int))) (h2 : step (k : Int) = some (.inr good)) : iter step 0 = some (if (l.take k).any q then bad else good) := by
  have key : ∀ d i, i + d = k → iter step (i : Int) = some (if ((l.take k).drop i).any q then bad else good) := by
    intro d
    induction d with
    | zero => intro i hi; have : i = k := by omega
              subst this; rw [iter_done h2, List.drop_eq_nil_of_le (by simp; omega)]; simp
    | succ d ih =>
      intro i hi
      have hd : (l.take k).drop i = l[i] :: (l.take k).drop (i + 1) := by
        rw [List.drop_eq_getElem_cons (by simp; omega)]; simp
      rw [hd, List.any_cons]
      have hs := h1 i (by omega) (by omega)
      cases hq : q l[i] with
      | true => rw [hq] at hs; rw [iter_done hs]; simp
      | false => rw [hq] at hs; rw [iter_next hs, ih (i + 1) (by omega)]; simp
  simpa using key k 0 (by omega)
theorem idx_loop {α : Type} {l : List α} {q : α → Bool} {step : Int → Option (Int ⊕ (Int ⊕ Unit))} (h1 : ∀ (i : Nat) (h : i < l.length), step (i : Int) = if q l[i] then some (.inr (.inl (i : Int))) else some (.inl ((i + 1 : Nat) : Int))) (h2 : step (l.length : Int) = some (.inr (.inr ()))) : iter step 0 = some (match l.findIdx? q with | some i => .inl (i : Int) | none => .inr ()) := by
  have key : ∀ d i, i + d = l.length → iter step (i : Int) = some (match (l.drop i).findIdx? q with | some j => .inl ((i + j : Nat) : Int) | none => .inr ()) := by
    intro d
    induction d with
    | zero => intro i hi; have : i = l.length := by omega
              subst this; rw [iter_done h2, List.drop_eq_nil_of_le (by simp)]; simp
    | succ d ih =>
      intro i hi
      have hs := h1 i (by omega)
      rw [List.drop_eq_getElem_cons (by omega), List.findIdx?_cons]
      cases hq : q l[i] with
      | true => rw [hq] at hs; rw [iter_done hs]; simp
      | false =>
        rw [hq] at hs; rw [iter_next hs, ih (i + 1) (by omega)]
        cases (l.drop (i + 1)).findIdx? q with
        | none => simp
        | some j => simp; omega
  have := key l.length 0 (by omega)
  simp only [List.drop_zero, Nat.zero_add] at this
  exact this
def idxI : Option Nat → Int
  | some i => i
  | none => -1
theorem idx_any {α : Type} {l : List α} {q : α → Bool} : decide (idxI (l.findIdx? q) ≥ 0) = l.any q := by
  rw [← List.findIdx?_isSome]
  cases l.findIdx? q <;> simp [idxI]
theorem sub?_take {α : Type} {l : List α} {i : Nat} (h : i ≤ l.length) : sub? l 0 (i : Int) = some (l.take i) := by
  unfold sub?
  simp
  omega
end Go.Proofs.YtcehlicmghnghaaGreat.V
/- The functions that the statements are made of. -/
namespace Go.Proofs.YtcehlicmghnghaaGreat.V
open Go Go.RowKit
set_option maxRecDepth 100000
structure Sz_TWrite (x : TWrite) : Prop where
  sText : x.Text.length ≤ 1048576
structure Sz_TDisk (x : TDisk) : Prop where
  sSectors : x.Sectors.length ≤ 1048576 ∧ ∀ y ∈ x.Sectors, y.length ≤ 1048576
  sCache : x.Cache.length ≤ 1048576 ∧ ∀ y ∈ x.Cache, Sz_TWrite y
structure Sz_TRec (x : TRec) : Prop where
  sUser : x.User.length ≤ 1048576
  sName : x.Name.length ≤ 1048576
  sText : x.Text.length ≤ 1048576
structure Sz_TItem (x : TItem) : Prop where
  sRec : Sz_TRec x.Rec
structure Sz_TSeg (x : TSeg) : Prop where
  sItems : x.Items.length ≤ 1048576 ∧ ∀ y ∈ x.Items, Sz_TItem y
structure Sz_TLog (x : TLog) : Prop where
  sDisk : Sz_TDisk x.Disk
  sUsed : x.Used.length ≤ 1048576 ∧ ∀ y ∈ x.Used, Sz_TSeg y
structure Sz_TStore (x : TStore) : Prop where
  sLog : Sz_TLog x.Log
  sFreed : x.Freed.length ≤ 1048576

/-! ### the words that mark -/
theorem mt_loop : ∀ (d n : Nat) (out : List UInt8), n < 10 ^ d → n < 4611686018427387904 → out.length + d ≤ 1000 → ∃ o, iter S_laws_markText_1 ((n : Int), out) = some o ∧ o.length ≤ 1000
  | 0, n, out, h, _, h2 => by
    have : n = 0 := by simp at h; omega
    subst this
    exact ⟨out, iter_done (by unfold S_laws_markText_1; simp), by omega⟩
  | d + 1, n, out, h, h1, h2 => by
    by_cases h0 : n = 0
    · subst h0; exact ⟨out, iter_done (by unfold S_laws_markText_1; simp), by omega⟩
    · have hs : S_laws_markText_1 ((n : Int), out) = some (.inl (((n / 10 : Nat) : Int), [ofI (IntKind.u8.wrap (w64 (48 + Int.tmod (n : Int) 10)))] ++ out)) := by
        unfold S_laws_markText_1
        have e2 : w64 (Int.tdiv (n : Int) 10) = ((n / 10 : Nat) : Int) := by
          rw [Int.tdiv_eq_ediv_of_nonneg (by omega), w64_id (by omega) (by omega)]; omega
        simp only [show decide ((n : Int) > 0) = true from by simp; omega, if_true, e2]
        rw [cat?_ok (by simp; omega)]
        rfl
      obtain ⟨o, h3, h4⟩ := mt_loop d (n / 10) ([ofI (IntKind.u8.wrap (w64 (48 + Int.tmod (n : Int) 10)))] ++ out) (by rw [Nat.pow_succ] at h; exact Nat.div_lt_of_lt_mul (by rw [Nat.mul_comm]; exact h)) (by omega) (by simp; omega)
      exact ⟨o, by rw [iter_next hs]; exact h3, h4⟩
noncomputable def mt (n : Nat) : List UInt8 := (F_laws_markText (n : Int)).getD []
theorem p_laws_markText {n : Nat} (h : n < 4611686018427387904) : F_laws_markText (n : Int) = some (mt n) := by
  have : ∃ o, F_laws_markText (n : Int) = some o := by
    unfold F_laws_markText
    by_cases h0 : n = 0
    · subst h0; exact ⟨_, by simp; rfl⟩
    · rw [if_neg (by simp; omega)]
      obtain ⟨o, h1, h2⟩ := mt_loop 19 n [] (Nat.lt_trans h (by decide)) h (by simp)
      rw [h1]
      simp only [Option.bind_some]
      rw [cat?_ok (by simp; omega)]
      exact ⟨_, rfl⟩
  obtain ⟨o, ho⟩ := this
  unfold mt
  rw [ho]; rfl
theorem p_slices_IndexFunc_Seg_FreeSegs_1 {x0 : List TSeg} {x1 : Int} {q : TSeg → Bool} (hl : x0.length ≤ 9223372036854775806) (hq : ∀ y ∈ x0, F_impl_FreeSegs_1_w y x1 = some (q y)) : F_slices_IndexFunc_Seg_FreeSegs_1 x0 x1 = some (idxI (x0.findIdx? q)) := by
  unfold F_slices_IndexFunc_Seg_FreeSegs_1
  rw [idx_loop (l := x0) (q := q) ?_ ?_]
  · cases x0.findIdx? q <;> rfl
  · intro i hi
    unfold S_slices_IndexFunc_Seg_FreeSegs_1_1
    simp only [dlt hi, if_true, at?_nat hi, Option.bind_some, hq _ (List.getElem_mem hi), w64_succ (show i < 9223372036854775807 by omega)]
  · unfold S_slices_IndexFunc_Seg_FreeSegs_1_1
    simp
theorem p_slices_ContainsFunc_Seg_FreeSegs_1 {x0 : List TSeg} {x1 : Int} {q : TSeg → Bool} (hl : x0.length ≤ 9223372036854775806) (hq : ∀ y ∈ x0, F_impl_FreeSegs_1_w y x1 = some (q y)) : F_slices_ContainsFunc_Seg_FreeSegs_1 x0 x1 = some (x0.any q) := by
  unfold F_slices_ContainsFunc_Seg_FreeSegs_1
  rw [p_slices_IndexFunc_Seg_FreeSegs_1 hl hq, Option.bind_some, idx_any]
theorem p_slices_IndexFunc_string_DiskOk_1 {x0 : List (List UInt8)} {q : (List UInt8) → Bool} (hl : x0.length ≤ 9223372036854775806) (hq : ∀ y ∈ x0, F_impl_DiskOk_1 y = some (q y)) : F_slices_IndexFunc_string_DiskOk_1 x0 = some (idxI (x0.findIdx? q)) := by
  unfold F_slices_IndexFunc_string_DiskOk_1
  rw [idx_loop (l := x0) (q := q) ?_ ?_]
  · cases x0.findIdx? q <;> rfl
  · intro i hi
    unfold S_slices_IndexFunc_string_DiskOk_1_1
    simp only [dlt hi, if_true, at?_nat hi, Option.bind_some, hq _ (List.getElem_mem hi), w64_succ (show i < 9223372036854775807 by omega)]
  · unfold S_slices_IndexFunc_string_DiskOk_1_1
    simp
theorem p_slices_ContainsFunc_string_DiskOk_1 {x0 : List (List UInt8)} {q : (List UInt8) → Bool} (hl : x0.length ≤ 9223372036854775806) (hq : ∀ y ∈ x0, F_impl_DiskOk_1 y = some (q y)) : F_slices_ContainsFunc_string_DiskOk_1 x0 = some (x0.any q) := by
  unfold F_slices_ContainsFunc_string_DiskOk_1
  rw [p_slices_IndexFunc_string_DiskOk_1 hl hq, Option.bind_some, idx_any]
theorem p_slices_IndexFunc_Write_DiskOk_2 {x0 : List TWrite} {x1 : TDisk} {q : TWrite → Bool} (hl : x0.length ≤ 9223372036854775806) (hq : ∀ y ∈ x0, F_impl_DiskOk_2_w y x1 = some (q y)) : F_slices_IndexFunc_Write_DiskOk_2 x0 x1 = some (idxI (x0.findIdx? q)) := by
  unfold F_slices_IndexFunc_Write_DiskOk_2
  rw [idx_loop (l := x0) (q := q) ?_ ?_]
  · cases x0.findIdx? q <;> rfl
  · intro i hi
    unfold S_slices_IndexFunc_Write_DiskOk_2_1
    simp only [dlt hi, if_true, at?_nat hi, Option.bind_some, hq _ (List.getElem_mem hi), w64_succ (show i < 9223372036854775807 by omega)]
  · unfold S_slices_IndexFunc_Write_DiskOk_2_1
    simp
theorem p_slices_ContainsFunc_Write_DiskOk_2 {x0 : List TWrite} {x1 : TDisk} {q : TWrite → Bool} (hl : x0.length ≤ 9223372036854775806) (hq : ∀ y ∈ x0, F_impl_DiskOk_2_w y x1 = some (q y)) : F_slices_ContainsFunc_Write_DiskOk_2 x0 x1 = some (x0.any q) := by
  unfold F_slices_ContainsFunc_Write_DiskOk_2
  rw [p_slices_IndexFunc_Write_DiskOk_2 hl hq, Option.bind_some, idx_any]
theorem p_slices_IndexFunc_Ref_CheckOk_1 {x0 : List TRef} {x1 : TRef} {q : TRef → Bool} (hl : x0.length ≤ 9223372036854775806) (hq : ∀ y ∈ x0, F_impl_CheckOk_1_w y x1 = some (q y)) : F_slices_IndexFunc_Ref_CheckOk_1 x0 x1 = some (idxI (x0.findIdx? q)) := by
  unfold F_slices_IndexFunc_Ref_CheckOk_1
  rw [idx_loop (l := x0) (q := q) ?_ ?_]
  · cases x0.findIdx? q <;> rfl
  · intro i hi
    unfold S_slices_IndexFunc_Ref_CheckOk_1_1
    simp only [dlt hi, if_true, at?_nat hi, Option.bind_some, hq _ (List.getElem_mem hi), w64_succ (show i < 9223372036854775807 by omega)]
  · unfold S_slices_IndexFunc_Ref_CheckOk_1_1
    simp
theorem p_slices_ContainsFunc_Ref_CheckOk_1 {x0 : List TRef} {x1 : TRef} {q : TRef → Bool} (hl : x0.length ≤ 9223372036854775806) (hq : ∀ y ∈ x0, F_impl_CheckOk_1_w y x1 = some (q y)) : F_slices_ContainsFunc_Ref_CheckOk_1 x0 x1 = some (x0.any q) := by
  unfold F_slices_ContainsFunc_Ref_CheckOk_1
  rw [p_slices_IndexFunc_Ref_CheckOk_1 hl hq, Option.bind_some, idx_any]
theorem p_laws_eqStringS {x : List (List UInt8)} (h : x.length ≤ 1048576 ∧ ∀ y ∈ x, y.length ≤ 1048576) : F_laws_eqStringS x x = some true := by
  unfold F_laws_eqStringS
  have hl := h.1
  have key : iter (S_laws_eqStringS_1 x x) 0 = some (.inr ()) := by
    refine iter_range (fun i => (i : Int)) x.length ?_ ?_
    · intro i hi
      unfold S_laws_eqStringS_1
      simp only [dlt hi, if_true, at?_nat hi, Option.bind_some, w64_succ (show i < 9223372036854775807 by omega)]
      try simp
    · unfold S_laws_eqStringS_1
      simp
  rw [key]
  simp
theorem p_laws_eqWrite {x : TWrite} (h : Sz_TWrite x) : F_laws_eqWrite x x = some true := by
  unfold F_laws_eqWrite
  simp []
theorem p_laws_eqWriteS {x : List TWrite} (h : x.length ≤ 1048576 ∧ ∀ y ∈ x, Sz_TWrite y) : F_laws_eqWriteS x x = some true := by
  unfold F_laws_eqWriteS
  have hl := h.1
  have key : iter (S_laws_eqWriteS_1 x x) 0 = some (.inr ()) := by
    refine iter_range (fun i => (i : Int)) x.length ?_ ?_
    · intro i hi
      unfold S_laws_eqWriteS_1
      have he := p_laws_eqWrite (x := x[i]) (h.2 _ (List.getElem_mem hi))
      simp only [dlt hi, if_true, at?_nat hi, Option.bind_some, w64_succ (show i < 9223372036854775807 by omega), he]
      try simp
    · unfold S_laws_eqWriteS_1
      simp
  rw [key]
  simp
theorem p_laws_eqDisk {x : TDisk} (h : Sz_TDisk x) : F_laws_eqDisk x x = some true := by
  unfold F_laws_eqDisk
  simp [p_laws_eqStringS (x := x.Sectors) h.sSectors, p_laws_eqWriteS (x := x.Cache) h.sCache]
theorem p_laws_eqRec {x : TRec} (h : Sz_TRec x) : F_laws_eqRec x x = some true := by
  unfold F_laws_eqRec
  simp []
theorem p_laws_eqItem {x : TItem} (h : Sz_TItem x) : F_laws_eqItem x x = some true := by
  unfold F_laws_eqItem
  simp [p_laws_eqRec (x := x.Rec) h.sRec]
theorem p_laws_eqItemS {x : List TItem} (h : x.length ≤ 1048576 ∧ ∀ y ∈ x, Sz_TItem y) : F_laws_eqItemS x x = some true := by
  unfold F_laws_eqItemS
  have hl := h.1
  have key : iter (S_laws_eqItemS_1 x x) 0 = some (.inr ()) := by
    refine iter_range (fun i => (i : Int)) x.length ?_ ?_
    · intro i hi
      unfold S_laws_eqItemS_1
      have he := p_laws_eqItem (x := x[i]) (h.2 _ (List.getElem_mem hi))
      simp only [dlt hi, if_true, at?_nat hi, Option.bind_some, w64_succ (show i < 9223372036854775807 by omega), he]
      try simp
    · unfold S_laws_eqItemS_1
      simp
  rw [key]
  simp
theorem p_laws_eqSeg {x : TSeg} (h : Sz_TSeg x) : F_laws_eqSeg x x = some true := by
  unfold F_laws_eqSeg
  simp [p_laws_eqItemS (x := x.Items) h.sItems]
theorem p_laws_eqSegS {x : List TSeg} (h : x.length ≤ 1048576 ∧ ∀ y ∈ x, Sz_TSeg y) : F_laws_eqSegS x x = some true := by
  unfold F_laws_eqSegS
  have hl := h.1
  have key : iter (S_laws_eqSegS_1 x x) 0 = some (.inr ()) := by
    refine iter_range (fun i => (i : Int)) x.length ?_ ?_
    · intro i hi
      unfold S_laws_eqSegS_1
      have he := p_laws_eqSeg (x := x[i]) (h.2 _ (List.getElem_mem hi))
      simp only [dlt hi, if_true, at?_nat hi, Option.bind_some, w64_succ (show i < 9223372036854775807 by omega), he]
      try simp
    · unfold S_laws_eqSegS_1
      simp
  rw [key]
  simp
theorem p_laws_eqLog {x : TLog} (h : Sz_TLog x) : F_laws_eqLog x x = some true := by
  unfold F_laws_eqLog
  simp [p_laws_eqDisk (x := x.Disk) h.sDisk, p_laws_eqSegS (x := x.Used) h.sUsed]
noncomputable def mk_laws_markStringS_w (m : Nat) (_ : List UInt8) : List UInt8 := mt (m)
theorem p_laws_markStringS_w {l : List (List UInt8)} {m0 : Nat} (hl : l.length ≤ 1048576) (hm0 : m0 ≤ 1125899906842624) : F_laws_markStringS_w l (m0 : Int) = some (((m0 + 1 * l.length : Nat) : Int), l.mapIdx fun i x => mk_laws_markStringS_w (m0 + 1 * i) x) := by
  unfold F_laws_markStringS_w
  rw [mark_loop (step := S_laws_markStringS_w_1) (k := 1) (g := mk_laws_markStringS_w) (l := l) ?_ ?_]
  · rfl
  · intro i m l' h hi hm
    unfold S_laws_markStringS_w_1
    simp only [dlt h, if_true, at?_nat h, at?_set h, Option.bind_some, set'_nat, List.set_set, w64_succ (show i < 9223372036854775807 by omega), w64_succ (show m < 9223372036854775807 by omega), p_laws_markText (show m < 4611686018427387904 by omega)]
    try rfl
  · intro m l' hl'
    unfold S_laws_markStringS_w_1
    simp [hl']
theorem p_laws_heldStringS {l : List (List UInt8)} {m0 : Nat} (hl : l.length ≤ 1048576) (hm0 : m0 ≤ 1125899906842624) : F_laws_heldStringS (l.mapIdx fun i x => mk_laws_markStringS_w (m0 + 1 * i) x) (m0 : Int) = some ((m0 + 1 * l.length : Nat) : Int) := by
  unfold F_laws_heldStringS
  rw [held_loop (step := S_laws_heldStringS_1 _) (k := 1) (r := Sum.inr) (l := l.mapIdx fun i x => mk_laws_markStringS_w (m0 + 1 * i) x) (g := mk_laws_markStringS_w) ?_ ?_]
  · simp
  · intro i m h hm
    have hi : i < l.length := by simpa using h
    unfold S_laws_heldStringS_1
    simp only [dlt h, if_true, at?_nat h, List.getElem_mapIdx, ← hm, Option.bind_some, w64_succ (show i < 9223372036854775807 by omega), w64_succ (show m < 9223372036854775807 by omega), p_laws_markText (show m < 4611686018427387904 by omega)]
    simp [mk_laws_markStringS_w, Int.add_assoc]
  · intro m
    unfold S_laws_heldStringS_1
    simp
noncomputable def mk_laws_markWriteS_w (m : Nat) (_ : TWrite) : TWrite := ({ At := ((m : Nat) : Int), Text := mt (m + 1) } : TWrite)
theorem p_laws_markWriteS_w {l : List TWrite} {m0 : Nat} (hl : l.length ≤ 1048576) (hm0 : m0 ≤ 1125899906842624) : F_laws_markWriteS_w l (m0 : Int) = some (((m0 + 2 * l.length : Nat) : Int), l.mapIdx fun i x => mk_laws_markWriteS_w (m0 + 2 * i) x) := by
  unfold F_laws_markWriteS_w
  rw [mark_loop (step := S_laws_markWriteS_w_1) (k := 2) (g := mk_laws_markWriteS_w) (l := l) ?_ ?_]
  · rfl
  · intro i m l' h hi hm
    unfold S_laws_markWriteS_w_1
    simp only [dlt h, if_true, at?_nat h, at?_set h, Option.bind_some, set'_nat, List.set_set, w64_succ (show i < 9223372036854775807 by omega), w64_succ (show m < 9223372036854775807 by omega), w64_succ (n := m + 1) (by omega), p_laws_markText (show m + 1 < 4611686018427387904 by omega)]
    try rfl
  · intro m l' hl'
    unfold S_laws_markWriteS_w_1
    simp [hl']
theorem p_laws_heldWriteS {l : List TWrite} {m0 : Nat} (hl : l.length ≤ 1048576) (hm0 : m0 ≤ 1125899906842624) : F_laws_heldWriteS (l.mapIdx fun i x => mk_laws_markWriteS_w (m0 + 2 * i) x) (m0 : Int) = some ((m0 + 2 * l.length : Nat) : Int) := by
  unfold F_laws_heldWriteS
  rw [held_loop (step := S_laws_heldWriteS_1 _) (k := 2) (r := Sum.inr) (l := l.mapIdx fun i x => mk_laws_markWriteS_w (m0 + 2 * i) x) (g := mk_laws_markWriteS_w) ?_ ?_]
  · simp
  · intro i m h hm
    have hi : i < l.length := by simpa using h
    unfold S_laws_heldWriteS_1
    simp only [dlt h, if_true, at?_nat h, List.getElem_mapIdx, ← hm, Option.bind_some, w64_succ (show i < 9223372036854775807 by omega), w64_succ (show m < 9223372036854775807 by omega), w64_succ (n := m + 1) (by omega), p_laws_markText (show m + 1 < 4611686018427387904 by omega)]
    simp [mk_laws_markWriteS_w, Int.add_assoc]
  · intro m
    unfold S_laws_heldWriteS_1
    simp
noncomputable def mk_laws_markItemS_w (m : Nat) (_ : TItem) : TItem := ({ Seq := ((m : Nat) : Int), Rec := ({ Kind := ((m + 1 : Nat) : Int), Valid := ((m + 2 : Nat) : Int), Uid := ((m + 3 : Nat) : Int), Next := ((m + 4 : Nat) : Int), Flags := ((m + 5 : Nat) : Int), User := mt (m + 6), Name := mt (m + 7), Text := mt (m + 8) } : TRec) } : TItem)
theorem p_laws_markItemS_w {l : List TItem} {m0 : Nat} (hl : l.length ≤ 1048576) (hm0 : m0 ≤ 1125899906842624) : F_laws_markItemS_w l (m0 : Int) = some (((m0 + 9 * l.length : Nat) : Int), l.mapIdx fun i x => mk_laws_markItemS_w (m0 + 9 * i) x) := by
  unfold F_laws_markItemS_w
  rw [mark_loop (step := S_laws_markItemS_w_1) (k := 9) (g := mk_laws_markItemS_w) (l := l) ?_ ?_]
  · rfl
  · intro i m l' h hi hm
    unfold S_laws_markItemS_w_1
    simp only [dlt h, if_true, at?_nat h, at?_set h, Option.bind_some, set'_nat, List.set_set, w64_succ (show i < 9223372036854775807 by omega), w64_succ (show m < 9223372036854775807 by omega), w64_succ (n := m + 1) (by omega), w64_succ (n := m + 2) (by omega), w64_succ (n := m + 3) (by omega), w64_succ (n := m + 4) (by omega), w64_succ (n := m + 5) (by omega), w64_succ (n := m + 6) (by omega), w64_succ (n := m + 7) (by omega), w64_succ (n := m + 8) (by omega), p_laws_markText (show m + 6 < 4611686018427387904 by omega), p_laws_markText (show m + 7 < 4611686018427387904 by omega), p_laws_markText (show m + 8 < 4611686018427387904 by omega)]
    try rfl
  · intro m l' hl'
    unfold S_laws_markItemS_w_1
    simp [hl']
theorem p_laws_heldItemS {l : List TItem} {m0 : Nat} (hl : l.length ≤ 1048576) (hm0 : m0 ≤ 1125899906842624) : F_laws_heldItemS (l.mapIdx fun i x => mk_laws_markItemS_w (m0 + 9 * i) x) (m0 : Int) = some ((m0 + 9 * l.length : Nat) : Int) := by
  unfold F_laws_heldItemS
  rw [held_loop (step := S_laws_heldItemS_1 _) (k := 9) (r := Sum.inr) (l := l.mapIdx fun i x => mk_laws_markItemS_w (m0 + 9 * i) x) (g := mk_laws_markItemS_w) ?_ ?_]
  · simp
  · intro i m h hm
    have hi : i < l.length := by simpa using h
    unfold S_laws_heldItemS_1
    simp only [dlt h, if_true, at?_nat h, List.getElem_mapIdx, ← hm, Option.bind_some, w64_succ (show i < 9223372036854775807 by omega), w64_succ (show m < 9223372036854775807 by omega), w64_succ (n := m + 1) (by omega), w64_succ (n := m + 2) (by omega), w64_succ (n := m + 3) (by omega), w64_succ (n := m + 4) (by omega), w64_succ (n := m + 5) (by omega), w64_succ (n := m + 6) (by omega), w64_succ (n := m + 7) (by omega), w64_succ (n := m + 8) (by omega), p_laws_markText (show m + 6 < 4611686018427387904 by omega), p_laws_markText (show m + 7 < 4611686018427387904 by omega), p_laws_markText (show m + 8 < 4611686018427387904 by omega)]
    simp [mk_laws_markItemS_w, Int.add_assoc]
  · intro m
    unfold S_laws_heldItemS_1
    simp
noncomputable def mk_laws_markSegS_w (m : Nat) (x : TSeg) : TSeg := ({ No := ((m : Nat) : Int), Gen := ((m + 1 : Nat) : Int), End := ((m + 1 + 1 : Nat) : Int), Items := (x.Items.mapIdx fun i y => mk_laws_markItemS_w (m + 1 + 1 + 1 + 9 * i) y) } : TSeg)
def cn_laws_markSegS_w (x : TSeg) : Nat := 1 + 1 + 1 + 9 * x.Items.length
theorem b_laws_markSegS_w {l : List TSeg} (hh : l.length ≤ 1048576 ∧ ∀ y ∈ l, Sz_TSeg y) : ∀ x ∈ l, cn_laws_markSegS_w x ≤ 9437187 := by
  intro x hx
  have hs := hh.2 x hx
  have q3 : x.Items.length ≤ 1048576 := hs.sItems.1
  unfold cn_laws_markSegS_w
  omega
theorem p_laws_markSegS_w {l : List TSeg} {m0 : Nat} (hh : l.length ≤ 1048576 ∧ ∀ y ∈ l, Sz_TSeg y) (hm0 : m0 ≤ 1099511627776) : F_laws_markSegS_w l (m0 : Int) = some (((m0 + cnL cn_laws_markSegS_w l : Nat) : Int), mkL mk_laws_markSegS_w cn_laws_markSegS_w m0 l) := by
  have hl := hh.1
  unfold F_laws_markSegS_w
  rw [mark_loop2 (step := S_laws_markSegS_w_1) (mk1 := mk_laws_markSegS_w) (cn1 := cn_laws_markSegS_w) (l := l) (b_laws_markSegS_w hh) ?_ ?_]
  · rfl
  · intro i m l' x h hi hx hlx hm
    have hs := hh.2 x hx
    have ec : m + cn_laws_markSegS_w x = m + 1 + 1 + 1 + 9 * x.Items.length := by unfold cn_laws_markSegS_w; omega
    have q3 : x.Items.length ≤ 1048576 := hs.sItems.1
    have u3 : guardO (fun r : Int × (List TItem) => x.Items.length = r.2.length) (F_laws_markItemS_w x.Items ((m + 1 + 1 + 1 : Nat) : Int)) = some _ := guardO_of (p_laws_markItemS_w (m0 := m + 1 + 1 + 1) q3 (by omega)) (by simp)
    unfold S_laws_markSegS_w_1
    simp only [dlt h, if_true, at?_nat h, hlx, at?_set h, Option.bind_some, set'_nat, List.set_set, w64_succ (show i < 9223372036854775807 by omega), w64_succ (n := m) (by omega), w64_succ (n := m + 1) (by omega), w64_succ (n := m + 1 + 1) (by omega), u3]
    rw [ec]
    try rfl
  · intro m l' hl'
    unfold S_laws_markSegS_w_1
    simp [hl']
theorem p_laws_heldSegS {l : List TSeg} {m0 : Nat} (hh : l.length ≤ 1048576 ∧ ∀ y ∈ l, Sz_TSeg y) (hm0 : m0 ≤ 1099511627776) : F_laws_heldSegS (mkL mk_laws_markSegS_w cn_laws_markSegS_w m0 l) (m0 : Int) = some ((m0 + cnL cn_laws_markSegS_w l : Nat) : Int) := by
  have hl := hh.1
  have nn : ∀ n : Nat, ¬ ((n : Int) < 0) := fun n => by omega
  unfold F_laws_heldSegS
  rw [held_loop2 (step := S_laws_heldSegS_1 _) (r := Sum.inr) (mk1 := mk_laws_markSegS_w) (cn1 := cn_laws_markSegS_w) (l := l) (b_laws_markSegS_w hh) ?_ ?_]
  · simp
  · intro i m x h hi hx hlx hm
    have hs := hh.2 x hx
    have ec : m + cn_laws_markSegS_w x = m + 1 + 1 + 1 + 9 * x.Items.length := by unfold cn_laws_markSegS_w; omega
    have q3 : x.Items.length ≤ 1048576 := hs.sItems.1
    have u3 : F_laws_heldItemS (x.Items.mapIdx fun i y => mk_laws_markItemS_w (m + 1 + 1 + 1 + 9 * i) y) ((m + 1 + 1 + 1 : Nat) : Int) = some _ := p_laws_heldItemS (l := x.Items) (m0 := m + 1 + 1 + 1) q3 (by omega)
    unfold S_laws_heldSegS_1
    simp only [dlt h, if_true, at?_nat h, hlx, mk_laws_markSegS_w, Option.bind_some, w64_succ (show i < 9223372036854775807 by omega), w64_succ (n := m) (by omega), w64_succ (n := m + 1) (by omega), w64_succ (n := m + 1 + 1) (by omega), u3, bne_self_eq_false, beq_self_eq_true, Bool.not_true, Bool.false_eq_true, if_false, nn, decide_false]
    rw [ec]
    try rfl
  · intro m
    unfold S_laws_heldSegS_1
    simp
theorem p_laws_eqIntS {x : List Int} (h : x.length ≤ 1048576) : F_laws_eqIntS x x = some true := by
  unfold F_laws_eqIntS
  have hl := h
  have key : iter (S_laws_eqIntS_1 x x) 0 = some (.inr ()) := by
    refine iter_range (fun i => (i : Int)) x.length ?_ ?_
    · intro i hi
      unfold S_laws_eqIntS_1
      simp only [dlt hi, if_true, at?_nat hi, Option.bind_some, w64_succ (show i < 9223372036854775807 by omega)]
      try simp
    · unfold S_laws_eqIntS_1
      simp
  rw [key]
  simp
theorem p_laws_eqStore {x : TStore} (h : Sz_TStore x) : F_laws_eqStore x x = some true := by
  unfold F_laws_eqStore
  simp [p_laws_eqLog (x := x.Log) h.sLog, p_laws_eqIntS (x := x.Freed) h.sFreed]
noncomputable def mk_laws_markIntS_w (m : Nat) (_ : Int) : Int := ((m : Nat) : Int)
theorem p_laws_markIntS_w {l : List Int} {m0 : Nat} (hl : l.length ≤ 1048576) (hm0 : m0 ≤ 1125899906842624) : F_laws_markIntS_w l (m0 : Int) = some (((m0 + 1 * l.length : Nat) : Int), l.mapIdx fun i x => mk_laws_markIntS_w (m0 + 1 * i) x) := by
  unfold F_laws_markIntS_w
  rw [mark_loop (step := S_laws_markIntS_w_1) (k := 1) (g := mk_laws_markIntS_w) (l := l) ?_ ?_]
  · rfl
  · intro i m l' h hi hm
    unfold S_laws_markIntS_w_1
    simp only [dlt h, if_true, at?_nat h, at?_set h, Option.bind_some, set'_nat, List.set_set, w64_succ (show i < 9223372036854775807 by omega), w64_succ (show m < 9223372036854775807 by omega)]
    try rfl
  · intro m l' hl'
    unfold S_laws_markIntS_w_1
    simp [hl']
theorem p_laws_heldIntS {l : List Int} {m0 : Nat} (hl : l.length ≤ 1048576) (hm0 : m0 ≤ 1125899906842624) : F_laws_heldIntS (l.mapIdx fun i x => mk_laws_markIntS_w (m0 + 1 * i) x) (m0 : Int) = some ((m0 + 1 * l.length : Nat) : Int) := by
  unfold F_laws_heldIntS
  rw [held_loop (step := S_laws_heldIntS_1 _) (k := 1) (r := Sum.inr) (l := l.mapIdx fun i x => mk_laws_markIntS_w (m0 + 1 * i) x) (g := mk_laws_markIntS_w) ?_ ?_]
  · simp
  · intro i m h hm
    have hi : i < l.length := by simpa using h
    unfold S_laws_heldIntS_1
    simp only [dlt h, if_true, at?_nat h, List.getElem_mapIdx, ← hm, Option.bind_some, w64_succ (show i < 9223372036854775807 by omega), w64_succ (show m < 9223372036854775807 by omega)]
    simp [mk_laws_markIntS_w, Int.add_assoc]
  · intro m
    unfold S_laws_heldIntS_1
    simp
end Go.Proofs.YtcehlicmghnghaaGreat.V
/- Sectors read. -/
namespace Go.Proofs.YtcehlicmghnghaaGreat.V
open Go Go.RowKit
set_option maxRecDepth 100000

def hit (a : Int) (l : List TWrite) : Option TWrite := l.foldl (fun o w => if w.At == a then some w else o) none
theorem hit_append (a : Int) (l : List TWrite) (w : TWrite) : hit a (l ++ [w]) = if w.At == a then some w else hit a l := by
  unfold hit
  rw [List.foldl_append]; rfl
def secV (o : Option TWrite) (z : List UInt8) : List UInt8 := match o with | some w => w.Text | none => z
def rsec (d : TDisk) (a : Nat) : List UInt8 := secV (hit (a : Int) d.Cache) ((d.Sectors[a]?).getD [])
structure DkS (d : TDisk) : Prop where
  sec : d.Sectors.length ≤ 1048576 ∧ ∀ y ∈ d.Sectors, y.length ≤ 1048576
  cache : d.Cache.length ≤ 1048576 ∧ ∀ y ∈ d.Cache, y.Text.length ≤ 1048576
def readS (d : TDisk) (x : Int) : List UInt8 × Bool := if inR x 0 ((d.Sectors.length : Int) - 1) then (rsec d x.toNat, true) else ([], false)
theorem spec_readSector {d : TDisk} (h : DkS d) (x : Int) : F_spec_ReadSector d x = some (readS d x) := by
  have hs := h.sec.1
  have hc := h.cache.1
  unfold F_spec_ReadSector readS
  rw [w64_id (n := (d.Sectors.length : Int) - 1) (by omega) (by omega), spec_in, Option.bind_some]
  cases hr : inR x 0 ((d.Sectors.length : Int) - 1) with
  | false => rfl
  | true =>
    unfold inR at hr
    simp only [Bool.and_eq_true, decide_eq_true_eq] at hr
    obtain ⟨a, rfl⟩ : ∃ a : Nat, x = a := ⟨x.toNat, by omega⟩
    have ha : a < d.Sectors.length := by omega
    have key : ∀ n : Nat, n ≤ d.Cache.length → iter (S_spec_ReadSector_1 d (a : Int)) ((n : Int) - 1) = some (match hit (a : Int) (d.Cache.take n) with | some w => .inl (w.Text, true) | none => .inr ()) := by
      intro n
      induction n with
      | zero =>
        intro _
        refine iter_done ?_
        unfold S_spec_ReadSector_1
        simp [hit]
      | succ n ih =>
        intro hn
        have hn' : n < d.Cache.length := by omega
        have e0 : (((n + 1 : Nat) : Int) - 1) = (n : Int) := by omega
        rw [e0, List.take_succ_eq_append_getElem hn', hit_append]
        by_cases c : d.Cache[n].At = (a : Int)
        · refine iter_done ?_
          unfold S_spec_ReadSector_1
          rw [if_pos (by simp), at?_nat hn', Option.bind_some, if_pos (by simpa using c), if_pos (by simpa using c)]
          rfl
        · rw [iter_next (s' := ((n : Int) - 1)), ih (by omega), if_neg (by simpa using c)]
          unfold S_spec_ReadSector_1
          rw [if_pos (by simp), at?_nat hn', Option.bind_some, if_neg (by simpa using c), w64_id (by omega) (by omega)]
    rw [if_pos rfl, w64_id (n := (d.Cache.length : Int) - 1) (by omega) (by omega), key _ (Nat.le_refl _), List.take_length, Int.toNat_natCast]
    unfold rsec secV
    cases hit (a : Int) d.Cache with
    | some w => rfl
    | none => simp [at?_nat ha, ha]
theorem impl_readSector {d : TDisk} (h : DkS d) (x : Int) : F_impl_ReadSector d x = some (readS d x) := by
  have hs := h.sec.1
  have hc := h.cache.1
  unfold F_impl_ReadSector readS
  rw [w64_id (n := (d.Sectors.length : Int) - 1) (by omega) (by omega), impl_in, Option.bind_some]
  cases hr : inR x 0 ((d.Sectors.length : Int) - 1) with
  | false => rfl
  | true =>
    unfold inR at hr
    simp only [Bool.and_eq_true, decide_eq_true_eq] at hr
    obtain ⟨a, rfl⟩ : ∃ a : Nat, x = a := ⟨x.toNat, by omega⟩
    have ha : a < d.Sectors.length := by omega
    have key := iter_range (step := S_impl_ReadSector_1 d (a : Int)) (fun i => (secV (hit (a : Int) (d.Cache.take i)) d.Sectors[a], (i : Int))) d.Cache.length (r := secV (hit (a : Int) d.Cache) d.Sectors[a]) ?_ ?_
    · rw [if_pos rfl, at?_nat ha, Option.bind_some]
      rw [show ((secV (hit (a : Int) (d.Cache.take 0)) d.Sectors[a], ((0 : Nat) : Int)) : List UInt8 × Int) = (d.Sectors[a], 0) from rfl] at key
      rw [key, Option.bind_some, if_pos rfl, Int.toNat_natCast]
      unfold rsec
      rw [List.getElem?_eq_getElem ha]; rfl
    · intro i hi
      rw [List.take_succ_eq_append_getElem hi, hit_append]
      unfold S_impl_ReadSector_1
      rw [if_pos (dlt hi), at?_nat hi, Option.bind_some]
      by_cases c : d.Cache[i].At = (a : Int)
      · rw [if_pos (by simpa using c), if_pos (by simpa using c), w64_succ (by omega)]; rfl
      · rw [if_neg (by simpa using c), if_neg (by simpa using c), w64_succ (by omega)]
    · unfold S_impl_ReadSector_1
      rw [List.take_length]; simp
theorem readS_in {d : TDisk} {a : Nat} (h : a < d.Sectors.length) : readS d (a : Int) = (rsec d a, true) := by
  unfold readS
  rw [if_pos (by unfold inR; simp; omega)]; rfl
theorem readS_out {d : TDisk} {a : Nat} (h : d.Sectors.length ≤ a) : readS d (a : Int) = ([], false) := by
  unfold readS
  rw [if_neg (by unfold inR; simp; omega)]
end Go.Proofs.YtcehlicmghnghaaGreat.V
/- Disks: what is right, what is written, what is brought home. -/
namespace Go.Proofs.YtcehlicmghnghaaGreat.V
open Go Go.RowKit
set_option maxRecDepth 100000

theorem spec_copy {d : TDisk} (h : DkS d) : F_spec_l03Copy d = some d := by
  have h1 := h.sec.1
  have h2 := h.cache.1
  unfold F_spec_l03Copy
  rw [app?_ok (by simp; omega) (by simp; omega), Option.bind_some, app?_ok (by simp; omega) (by simp; omega), Option.bind_some]
  rfl
theorem impl_copy {d : TDisk} (h : DkS d) : F_impl_cloneDisk d = some d := by
  have h1 := h.sec.1
  have h2 := h.cache.1
  unfold F_impl_cloneDisk F_slices_Clone_string F_slices_Clone_Write
  rw [app?_ok (by simp; omega) (by simp; omega), Option.bind_some, app?_ok (by simp; omega) (by simp; omega), Option.bind_some]
  rfl
def wOk (n : Nat) (w : TWrite) : Bool := inR w.At 0 ((n : Int) - 1) && w.Text.length == 32
def diskOk (d : TDisk) : Bool := inR (d.Sectors.length : Int) 1 100 && (decide (d.Cache.length ≤ 60) && (d.Sectors.all (fun s => s.length == 32) && d.Cache.all (wOk d.Sectors.length)))
theorem diskOk_iff {d : TDisk} : diskOk d = true ↔ (1 ≤ d.Sectors.length ∧ d.Sectors.length ≤ 100) ∧ d.Cache.length ≤ 60 ∧ (∀ s ∈ d.Sectors, s.length = 32) ∧ ∀ w ∈ d.Cache, (0 ≤ w.At ∧ w.At ≤ (d.Sectors.length : Int) - 1) ∧ w.Text.length = 32 := by
  unfold diskOk wOk inR
  simp only [Bool.and_eq_true, decide_eq_true_eq, List.all_eq_true, beq_iff_eq]
  constructor
  · rintro ⟨h1, h2, h3, h4⟩
    exact ⟨by omega, h2, h3, h4⟩
  · rintro ⟨h1, h2, h3, h4⟩
    exact ⟨by omega, h2, h3, h4⟩
theorem any_not_all {α : Type} (l : List α) (p : α → Bool) : l.any (fun x => !p x) = !(l.all p) := by
  rw [List.all_eq_not_any_not, Bool.not_not]
theorem spec_diskOk {d : TDisk} (h : DkS d) : F_spec_DiskOk d = some (diskOk d) := by
  have h1 := h.sec.1
  have h2 := h.cache.1
  have a1 := any_loop (l := d.Sectors) (k := d.Sectors.length) (by omega) (q := fun s => !(s.length == 32)) (step := S_spec_DiskOk_1 d) (bad := .inl false) (good := .inr ()) (by
    intro i hi _
    unfold S_spec_DiskOk_1
    simp only [dlt hi, if_true, at?_nat hi, Option.bind_some, w64_succ (show i < 9223372036854775807 by omega)]
    by_cases c : d.Sectors[i].length = 32
    · rw [if_neg (by simp [c]), if_neg (by simp [c])]
    · rw [if_pos (by simp; omega), if_pos (by simpa using c)]) (by unfold S_spec_DiskOk_1; simp)
  have a2 := any_loop (l := d.Cache) (k := d.Cache.length) (by omega) (q := fun w => !(wOk d.Sectors.length w)) (step := S_spec_DiskOk_2 d) (bad := .inl false) (good := .inr ()) (by
    intro i hi _
    unfold S_spec_DiskOk_2 wOk
    simp only [dlt hi, if_true, at?_nat hi, Option.bind_some, spec_in, w64_id (n := (d.Sectors.length : Int) - 1) (by omega) (by omega), w64_succ (show i < 9223372036854775807 by omega)]
    cases inR d.Cache[i].At 0 ((d.Sectors.length : Int) - 1)
    · simp
    · by_cases c : d.Cache[i].Text.length = 32
      · simp [c]
      · have c' : ¬ ((d.Cache[i].Text.length : Int) = 32) := by omega
        simp [c, c']) (by unfold S_spec_DiskOk_2; simp)
  rw [List.take_length, any_not_all] at a1 a2
  unfold F_spec_DiskOk diskOk
  rw [spec_in, Option.bind_some]
  cases inR (d.Sectors.length : Int) 1 100 with
  | false => rfl
  | true =>
    rw [if_pos rfl]
    by_cases c : d.Cache.length ≤ 60
    · rw [if_neg (by simp; omega), Option.bind_some, if_neg (by simp), a1]
      cases d.Sectors.all (fun s => s.length == 32)
      · simp
      · simp only [Bool.not_true, Bool.false_eq_true, if_false, Option.bind_some, Sum.elim_inr, a2]
        cases d.Cache.all (wOk d.Sectors.length) <;> simp [c]
    · rw [if_pos (by simp; omega), Option.bind_some, if_pos rfl]
      simp [c]
theorem impl_diskOk {d : TDisk} (h : DkS d) : F_impl_DiskOk d = some (diskOk d) := by
  have h1 := h.sec.1
  have h2 := h.cache.1
  have a1 := p_slices_ContainsFunc_string_DiskOk_1 (x0 := d.Sectors) (q := fun s => !(s.length == 32)) (by omega) (fun s _ => by
    unfold F_impl_DiskOk_1
    by_cases c : s.length = 32
    · simp [c]
    · have c' : ¬ ((s.length : Int) = 32) := by omega
      rw [show ((s.length : Int) != 32) = true by simpa using c', show (s.length == 32) = false by simpa using c]; rfl)
  have a2 := p_slices_ContainsFunc_Write_DiskOk_2 (x0 := d.Cache) (x1 := d) (q := fun w => !(wOk d.Sectors.length w)) (by omega) (fun w _ => by
    unfold F_impl_DiskOk_2_w wOk
    rw [impl_in, Option.bind_some, w64_id (n := (d.Sectors.length : Int) - 1) (by omega) (by omega)]
    cases inR w.At 0 ((d.Sectors.length : Int) - 1)
    · simp
    · by_cases c : w.Text.length = 32
      · simp [c]
      · have c' : ¬ ((w.Text.length : Int) = 32) := by omega
        rw [if_pos rfl, show ((w.Text.length : Int) != 32) = true by simpa using c', show (w.Text.length == 32) = false by simpa using c]; rfl)
  rw [any_not_all] at a1 a2
  unfold F_impl_DiskOk diskOk
  rw [impl_in, Option.bind_some]
  cases inR (d.Sectors.length : Int) 1 100 with
  | false => rfl
  | true =>
    rw [if_pos rfl]
    by_cases c : d.Cache.length ≤ 60
    · rw [if_neg (by simp; omega), Option.bind_some, if_neg (by simp), a1, Option.bind_some]
      cases d.Sectors.all (fun s => s.length == 32)
      · simp
      · simp only [Bool.not_true, Bool.false_eq_true, if_false, a2, Option.bind_some]
        cases d.Cache.all (wOk d.Sectors.length) <;> simp [c]
    · rw [if_pos (by simp; omega), Option.bind_some, if_pos rfl]
      simp [c]

/-! ### one sector -/
def wr (d : TDisk) (k : Int) (t : List UInt8) : Option TDisk := if diskOk d && (inR k 0 ((d.Sectors.length : Int) - 1) && (t.length == 32 && decide (d.Cache.length < 60))) then some { Sectors := d.Sectors, Cache := d.Cache ++ [{ At := k, Text := t }] } else none
def wrR (d : TDisk) (o : Option TDisk) : TDisk × Bool := match o with
  | some d' => (d', true)
  | none => (d, false)
theorem wr_ok {d d' : TDisk} {k : Int} {t : List UInt8} (h : wr d k t = some d') : diskOk d' = true ∧ d'.Sectors = d.Sectors := by
  unfold wr at h
  split at h
  · rename_i hc
    cases h
    simp only [Bool.and_eq_true, decide_eq_true_eq, beq_iff_eq] at hc
    obtain ⟨h1, h2, h3, h4⟩ := hc
    obtain ⟨g1, g2, g3, g4⟩ := diskOk_iff.1 h1
    unfold inR at h2
    simp only [Bool.and_eq_true, decide_eq_true_eq] at h2
    refine ⟨diskOk_iff.2 ⟨g1, by simp; omega, g3, ?_⟩, rfl⟩
    intro w hw
    rcases List.mem_append.1 hw with hw | hw
    · exact g4 w hw
    · rw [List.mem_singleton] at hw; subst hw
      exact ⟨h2, h3⟩
  · cases h
theorem DkS.ofOk {d : TDisk} (h : diskOk d = true) : DkS d := by
  obtain ⟨h1, h2, h3, h4⟩ := diskOk_iff.1 h
  exact ⟨⟨by omega, fun y hy => by rw [h3 y hy]; omega⟩, by omega, fun y hy => by rw [(h4 y hy).2]; omega⟩
theorem spec_wr {d : TDisk} (h : DkS d) (k : Int) (t : List UInt8) : F_spec_WriteSector d k t = some (wrR d (wr d k t)) := by
  have h1 := h.sec.1
  have h2 := h.cache.1
  unfold F_spec_WriteSector wr
  rw [spec_copy h, Option.bind_some, spec_diskOk h, Option.bind_some]
  cases diskOk d with
  | false => rfl
  | true =>
    rw [if_pos rfl, spec_in, Option.bind_some, w64_id (n := (d.Sectors.length : Int) - 1) (by omega) (by omega)]
    cases inR k 0 ((d.Sectors.length : Int) - 1) with
    | false => rfl
    | true =>
      rw [if_pos rfl]
      by_cases c : t.length = 32
      · rw [if_neg (by simp [c])]
        by_cases e : d.Cache.length < 60
        · rw [if_neg (by simp; omega), Option.bind_some, if_neg (by simp), app?_ok (by simp; omega) (by simp; omega)]
          simp [c, e, wrR]
        · rw [if_pos (by simp; omega), Option.bind_some, if_pos rfl]
          simp [e, wrR]
      · rw [if_pos (by simp; omega), Option.bind_some, if_pos rfl]
        simp [c, wrR]
theorem impl_wr {d : TDisk} (h : DkS d) {k : Int} {t : List UInt8} (ht : t.length ≤ 1048576) (hc : d.Cache.length ≤ 1000) : F_impl_WriteSector d k t = some (wrR d (wr d k t)) := by
  have h1 := h.sec.1
  unfold F_impl_WriteSector wr
  rw [impl_copy h, Option.bind_some, app?_ok (by simp; omega) (by simp; omega), Option.bind_some, impl_diskOk h, Option.bind_some]
  cases hd : diskOk d with
  | false => rfl
  | true =>
    have h' : DkS { Sectors := d.Sectors, Cache := d.Cache ++ [{ At := k, Text := t }] } := by
      refine ⟨h.sec, by simp; omega, ?_⟩
      intro y hy
      rcases List.mem_append.1 hy with hy | hy
      · exact h.cache.2 y hy
      · rw [List.mem_singleton] at hy; subst hy; exact ht
    obtain ⟨g1, g2, g3, g4⟩ := diskOk_iff.1 hd
    rw [if_pos rfl, impl_diskOk h', Option.bind_some]
    have e : diskOk { Sectors := d.Sectors, Cache := d.Cache ++ [{ At := k, Text := t }] } = (inR k 0 ((d.Sectors.length : Int) - 1) && (t.length == 32 && decide (d.Cache.length < 60))) := by
      rw [Bool.eq_iff_iff, diskOk_iff]
      unfold inR
      simp only [Bool.and_eq_true, decide_eq_true_eq, beq_iff_eq, List.length_append, List.length_singleton]
      constructor
      · rintro ⟨_, k2, _, k4⟩
        have := k4 _ (List.mem_append_right _ (List.mem_singleton.2 rfl))
        exact ⟨this.1, this.2, by omega⟩
      · rintro ⟨k1, k2, k3⟩
        refine ⟨g1, by omega, g3, ?_⟩
        intro w hw
        rcases List.mem_append.1 hw with hw | hw
        · exact g4 w hw
        · rw [List.mem_singleton] at hw; subst hw; exact ⟨k1, k2⟩
    rw [e]
    cases (inR k 0 ((d.Sectors.length : Int) - 1) && (t.length == 32 && decide (d.Cache.length < 60))) with
    | false => simp [impl_copy h, wrR]
    | true => simp [wrR]

/-! ### home -/
def setW (s : List (List UInt8)) (w : TWrite) : List (List UInt8) := s.set w.At.toNat w.Text
def flush (d : TDisk) : TDisk := if diskOk d then { Sectors := d.Cache.foldl setW d.Sectors, Cache := [] } else d
theorem fold_len : ∀ (l : List TWrite) (s : List (List UInt8)), (l.foldl setW s).length = s.length
  | [], s => rfl
  | w :: l, s => by rw [List.foldl_cons, fold_len l]; simp [setW]
theorem fold_mem : ∀ (l : List TWrite) (s : List (List UInt8)), (∀ w ∈ l, w.Text.length = 32) → (∀ x ∈ s, x.length = 32) → ∀ x ∈ l.foldl setW s, x.length = 32
  | [], s, _, h, x, hx => h x hx
  | w :: l, s, hl, h, x, hx => by
    rw [List.foldl_cons] at hx
    refine fold_mem l _ (fun w hw => hl w (List.mem_cons_of_mem _ hw)) ?_ x hx
    intro y hy
    unfold setW at hy
    rcases List.mem_or_eq_of_mem_set hy with hy | hy
    · exact h y hy
    · rw [hy]; exact hl w List.mem_cons_self
theorem flush_ok {d : TDisk} (h : diskOk d = true) : diskOk (flush d) = true := by
  obtain ⟨h1, h2, h3, h4⟩ := diskOk_iff.1 h
  unfold flush
  rw [if_pos h]
  refine diskOk_iff.2 ⟨by rw [fold_len]; exact h1, by simp, fold_mem _ _ (fun w hw => (h4 w hw).2) h3, by simp⟩
theorem flush_loop {d : TDisk} (h : diskOk d = true) {step : Int × List (List UInt8) → Option ((Int × List (List UInt8)) ⊕ List (List UInt8))}
    (h1 : ∀ (i : Nat) (o : List (List UInt8)) (hi : i < d.Cache.length), o.length = d.Sectors.length → step ((i : Int), o) = some (.inl (((i + 1 : Nat) : Int), setW o d.Cache[i])))
    (h2 : ∀ o, step ((d.Cache.length : Int), o) = some (.inr o)) : iter step (0, d.Sectors) = some (d.Cache.foldl setW d.Sectors) := by
  have := iter_range (step := step) (fun i => ((i : Int), (d.Cache.take i).foldl setW d.Sectors)) d.Cache.length (r := d.Cache.foldl setW d.Sectors) ?_ ?_
  · simpa using this
  · intro i hi
    rw [h1 i _ hi (fold_len _ _), List.take_succ_eq_append_getElem hi, List.foldl_append]; rfl
  · rw [h2, List.take_length]
theorem spec_flush {d : TDisk} (h : DkS d) : F_spec_FlushDisk d = some (flush d) := by
  have h2 := h.cache.1
  unfold F_spec_FlushDisk flush
  rw [spec_copy h, Option.bind_some, spec_diskOk h, Option.bind_some]
  by_cases c : diskOk d = true
  · rw [if_pos c, if_pos c, flush_loop c]
    · rfl
    · intro i o hi ho
      have hw := (diskOk_iff.1 c).2.2.2 _ (List.getElem_mem hi)
      obtain ⟨n, hn⟩ : ∃ n : Nat, d.Cache[i].At = n := ⟨d.Cache[i].At.toNat, by omega⟩
      unfold S_spec_FlushDisk_1 setW
      rw [if_pos (dlt hi), at?_nat hi, Option.bind_some, Option.bind_some, hn, at?_nat (show n < o.length by omega), Option.bind_some, Option.bind_some, set'_nat, w64_succ (by omega), Int.toNat_natCast]
    · intro o; unfold S_spec_FlushDisk_1; simp
  · rw [if_neg c, if_neg c]
theorem impl_flush {d : TDisk} (h : DkS d) : F_impl_FlushDisk d = some (flush d) := by
  have h2 := h.cache.1
  unfold F_impl_FlushDisk flush
  rw [impl_copy h, Option.bind_some, impl_diskOk h, Option.bind_some]
  by_cases c : diskOk d = true
  · rw [if_pos c, if_pos c, flush_loop c]
    · rfl
    · intro i o hi ho
      have hw := (diskOk_iff.1 c).2.2.2 _ (List.getElem_mem hi)
      obtain ⟨n, hn⟩ : ∃ n : Nat, d.Cache[i].At = n := ⟨d.Cache[i].At.toNat, by omega⟩
      unfold S_impl_FlushDisk_1 setW
      rw [if_pos (dlt hi), at?_nat hi, Option.bind_some, hn, at?_nat (show n < o.length by omega), Option.bind_some, Option.bind_some, set'_nat, w64_succ (by omega), Int.toNat_natCast]
    · intro o; unfold S_impl_FlushDisk_1; simp
  · rw [if_neg c, if_neg c]
end Go.Proofs.YtcehlicmghnghaaGreat.V
/- What a check must be, and its text. -/
namespace Go.Proofs.YtcehlicmghnghaaGreat.V
open Go Go.RowKit
set_option maxRecDepth 100000

def lastG (l : List TRef) : Nat → Int
  | 0 => 0
  | i + 1 => match l[i]? with | some r => r.Gen | none => 0
theorem lastG_succ {l : List TRef} {i : Nat} (h : i < l.length) : lastG l (i + 1) = l[i].Gen := by simp [lastG, h]
def anyNo (l : List TRef) (n : Int) : Bool := l.any fun q => q.No == n
def okS (l : List TRef) (ng : Int) (i : Nat) : Bool := match l[i]? with
  | some r => inR r.No 0 10 && inR r.Gen 1 (w64 (ng - 1)) && (i == 0 || decide (lastG l i < r.Gen)) && !anyNo (l.take i) r.No
  | none => true
def okI (l : List TRef) (ng : Int) (i : Nat) : Bool := match l[i]? with
  | some r => inR r.Gen (w64 (lastG l i + 1)) (w64 (ng - 1)) && inR r.No 0 10 && !anyNo (l.take i) r.No
  | none => true
theorem inR_iff {n lo hi : Int} : inR n lo hi = true ↔ lo ≤ n ∧ n ≤ hi := by unfold inR; simp
/-- Both look at the same. -/
theorem ok_same {l : List TRef} {ng : Int} (h : 1 ≤ ng) (h' : ng ≤ 1000000000) : (List.range l.length).all (okS l ng) = (List.range l.length).all (okI l ng) := by
  have hw : w64 (ng - 1) = ng - 1 := w64_id (by omega) (by omega)
  rw [Bool.eq_iff_iff, List.all_eq_true, List.all_eq_true]
  constructor
  · intro hs i hi
    have hi' := List.mem_range.1 hi
    have h1 := hs i hi
    unfold okS at h1
    unfold okI
    rw [List.getElem?_eq_getElem hi'] at h1 ⊢
    simp only [Bool.and_eq_true, inR_iff, hw] at h1 ⊢
    obtain ⟨⟨⟨a, b⟩, c⟩, d⟩ := h1
    refine ⟨⟨⟨?_, b.2⟩, a⟩, d⟩
    cases i with
    | zero => simp only [lastG]; rw [w64_id (by omega) (by omega)]; omega
    | succ j =>
      have h2 := hs j (List.mem_range.2 (by omega))
      unfold okS at h2
      rw [List.getElem?_eq_getElem (by omega)] at h2
      simp only [Bool.and_eq_true, inR_iff, hw] at h2
      rw [lastG_succ (by omega)] at c ⊢
      simp at c
      rw [w64_id (by omega) (by omega)]; omega
  · intro hs
    have key : ∀ i, i < l.length → okS l ng i = true := by
      intro i
      induction i with
      | zero =>
        intro hi
        have h1 := hs 0 (List.mem_range.2 hi)
        unfold okI at h1
        unfold okS
        rw [List.getElem?_eq_getElem hi] at h1 ⊢
        simp only [Bool.and_eq_true, inR_iff, hw, lastG] at h1 ⊢
        rw [w64_id (by omega) (by omega)] at h1
        obtain ⟨⟨a, b⟩, c⟩ := h1
        exact ⟨⟨⟨b, by omega, a.2⟩, by simp⟩, c⟩
      | succ j ih =>
        intro hi
        have h1 := hs (j + 1) (List.mem_range.2 hi)
        have h2 := ih (by omega)
        unfold okI at h1
        unfold okS at h2 ⊢
        rw [List.getElem?_eq_getElem hi] at h1 ⊢
        rw [List.getElem?_eq_getElem (by omega)] at h2
        simp only [Bool.and_eq_true, inR_iff, hw] at h1 h2 ⊢
        rw [lastG_succ (by omega)] at h1 ⊢
        rw [w64_id (by omega) (by omega)] at h1
        obtain ⟨⟨a, b⟩, c⟩ := h1
        exact ⟨⟨⟨b, by omega, a.2⟩, by simp; omega⟩, c⟩
    exact fun i hi => key i (List.mem_range.1 hi)

def stamps (c : TCheck) : Bool := inR c.Stamp 1 1000000000 && inR c.NextGen 1 1000000000 && inR c.NextSeq 1 1000000000 && inR c.NextValid 1 1000000000
def checkOk (c : TCheck) : Bool := stamps c && inR c.Refs.length 1 11 && (List.range c.Refs.length).all (okS c.Refs c.NextGen)

theorem spec_checkOk {c : TCheck} (h : c.Refs.length ≤ 1048576) : F_spec_CheckOk c = some (checkOk c) := by
  have hl : iter (S_spec_CheckOk_1 c) 0 = some (if (List.range c.Refs.length).all (okS c.Refs c.NextGen) then .inr () else .inl false) := by
    refine iter_all (fun i => (i : Int)) c.Refs.length _ ?_ ?_ ?_
    all_goals first
      | (unfold S_spec_CheckOk_1; simp; done)
      | skip
    all_goals
      intro i hi hp
      have inner : iter (S_spec_CheckOk_2 c (i : Int) c.Refs[i]) 0 = some (if anyNo (c.Refs.take i) c.Refs[i].No then .inl false else .inr ()) := by
        refine any_loop (by omega) ?_ ?_
        · intro j hj hji
          unfold S_spec_CheckOk_2
          simp only [dlt hji, if_true, at?_nat hj, Option.bind_some, w64_succ (show j < 9223372036854775807 by omega)]
        · unfold S_spec_CheckOk_2
          simp
      have hprev : (if decide ((i : Int) > 0) then (at? c.Refs (w64 ((i : Int) - 1))).bind fun v13 => (if decide (v13.Gen ≥ c.Refs[i].Gen) then some true else some false) else some false) = some (!(i == 0 || decide (lastG c.Refs i < c.Refs[i].Gen))) := by
        cases i with
        | zero => simp
        | succ j =>
          have e : w64 (((j + 1 : Nat) : Int) - 1) = (j : Int) := by rw [w64_id (by omega) (by omega)]; omega
          rw [if_pos (by simp), e, at?_nat (show j < c.Refs.length by omega), lastG_succ (by omega)]
          simp only [Option.bind_some]
          by_cases hc : c.Refs[j].Gen < c.Refs[j + 1].Gen
          · rw [if_neg (by simpa using hc)]; simp [hc]
          · rw [if_pos (by simp; omega)]; simp [hc]
      unfold okS at hp
      rw [List.getElem?_eq_getElem hi] at hp
      dsimp only at hp
      unfold S_spec_CheckOk_1
      simp only [dlt hi, if_true, at?_nat hi, Option.bind_some, spec_in, inner, hprev]
      generalize inR c.Refs[i].No 0 10 = b1 at hp ⊢
      generalize inR c.Refs[i].Gen 1 (w64 (c.NextGen - 1)) = b2 at hp ⊢
      generalize (i == 0 || decide (lastG c.Refs i < c.Refs[i].Gen)) = b3 at hp ⊢
      generalize anyNo (c.Refs.take i) c.Refs[i].No = b4 at hp ⊢
      revert hp
      cases b1 <;> cases b2 <;> cases b3 <;> cases b4 <;> simp [w64_succ (show i < 9223372036854775807 by omega)]
  unfold F_spec_CheckOk checkOk stamps
  simp only [spec_in, hl, Option.bind_some]
  cases inR c.Stamp 1 1000000000 <;> cases inR c.NextGen 1 1000000000 <;> cases inR c.NextSeq 1 1000000000 <;> cases inR c.NextValid 1 1000000000 <;> cases inR (c.Refs.length : Int) 1 11 <;> cases (List.range c.Refs.length).all (okS c.Refs c.NextGen) <;> simp
theorem impl_checkOk {c : TCheck} (h : c.Refs.length ≤ 1048576) : F_impl_CheckOk c = some (checkOk c) := by
  have hs : iter (S_impl_CheckOk_1 c) 0 = some (if stamps c then .inr () else .inl false) := by
    have e1 : iter (S_impl_CheckOk_1 c) 0 = some (if ([c.Stamp, c.NextGen, c.NextSeq, c.NextValid].take 4).any (fun n => !inR n 1 1000000000) then .inl false else .inr ()) := by
      refine any_loop (by simp) ?_ ?_
      · intro i hi _
        unfold S_impl_CheckOk_1
        simp only [dlt hi, if_true, at?_nat hi, Option.bind_some, impl_in, w64_succ (show i < 9223372036854775807 by simp at hi; omega)]
        cases inR [c.Stamp, c.NextGen, c.NextSeq, c.NextValid][i] 1 1000000000 <;> simp
      · unfold S_impl_CheckOk_1
        simp
    rw [e1]
    unfold stamps
    simp
    cases inR c.Stamp 1 1000000000 <;> cases inR c.NextGen 1 1000000000 <;> cases inR c.NextSeq 1 1000000000 <;> cases inR c.NextValid 1 1000000000 <;> simp
  have hl : iter (S_impl_CheckOk_2 c) (0, 0) = some (if (List.range c.Refs.length).all (okI c.Refs c.NextGen) then .inr () else .inl false) := by
    refine iter_all (fun i => (lastG c.Refs i, (i : Int))) c.Refs.length _ ?_ ?_ ?_
    all_goals first
      | (unfold S_impl_CheckOk_2; simp; done)
      | skip
    all_goals
      intro i hi hp
      have hc := p_slices_ContainsFunc_Ref_CheckOk_1 (x0 := c.Refs.take i) (x1 := c.Refs[i]) (q := fun q => q.No == c.Refs[i].No) (by simp; omega) (fun y _ => rfl)
      unfold okI at hp
      rw [List.getElem?_eq_getElem hi] at hp
      dsimp only at hp
      unfold S_impl_CheckOk_2
      simp only [dlt hi, if_true, at?_nat hi, Option.bind_some, impl_in, sub?_take (Nat.le_of_lt hi), hc, lastG_succ hi]
      unfold anyNo at hp
      generalize inR c.Refs[i].No 0 10 = b1 at hp ⊢
      generalize inR c.Refs[i].Gen (w64 (lastG c.Refs i + 1)) (w64 (c.NextGen - 1)) = b2 at hp ⊢
      generalize (c.Refs.take i).any (fun q => q.No == c.Refs[i].No) = b4 at hp ⊢
      revert hp
      cases b1 <;> cases b2 <;> cases b4 <;> simp [w64_succ (show i < 9223372036854775807 by omega)]
  unfold F_impl_CheckOk checkOk
  rw [hs]
  cases hst : stamps c with
  | false => simp
  | true =>
    have hng : 1 ≤ c.NextGen ∧ c.NextGen ≤ 1000000000 := by
      unfold stamps at hst
      simp only [Bool.and_eq_true, inR_iff] at hst
      exact hst.1.1.2
    simp only [if_true, Option.bind_some, Sum.elim_inr, impl_in, hl, ok_same hng.1 hng.2]
    cases inR (c.Refs.length : Int) 1 11 <;> cases (List.range c.Refs.length).all (okI c.Refs c.NextGen) <;> simp
end Go.Proofs.YtcehlicmghnghaaGreat.V
/- What a record must be, and its text; frames. -/
namespace Go.Proofs.YtcehlicmghnghaaGreat.V
open Go Go.RowKit



end Go.Proofs.YtcehlicmghnghaaGreat.V
/- The text of a record; frames; sizes. -/
namespace Go.Proofs.YtcehlicmghnghaaGreat.V
open Go Go.RowKit

def short (s : List UInt8) : List UInt8 := vt s.length ++ s
theorem spec_short {s : List UInt8} (h : s.length ≤ 1048576) : F_spec_l06Short s = some (short s) := by
  unfold F_spec_l06Short
  have := vt_len (n := s.length) (by omega)
  rw [spec_var (by omega) (by omega), Option.bind_some, cat?_ok (by omega)]
  rfl
end Go.Proofs.YtcehlicmghnghaaGreat.V
/- The text of a check. -/
namespace Go.Proofs.YtcehlicmghnghaaGreat.V
open Go Go.RowKit
set_option maxRecDepth 100000

def ctHead (c : TCheck) : List UInt8 := vt c.Stamp ++ vt c.NextGen ++ vt c.NextSeq ++ vt c.NextValid ++ vt c.Refs.length
def refT (r : TRef) : List UInt8 := vt r.No ++ vt r.Gen
def ctBody (c : TCheck) : List UInt8 := ctHead c ++ c.Refs.flatMap refT
def ctOut (c : TCheck) : List UInt8 := short (ctBody c ++ sealL (ctBody c))
def checkText (c : TCheck) : List UInt8 × Bool := if checkOk c then (if 128 < (ctOut c).length then ([], false) else (ctOut c, true)) else ([], false)
theorem checkOk_rng {c : TCheck} (h : checkOk c = true) : ((1 ≤ c.Stamp ∧ c.Stamp ≤ 1000000000) ∧ (1 ≤ c.NextGen ∧ c.NextGen ≤ 1000000000) ∧ (1 ≤ c.NextSeq ∧ c.NextSeq ≤ 1000000000) ∧ (1 ≤ c.NextValid ∧ c.NextValid ≤ 1000000000)) ∧ (1 ≤ c.Refs.length ∧ c.Refs.length ≤ 11) ∧ ∀ r ∈ c.Refs, (0 ≤ r.No ∧ r.No ≤ 10) ∧ 1 ≤ r.Gen ∧ r.Gen ≤ 1000000000 := by
  unfold checkOk stamps at h
  simp only [Bool.and_eq_true, inR_iff] at h
  obtain ⟨⟨⟨⟨⟨h1, h2⟩, h3⟩, h4⟩, h5⟩, h6⟩ := h
  refine ⟨⟨h1, h2, h3, h4⟩, by omega, ?_⟩
  intro r hr
  obtain ⟨i, hi⟩ := List.getElem?_of_mem hr
  have h7 := List.all_eq_true.1 h6 i (List.mem_range.2 (List.getElem?_eq_some_iff.1 hi).1)
  unfold okS at h7
  rw [hi] at h7
  simp only [Bool.and_eq_true, inR_iff] at h7
  rw [w64_id (by omega) (by omega)] at h7
  obtain ⟨⟨⟨a, b⟩, _⟩, _⟩ := h7
  omega
theorem refT_len {r : TRef} (h : (0 ≤ r.No ∧ r.No ≤ 10) ∧ 1 ≤ r.Gen ∧ r.Gen ≤ 1000000000) : (refT r).length ≤ 22 := by
  have l1 := vt_len (n := r.No) (by omega)
  have l2 := vt_len (n := r.Gen) (by omega)
  unfold refT
  simp; omega
theorem fm_len {α : Type} {f : α → List UInt8} {k : Nat} : ∀ (l : List α), (∀ x ∈ l, (f x).length ≤ k) → (l.flatMap f).length ≤ k * l.length
  | [], _ => by simp
  | x :: l, h => by
    have h1 := fm_len l (fun y hy => h y (by simp [hy]))
    have h2 := h x (by simp)
    simp only [List.flatMap_cons, List.length_append, List.length_cons, Nat.mul_succ]
    omega
theorem ctHead_len {c : TCheck} (h : checkOk c = true) : (ctHead c).length ≤ 55 := by
  obtain ⟨⟨h1, h2, h3, h4⟩, h5, _⟩ := checkOk_rng h
  have l1 := vt_len (n := c.Stamp) (by omega)
  have l2 := vt_len (n := c.NextGen) (by omega)
  have l3 := vt_len (n := c.NextSeq) (by omega)
  have l4 := vt_len (n := c.NextValid) (by omega)
  have l5 := vt_len (n := c.Refs.length) (by omega)
  unfold ctHead
  simp; omega
theorem ctBody_len {c : TCheck} (h : checkOk c = true) : (ctBody c).length ≤ 297 := by
  have h1 := ctHead_len h
  obtain ⟨_, h5, h6⟩ := checkOk_rng h
  have h2 := fm_len (f := refT) (k := 22) c.Refs (fun r hr => refT_len (h6 r hr))
  unfold ctBody
  simp only [List.length_append]
  omega
/-- Something for each, one behind the other. -/
theorem cat_loop {α : Type} {l : List α} {f : α → List UInt8} {step : List UInt8 × Int → Option ((List UInt8 × Int) ⊕ List UInt8)} {y : List UInt8} {b : Nat}
    (hb : ∀ i, i ≤ l.length → (y ++ (l.take i).flatMap f).length ≤ b)
    (h1 : ∀ (i : Nat) (h : i < l.length) (a : List UInt8), a.length ≤ b → step (a, (i : Int)) = some (.inl (a ++ f l[i], ((i + 1 : Nat) : Int))))
    (h2 : ∀ a, step (a, (l.length : Int)) = some (.inr a)) : iter step (y, 0) = some (y ++ l.flatMap f) := by
  have := iter_range (step := step) (fun i => (y ++ (l.take i).flatMap f, (i : Int))) l.length (r := y ++ l.flatMap f) ?_ ?_
  · simpa using this
  · intro i hi
    rw [h1 i hi _ (hb i (by omega)), List.take_succ_eq_append_getElem hi, List.flatMap_append, List.append_assoc]
    simp
  · rw [h2]; simp
theorem spec_checkText {c : TCheck} (h : c.Refs.length ≤ 1048576) : F_spec_CheckText c = some (checkText c) := by
  unfold F_spec_CheckText checkText
  rw [spec_checkOk h, Option.bind_some]
  cases hk : checkOk c with
  | false => rfl
  | true =>
    obtain ⟨⟨h1, h2, h3, h4⟩, h5, h6⟩ := checkOk_rng hk
    have l1 := vt_len (n := c.Stamp) (by omega)
    have l2 := vt_len (n := c.NextGen) (by omega)
    have l3 := vt_len (n := c.NextSeq) (by omega)
    have l4 := vt_len (n := c.NextValid) (by omega)
    have l5 := vt_len (n := c.Refs.length) (by omega)
    have lb := ctBody_len hk
    have hl : iter (S_spec_CheckText_1 c) (ctHead c, 0) = some (ctBody c) := by
      refine cat_loop (l := c.Refs) (f := refT) (b := 297) ?_ ?_ ?_
      · intro i hi
        have h7 := fm_len (f := refT) (k := 22) (c.Refs.take i) (fun r hr => refT_len (h6 r (List.mem_of_mem_take hr)))
        have h8 := ctHead_len hk
        simp only [List.length_append, List.length_take] at h7 ⊢
        omega
      · intro i hi a ha
        have hr := h6 _ (List.getElem_mem hi)
        have q1 := vt_len (n := c.Refs[i].No) (by omega)
        have q2 := vt_len (n := c.Refs[i].Gen) (by omega)
        unfold S_spec_CheckText_1
        simp only [dlt hi, if_true, at?_nat hi, Option.bind_some, w64_succ (show i < 9223372036854775807 by omega)]
        rw [spec_var (by omega) (by omega), Option.bind_some, cat?_ok (by omega), Option.bind_some, spec_var (by omega) (by omega), Option.bind_some, cat?_ok (by simp; omega), Option.bind_some]
        simp [refT]
      · intro a
        unfold S_spec_CheckText_1
        simp
    simp only [if_true]
    rw [spec_var (by omega) (by omega), Option.bind_some, spec_var (by omega) (by omega), Option.bind_some, cat?_ok (by omega), Option.bind_some, spec_var (by omega) (by omega), Option.bind_some, cat?_ok (by simp; omega), Option.bind_some, spec_var (by omega) (by omega), Option.bind_some, cat?_ok (by simp; omega), Option.bind_some, spec_var (by omega) (by omega), Option.bind_some, cat?_ok (by simp; omega), Option.bind_some]
    rw [show vt c.Stamp ++ vt c.NextGen ++ vt c.NextSeq ++ vt c.NextValid ++ vt c.Refs.length = ctHead c from rfl, hl, Option.bind_some, spec_sealed (by omega), Option.bind_some]
    unfold sealed
    rw [if_neg (by omega)]
    simp only []
    rw [spec_short (by rw [List.length_append, sealL_len]; omega), Option.bind_some]
    show _ = some (if 128 < (ctOut c).length then ([], false) else (ctOut c, true))
    unfold ctOut
    by_cases hc : 128 < (short (ctBody c ++ sealL (ctBody c))).length
    · have hc' : (128 : Int) < ((short (ctBody c ++ sealL (ctBody c))).length : Int) := by omega
      rw [if_pos hc]; simp [hc']
    · have hc' : ¬ (128 : Int) < ((short (ctBody c ++ sealL (ctBody c))).length : Int) := by omega
      rw [if_neg hc]; simp [hc']
theorem impl_checkText {c : TCheck} (h : c.Refs.length ≤ 1048576) : F_impl_CheckText c = some (checkText c) := by
  unfold F_impl_CheckText checkText
  rw [impl_checkOk h, Option.bind_some]
  cases hk : checkOk c with
  | false => rfl
  | true =>
    obtain ⟨⟨h1, h2, h3, h4⟩, h5, h6⟩ := checkOk_rng hk
    have l1 := vt_len (n := c.Stamp) (by omega)
    have l2 := vt_len (n := c.NextGen) (by omega)
    have l3 := vt_len (n := c.NextSeq) (by omega)
    have l4 := vt_len (n := c.NextValid) (by omega)
    have l5 := vt_len (n := c.Refs.length) (by omega)
    have lb := ctBody_len hk
    have hl : iter (S_impl_CheckText_1 c) (ctHead c, 0) = some (ctBody c) := by
      refine cat_loop (l := c.Refs) (f := refT) (b := 297) ?_ ?_ ?_
      · intro i hi
        have h7 := fm_len (f := refT) (k := 22) (c.Refs.take i) (fun r hr => refT_len (h6 r (List.mem_of_mem_take hr)))
        have h8 := ctHead_len hk
        simp only [List.length_append, List.length_take] at h7 ⊢
        omega
      · intro i hi a ha
        have hr := h6 _ (List.getElem_mem hi)
        have q1 := vt_len (n := c.Refs[i].No) (by omega)
        have q2 := vt_len (n := c.Refs[i].Gen) (by omega)
        unfold S_impl_CheckText_1
        simp only [dlt hi, if_true, at?_nat hi, Option.bind_some, w64_succ (show i < 9223372036854775807 by omega)]
        rw [impl_var (by omega) (by omega), Option.bind_some, impl_var (by omega) (by omega), Option.bind_some, cat?_ok (by omega), Option.bind_some, cat?_ok (by simp; omega), Option.bind_some]
        simp [refT]
      · intro a
        unfold S_impl_CheckText_1
        simp
    simp only [if_true]
    rw [impl_var (by omega) (by omega), Option.bind_some, impl_var (by omega) (by omega), Option.bind_some, cat?_ok (by omega), Option.bind_some, impl_var (by omega) (by omega), Option.bind_some, cat?_ok (by simp; omega), Option.bind_some, impl_var (by omega) (by omega), Option.bind_some, cat?_ok (by simp; omega), Option.bind_some, impl_var (by omega) (by omega), Option.bind_some, cat?_ok (by simp; omega), Option.bind_some]
    rw [show vt c.Stamp ++ vt c.NextGen ++ vt c.NextSeq ++ vt c.NextValid ++ vt c.Refs.length = ctHead c from rfl, hl, Option.bind_some, impl_seal (by omega), Option.bind_some, cat?_ok (by rw [sealL_len]; omega), Option.bind_some]
    have e4 : (ctBody c ++ sealL (ctBody c)).length = (ctBody c).length + 4 := by rw [List.length_append, sealL_len]
    have q1 := vt_len (n := ((ctBody c ++ sealL (ctBody c)).length : Nat)) (by omega)
    rw [impl_var (by omega) (by omega), Option.bind_some, cat?_ok (by omega), Option.bind_some]
    show _ = some (if 128 < (ctOut c).length then ([], false) else (ctOut c, true))
    rw [show vt ((ctBody c ++ sealL (ctBody c)).length : Nat) ++ (ctBody c ++ sealL (ctBody c)) = ctOut c from rfl]
    by_cases hc : 128 < (ctOut c).length
    · rw [if_pos hc, if_pos (by simp; omega)]
    · rw [if_neg hc, if_neg (by simp; omega)]
end Go.Proofs.YtcehlicmghnghaaGreat.V
/- Numbers, words and seals that are read. -/
namespace Go.Proofs.YtcehlicmghnghaaGreat.V
open Go Go.RowKit
set_option maxRecDepth 100000



end Go.Proofs.YtcehlicmghnghaaGreat.V
/- Checks that are read. -/
namespace Go.Proofs.YtcehlicmghnghaaGreat.V
open Go Go.RowKit
set_option maxRecDepth 100000

/-! ### words with their length ahead, and seals -/
theorem sub?_mid {α : Type} {l : List α} {i n : Nat} (h : i + n ≤ l.length) : sub? l (i : Int) ((i + n : Nat) : Int) = some ((l.drop i).take n) := by
  unfold sub?
  rw [if_pos (by omega)]
  have e1 : ((i + n : Nat) : Int).toNat = i + n := by omega
  have e2 : (i : Int).toNat = i := by omega
  rw [e1, e2, List.drop_take]
  congr 2
  omega
theorem sub?_tail {α : Type} {l : List α} {i : Nat} (h : i ≤ l.length) : sub? l (i : Int) (l.length : Int) = some (l.drop i) := by
  unfold sub?
  rw [if_pos (by omega)]
  simp
end Go.Proofs.YtcehlicmghnghaaGreat.V
/- Bytes written from the start of a sector on. -/
namespace Go.Proofs.YtcehlicmghnghaaGreat.V
open Go Go.RowKit
set_option maxRecDepth 100000

def chunk (T : List UInt8) (j : Nat) : List UInt8 := (T.drop (32 * j)).take 32
theorem chunk_len (T : List UInt8) (j : Nat) : (chunk T j).length = min 32 (T.length - 32 * j) := by simp [chunk]
theorem sub_chunk {T : List UInt8} {j : Nat} (hj : 32 * j < T.length) : sub? T ((32 * j : Nat) : Int) ((32 * j + (chunk T j).length : Nat) : Int) = some (chunk T j) := by
  have hl := chunk_len T j
  rw [sub?_mid (by omega)]
  congr 1
  rw [hl]
  unfold chunk
  by_cases c : 32 ≤ T.length - 32 * j
  · rw [Nat.min_eq_left c]
  · rw [Nat.min_eq_right (by omega), List.take_of_length_le (by simp), List.take_of_length_le (by simp; omega)]
def wb1 (s : Nat) (T : List UInt8) (j : Nat) (d : TDisk) : Option TDisk := if s + j < d.Sectors.length ∧ (rsec d (s + j)).length = 32 then wr d ((s + j : Nat) : Int) (chunk T j ++ (rsec d (s + j)).drop (chunk T j).length) else none
def wbN (s : Nat) (T : List UInt8) : Nat → Nat → TDisk → Option TDisk
  | 0, _, d => some d
  | n + 1, j, d => if 32 * j < T.length then (match wb1 s T j d with | some d' => wbN s T n (j + 1) d' | none => none) else some d
theorem wb1_ok {s : Nat} {T : List UInt8} {j : Nat} {d d' : TDisk} (h : wb1 s T j d = some d') : diskOk d' = true := by
  unfold wb1 at h
  split at h
  · exact (wr_ok h).1
  · cases h
theorem wbN_ok {s : Nat} {T : List UInt8} : ∀ {n j : Nat} {d d' : TDisk}, diskOk d = true → wbN s T n j d = some d' → diskOk d' = true
  | 0, j, d, d', hd, h => by simp only [wbN, Option.some.injEq] at h; subst h; exact hd
  | n + 1, j, d, d', hd, h => by
    rw [wbN] at h
    split at h
    · split at h
      · rename_i d1 h1
        exact wbN_ok (wb1_ok h1) h
      · cases h
    · cases h; exact hd
theorem spec_wb_step {x0 d : TDisk} {T : List UInt8} {s j : Nat} (hx : DkS x0) (hd : diskOk d = true) (hT : T.length ≤ 100000) (hs : s ≤ 1000) (hj : 32 * j < T.length) :
    S_spec_WriteBytes_1 x0 (s : Int) 0 T (((32 * j : Nat) : Int), d.Sectors, d.Cache) = some (match wb1 s T j d with | some d' => .inl (((32 * j + (chunk T j).length : Nat) : Int), d'.Sectors, d'.Cache) | none => .inr (.inl (x0, false))) := by
  have hD := DkS.ofOk hd
  have hl := chunk_len T j
  have w0 : w64 (0 + ((32 * j : Nat) : Int)) = ((32 * j : Nat) : Int) := by rw [w64_id (by omega) (by omega)]; omega
  have t0 : Int.tmod ((32 * j : Nat) : Int) 32 = 0 := by rw [Int.tmod_eq_emod_of_nonneg (by omega)]; omega
  have t1 : Int.tdiv ((32 * j : Nat) : Int) 32 = (j : Int) := by rw [Int.tdiv_eq_ediv_of_nonneg (by omega)]; omega
  have w1 : w64 (32 - 0) = 32 := by rw [w64_id (by omega) (by omega)]; rfl
  have w2 : w64 ((T.length : Int) - ((32 * j : Nat) : Int)) = (T.length : Int) - ((32 * j : Nat) : Int) := w64_id (by omega) (by omega)
  have w3 : w64 (j : Int) = j := w64_id (by omega) (by omega)
  have w4 : w64 ((s : Int) + (j : Int)) = ((s + j : Nat) : Int) := by rw [w64_id (by omega) (by omega)]; omega
  have hdd : ({ Sectors := d.Sectors, Cache := d.Cache } : TDisk) = d := rfl
  -- both ways of the piece's length
  have fin : ∀ m : Int, m = ((chunk T j).length : Int) →
      ((F_spec_ReadSector d ((s + j : Nat) : Int)).bind fun v8 => ((if !v8.2 then some true else (if ((v8.1.length : Int) != 32) then some true else some false)) : Option Bool).bind (fun y9 => (if y9 then (F_spec_l03Copy x0).bind fun v17 => some (.inr (.inl (({ Sectors := v17.Sectors, Cache := v17.Cache } : TDisk), false))) else (sub? v8.1 0 0).bind fun v10 => (sub? T ((32 * j : Nat) : Int) (w64 (((32 * j : Nat) : Int) + m))).bind fun v11 => (cat? v10 v11).bind fun v12 => (sub? v8.1 (w64 (0 + m)) (v8.1.length : Int)).bind fun v13 => (cat? v12 v13).bind fun v14 => (F_spec_WriteSector d ((s + j : Nat) : Int) v14).bind fun v15 => (if !v15.2 then (F_spec_l03Copy x0).bind fun v16 => some (.inr (.inl (({ Sectors := v16.Sectors, Cache := v16.Cache } : TDisk), false))) else some (.inl (w64 (((32 * j : Nat) : Int) + m), v15.1.Sectors, v15.1.Cache))))) : Option ((Int × (List (List UInt8)) × (List TWrite)) ⊕ ((TDisk × Bool) ⊕ ((List (List UInt8)) × (List TWrite))))) = some (match wb1 s T j d with | some d' => .inl (((32 * j + (chunk T j).length : Nat) : Int), d'.Sectors, d'.Cache) | none => .inr (.inl (x0, false))) := by
    rintro _ rfl
    have f1 : w64 (((32 * j : Nat) : Int) + ((chunk T j).length : Int)) = ((32 * j + (chunk T j).length : Nat) : Int) := by rw [w64_id (by omega) (by omega)]; omega
    have f2 : w64 (0 + ((chunk T j).length : Int)) = ((chunk T j).length : Int) := by rw [w64_id (by omega) (by omega)]; omega
    rw [spec_readSector hD, Option.bind_some, f1, f2]
    unfold wb1
    by_cases c1 : s + j < d.Sectors.length
    · rw [readS_in c1]
      dsimp only
      by_cases c2 : (rsec d (s + j)).length = 32
      · rw [if_neg (by simp), if_neg (by simp [c2]), Option.bind_some, if_neg (by simp), if_pos ⟨c1, c2⟩]
        have g1 : sub? (rsec d (s + j)) 0 0 = some [] := by unfold sub?; simp
        rw [g1, Option.bind_some, sub_chunk hj, Option.bind_some, cat?_ok (by simp; omega), Option.bind_some, List.nil_append, sub?_tail (by omega), Option.bind_some, cat?_ok (by simp; omega), Option.bind_some, spec_wr hD, Option.bind_some]
        cases wr d ((s + j : Nat) : Int) (chunk T j ++ (rsec d (s + j)).drop (chunk T j).length) with
        | none => simp [wrR, spec_copy hx]
        | some d' => simp [wrR]
      · rw [if_neg (by simp), if_pos (by simp; omega), Option.bind_some, if_pos rfl, spec_copy hx, Option.bind_some, if_neg (fun h => c2 h.2)]
    · rw [readS_out (by omega)]
      dsimp only
      rw [if_pos (by simp), Option.bind_some, if_pos rfl, spec_copy hx, Option.bind_some, if_neg (fun h => c1 h.1)]
  unfold S_spec_WriteBytes_1
  rw [if_pos (by simp; omega), w0, t0, t1, w1, w2, w3, w4]
  dsimp only
  rw [hdd]
  by_cases c : (32 : Int) > (T.length : Int) - ((32 * j : Nat) : Int)
  · rw [if_pos (by simpa using c)]
    exact fin _ (by omega)
  · rw [if_neg (by simpa using c)]
    exact fin _ (by omega)
theorem spec_wb_loop {x0 : TDisk} {T : List UInt8} {s : Nat} (hx : DkS x0) (hT : T.length ≤ 100000) (hs : s ≤ 1000) : ∀ (n j : Nat) (d : TDisk), T.length ≤ 32 * (j + n) → diskOk d = true →
    iter (S_spec_WriteBytes_1 x0 (s : Int) 0 T) (((min (32 * j) T.length : Nat) : Int), d.Sectors, d.Cache) = some (match wbN s T n j d with | some d' => .inr (d'.Sectors, d'.Cache) | none => .inl (x0, false))
  | 0, j, d, hn, hd => by
    rw [wbN, Nat.min_eq_right (by omega)]
    refine iter_done ?_
    unfold S_spec_WriteBytes_1
    rw [if_neg (by simp)]
  | n + 1, j, d, hn, hd => by
    rw [wbN]
    by_cases c : 32 * j < T.length
    · rw [if_pos c, Nat.min_eq_left (by omega)]
      have hst := spec_wb_step (x0 := x0) (s := s) hx hd hT hs c
      cases h1 : wb1 s T j d with
      | none =>
        rw [h1] at hst
        exact iter_done hst
      | some d' =>
        rw [h1] at hst
        rw [iter_next hst]
        have hl := chunk_len T j
        have e : 32 * j + (chunk T j).length = min (32 * (j + 1)) T.length := by omega
        rw [e]
        exact spec_wb_loop hx hT hs n (j + 1) d' (by omega) (wb1_ok h1)
    · rw [if_neg c, Nat.min_eq_right (by omega)]
      refine iter_done ?_
      unfold S_spec_WriteBytes_1
      rw [if_neg (by simp)]
def writeB (d : TDisk) (s : Nat) (T : List UInt8) : TDisk × Bool := if s < d.Sectors.length then wrR d (wbN s T (T.length + 1) 0 d) else (d, false)
theorem writeB_ok {d : TDisk} (h : diskOk d = true) (s : Nat) (T : List UInt8) : diskOk (writeB d s T).1 = true := by
  unfold writeB
  split
  · cases hw : wbN s T (T.length + 1) 0 d with
    | none => exact h
    | some d' => exact wbN_ok h hw
  · exact h
theorem spec_writeB {d : TDisk} (h : diskOk d = true) {s : Nat} (hs : s ≤ 1000) {T : List UInt8} (hT : T.length ≤ 100000) : F_spec_WriteBytes d (s : Int) 0 T = some (writeB d s T) := by
  have hD := DkS.ofOk h
  have h1 := hD.sec.1
  unfold F_spec_WriteBytes writeB
  rw [spec_copy hD, Option.bind_some, spec_in, Option.bind_some, if_pos (by unfold inR; simp), spec_in, Option.bind_some, w64_id (n := (d.Sectors.length : Int) - 1) (by omega) (by omega), spec_diskOk hD, h]
  by_cases c : s < d.Sectors.length
  · rw [if_pos (by unfold inR; simp; omega), Option.bind_some, if_pos rfl, Option.bind_some, if_neg (by simp), if_pos c]
    have := spec_wb_loop hD hT hs (T.length + 1) 0 d (by omega) h
    rw [show ((min (32 * 0) T.length : Nat) : Int) = 0 by simp] at this
    rw [this, Option.bind_some]
    cases wbN s T (T.length + 1) 0 d <;> rfl
  · rw [if_neg (by unfold inR; simp; omega), Option.bind_some, if_pos rfl, if_neg c]

/-! ### as the program has it -/
theorem impl_wb_step {x0 d : TDisk} {T : List UInt8} {s j : Nat} (hd : diskOk d = true) (hT : T.length ≤ 100000) (hs : s ≤ 1000) (hj : 32 * j < T.length) :
    S_impl_WriteBytes_1 (s : Int) x0 (((32 * j : Nat) : Int), T.drop (32 * j), d.Sectors, d.Cache) = some (match wb1 s T j d with | some d' => .inl (((32 * j + (chunk T j).length : Nat) : Int), T.drop (32 * j + (chunk T j).length), d'.Sectors, d'.Cache) | none => .inr (.inl (x0, false))) := by
  have hD := DkS.ofOk hd
  have hc := (diskOk_iff.1 hd).2.1
  have hl := chunk_len T j
  have hlen : (T.drop (32 * j)).length = T.length - 32 * j := by simp
  have t0 : Int.tmod ((32 * j : Nat) : Int) 32 = 0 := by rw [Int.tmod_eq_emod_of_nonneg (by omega)]; omega
  have t1 : Int.tdiv ((32 * j : Nat) : Int) 32 = (j : Int) := by rw [Int.tdiv_eq_ediv_of_nonneg (by omega)]; omega
  have w1 : w64 (32 - 0) = 32 := by rw [w64_id (by omega) (by omega)]; rfl
  have w3 : w64 (j : Int) = j := w64_id (by omega) (by omega)
  have w4 : w64 ((s : Int) + (j : Int)) = ((s + j : Nat) : Int) := by rw [w64_id (by omega) (by omega)]; omega
  have hm : (if (32 : Int) < ((T.drop (32 * j)).length : Int) then (32 : Int) else ((T.drop (32 * j)).length : Int)) = ((chunk T j).length : Int) := by
    rw [hlen, hl]
    split <;> omega
  have hdd : ({ Sectors := d.Sectors, Cache := d.Cache } : TDisk) = d := rfl
  have f1 : w64 (((32 * j : Nat) : Int) + ((chunk T j).length : Int)) = ((32 * j + (chunk T j).length : Nat) : Int) := by rw [w64_id (by omega) (by omega)]; omega
  have f2 : w64 (0 + ((chunk T j).length : Int)) = ((chunk T j).length : Int) := by rw [w64_id (by omega) (by omega)]; omega
  unfold S_impl_WriteBytes_1
  rw [if_pos (by simp only [Bool.not_eq_true', beq_eq_false_iff_ne, ne_eq]; intro h0; have := congrArg List.length h0; rw [hlen] at this; simp at this; omega)]
  dsimp only
  rw [t0, t1, w1, w3, w4, hdd, hm, f1, f2, impl_readSector hD, Option.bind_some]
  unfold wb1
  by_cases c1 : s + j < d.Sectors.length
  · rw [readS_in c1]
    dsimp only
    by_cases c2 : (rsec d (s + j)).length = 32
    · rw [if_neg (by simp), if_neg (by simp [c2]), Option.bind_some, if_neg (by simp), if_pos ⟨c1, c2⟩]
      have g1 : sub? (rsec d (s + j)) 0 0 = some [] := by unfold sub?; simp
      have g2 : sub? (T.drop (32 * j)) 0 ((chunk T j).length : Int) = some (chunk T j) := by
        rw [sub?_take (by omega)]
        congr 1
        rw [hl]
        unfold chunk
        by_cases c : 32 ≤ T.length - 32 * j
        · rw [Nat.min_eq_left c]
        · rw [Nat.min_eq_right (by omega), List.take_of_length_le (by simp), List.take_of_length_le (by simp; omega)]
      rw [g1, Option.bind_some, g2, Option.bind_some, cat?_ok (by simp; omega), Option.bind_some, List.nil_append, sub?_tail (by omega), Option.bind_some, cat?_ok (by simp; omega), Option.bind_some, impl_wr hD (by simp; omega) (by omega), Option.bind_some]
      cases wr d ((s + j : Nat) : Int) (chunk T j ++ (rsec d (s + j)).drop (chunk T j).length) with
      | none => simp [wrR]
      | some d' =>
        simp only [wrR, Bool.not_true, Bool.false_eq_true, if_false]
        rw [sub?_tail (by omega), Option.bind_some, List.drop_drop]
    · rw [if_neg (by simp), if_pos (by simp; omega), Option.bind_some, if_pos rfl, if_neg (fun h => c2 h.2)]
  · rw [readS_out (by omega)]
    dsimp only
    rw [if_pos (by simp), Option.bind_some, if_pos rfl, if_neg (fun h => c1 h.1)]
theorem impl_wb_loop {x0 : TDisk} {T : List UInt8} {s : Nat} (hT : T.length ≤ 100000) (hs : s ≤ 1000) : ∀ (n j : Nat) (d : TDisk), T.length ≤ 32 * (j + n) → diskOk d = true →
    iter (S_impl_WriteBytes_1 (s : Int) x0) (((min (32 * j) T.length : Nat) : Int), T.drop (min (32 * j) T.length), d.Sectors, d.Cache) = some (match wbN s T n j d with | some d' => .inr (d'.Sectors, d'.Cache) | none => .inl (x0, false))
  | 0, j, d, hn, hd => by
    rw [wbN, Nat.min_eq_right (by omega)]
    refine iter_done ?_
    unfold S_impl_WriteBytes_1
    rw [if_neg (by simp)]
  | n + 1, j, d, hn, hd => by
    rw [wbN]
    by_cases c : 32 * j < T.length
    · rw [if_pos c, Nat.min_eq_left (by omega)]
      have hst := impl_wb_step (x0 := x0) (s := s) hd hT hs c
      cases h1 : wb1 s T j d with
      | none =>
        rw [h1] at hst
        exact iter_done hst
      | some d' =>
        rw [h1] at hst
        rw [iter_next hst]
        have hl := chunk_len T j
        have e : 32 * j + (chunk T j).length = min (32 * (j + 1)) T.length := by omega
        rw [e]
        exact impl_wb_loop hT hs n (j + 1) d' (by omega) (wb1_ok h1)
    · rw [if_neg c, Nat.min_eq_right (by omega)]
      refine iter_done ?_
      unfold S_impl_WriteBytes_1
      rw [if_neg (by simp)]
theorem impl_writeB {d : TDisk} (h : diskOk d = true) {s : Nat} (hs : s ≤ 1000) {T : List UInt8} (hT : T.length ≤ 100000) : F_impl_WriteBytes d (s : Int) 0 T = some (writeB d s T) := by
  have hD := DkS.ofOk h
  have h1 := hD.sec.1
  unfold F_impl_WriteBytes writeB
  rw [impl_copy hD, Option.bind_some, impl_in, Option.bind_some, if_pos (by unfold inR; simp), impl_in, Option.bind_some, w64_id (n := (d.Sectors.length : Int) - 1) (by omega) (by omega)]
  by_cases c : s < d.Sectors.length
  · rw [if_pos (by unfold inR; simp; omega), Option.bind_some, if_neg (by simp), if_pos c, Option.bind_some]
    have := impl_wb_loop (x0 := d) hT hs (T.length + 1) 0 d (by omega) h
    rw [show min (32 * 0) T.length = 0 by simp] at this
    rw [show ((0 : Nat) : Int) = 0 from rfl, List.drop_zero] at this
    rw [this, Option.bind_some]
    cases wbN s T (T.length + 1) 0 d <;> rfl
  · rw [if_neg (by unfold inR; simp; omega), Option.bind_some, if_pos rfl, if_neg c]
end Go.Proofs.YtcehlicmghnghaaGreat.V
/- A check is written. -/
namespace Go.Proofs.YtcehlicmghnghaaGreat.V
open Go Go.RowKit
set_option maxRecDepth 100000

theorem checkText_ok {c : TCheck} (h : (checkText c).2 = true) : checkOk c = true := by
  unfold checkText at h
  split at h
  · assumption
  · cases h
theorem checkText_len {c : TCheck} : (checkText c).1.length ≤ 100000 := by
  unfold checkText
  split
  · split
    · simp
    · dsimp only; omega
  · simp
def writeC (d : TDisk) (c : TCheck) : TDisk × Bool :=
  if (checkText c).2 = true ∧ diskOk d = true then (if (writeB d (4 * (c.Stamp.toNat % 2)) (checkText c).1).2 then (flush (writeB d (4 * (c.Stamp.toNat % 2)) (checkText c).1).1, true) else (d, false)) else (d, false)
theorem place {c : TCheck} (h : checkOk c = true) : w64 (4 * Int.tmod c.Stamp 2) = ((4 * (c.Stamp.toNat % 2) : Nat) : Int) := by
  have h1 := (checkOk_rng h).1.1
  rw [Int.tmod_eq_emod_of_nonneg (by omega), w64_id (by omega) (by omega)]
  omega
theorem spec_writeC {d : TDisk} (hD : DkS d) {c : TCheck} (hc : c.Refs.length ≤ 1048576) : F_spec_WriteCheck d c = some (writeC d c) := by
  unfold F_spec_WriteCheck writeC
  rw [spec_checkText hc, Option.bind_some, spec_diskOk hD]
  by_cases h1 : (checkText c).2 = true
  · rw [if_neg (by simp [h1]), Option.bind_some]
    by_cases h2 : diskOk d = true
    · rw [if_pos h2, Option.bind_some, if_neg (by simp), if_pos ⟨h1, h2⟩, place (checkText_ok h1), spec_writeB h2 (by omega) checkText_len, Option.bind_some]
      have hw := DkS.ofOk (writeB_ok h2 (4 * (c.Stamp.toNat % 2)) (checkText c).1)
      cases h3 : (writeB d (4 * (c.Stamp.toNat % 2)) (checkText c).1).2 with
      | true => simp [spec_flush hw]
      | false => simp [spec_copy hD]
    · rw [if_neg h2, Option.bind_some, if_pos rfl, spec_copy hD, if_neg (fun h => h2 h.2)]; rfl
  · rw [if_pos (by simp [h1]), Option.bind_some, if_pos rfl, spec_copy hD, if_neg (fun h => h1 h.1)]; rfl
theorem impl_writeC {d : TDisk} (hD : DkS d) {c : TCheck} (hc : c.Refs.length ≤ 1048576) : F_impl_WriteCheck d c = some (writeC d c) := by
  unfold F_impl_WriteCheck writeC F_impl_region
  rw [impl_checkText hc, Option.bind_some, impl_diskOk hD, Option.bind_some]
  by_cases h2 : diskOk d = true
  · rw [if_pos h2]
    by_cases h1 : (checkText c).2 = true
    · rw [if_neg (by simp [h1]), Option.bind_some, if_pos ⟨h1, h2⟩, place (checkText_ok h1), impl_writeB h2 (by omega) checkText_len, Option.bind_some]
      have hw := DkS.ofOk (writeB_ok h2 (4 * (c.Stamp.toNat % 2)) (checkText c).1)
      cases h3 : (writeB d (4 * (c.Stamp.toNat % 2)) (checkText c).1).2 with
      | true => simp [impl_flush hw]
      | false => simp [impl_copy hD]
    · rw [if_pos (by simp [h1]), impl_copy hD, if_neg (fun h => h1 h.1)]; rfl
  · rw [if_neg h2, impl_copy hD, if_neg (fun h => h2 h.2)]; rfl
theorem writeC_cases (d : TDisk) (c : TCheck) : (writeC d c).1 = d ∨ diskOk (writeC d c).1 = true := by
  unfold writeC
  split
  · rename_i h
    split
    · exact .inr (flush_ok (writeB_ok h.2 _ _))
    · exact .inl rfl
  · exact .inl rfl
end Go.Proofs.YtcehlicmghnghaaGreat.V
/- The free segments of a log. -/
namespace Go.Proofs.YtcehlicmghnghaaGreat.V
open Go Go.RowKit
set_option maxRecDepth 100000

theorem filt_loop {n : Nat} {p : Nat → Bool} {step : Int × List Int → Option ((Int × List Int) ⊕ List Int)} (hn : n ≤ 1048576)
    (h1 : ∀ (i : Nat) (o : List Int), i < n → step ((i : Int), o) = if p i then (app? 8 o [(i : Int)]).bind fun v => some (.inl (((i + 1 : Nat) : Int), v)) else some (.inl (((i + 1 : Nat) : Int), o)))
    (h2 : ∀ o, step ((n : Int), o) = some (.inr o)) : iter step (0, []) = some (((List.range n).filter p).map fun (k : Nat) => (k : Int)) := by
  have := iter_range (step := step) (fun i => ((i : Int), ((List.range i).filter p).map fun (k : Nat) => (k : Int))) n (r := ((List.range n).filter p).map fun (k : Nat) => (k : Int)) ?_ (h2 _)
  · simpa using this
  · intro i hi
    have hl := List.length_filter_le p (List.range i)
    rw [List.length_range] at hl
    rw [h1 i _ hi, List.range_succ, List.filter_append, List.map_append]
    by_cases hp : p i = true
    · rw [if_pos hp, app?_ok (by simp; omega) (by simp; omega), List.filter_cons, if_pos hp]; rfl
    · rw [if_neg hp, List.filter_cons, if_neg hp]; simp
def usedNo (g : TLog) (no : Int) : Bool := g.Used.any fun s => s.No == no
def nSegs (g : TLog) : Nat := if 11 < g.Segs then 11 else g.Segs.toNat
theorem nSegs_le (g : TLog) : nSegs g ≤ 11 := by unfold nSegs; split <;> omega
def freeSegs (g : TLog) : List Int := ((List.range (nSegs g)).filter fun i : Nat => !usedNo g (i : Int)).map fun (k : Nat) => (k : Int)
theorem impl_freeSegs {g : TLog} (h : g.Used.length ≤ 1048576) : F_impl_FreeSegs g = some (freeSegs g) := by
  have hn := nSegs_le g
  unfold F_impl_FreeSegs freeSegs
  rw [filt_loop (n := nSegs g) (p := fun i => !usedNo g (i : Int)) (by omega)]
  · rfl
  · intro i o hi
    have hc := p_slices_ContainsFunc_Seg_FreeSegs_1 (x0 := g.Used) (x1 := (i : Int)) (q := fun y => y.No == (i : Int)) (by omega) (fun y _ => rfl)
    have hlt : decide ((i : Int) < (if 11 < g.Segs then 11 else g.Segs)) = true := by
      unfold nSegs at hi
      split at hi <;> rename_i c
      · rw [if_pos c]; simp; omega
      · rw [if_neg c]; simp; omega
    unfold S_impl_FreeSegs_1
    simp only [hlt, if_true, hc, Option.bind_some, w64_succ (show i < 9223372036854775807 by omega)]
    unfold usedNo
    cases g.Used.any fun s => s.No == (i : Int) <;> rfl
  · intro o
    unfold S_impl_FreeSegs_1
    have hlt : decide (((nSegs g : Nat) : Int) < (if 11 < g.Segs then 11 else g.Segs)) = false := by
      unfold nSegs
      split <;> rename_i c
      · simp
      · simp; omega
    simp [hlt]
theorem spec_freeSegs {g : TLog} (h : g.Used.length ≤ 1048576) : F_spec_FreeSegs g = some (freeSegs g) := by
  have hn := nSegs_le g
  unfold F_spec_FreeSegs freeSegs
  rw [filt_loop (n := nSegs g) (p := fun i => !usedNo g (i : Int)) (by omega)]
  · rfl
  · intro i o hi
    have h11 : (i : Int) < g.Segs ∧ (i : Int) < 11 := by
      unfold nSegs at hi
      split at hi <;> omega
    have inner : iter (S_spec_FreeSegs_2 g ((i : Int), o)) (false, 0) = some (usedNo g (i : Int)) := by
      have := iter_range (step := S_spec_FreeSegs_2 g ((i : Int), o)) (fun j => ((g.Used.take j).any (fun s => s.No == (i : Int)), (j : Int))) g.Used.length (r := usedNo g (i : Int)) ?_ ?_
      · simpa using this
      · intro j hj
        have e : (g.Used.take (j + 1)).any (fun s => s.No == (i : Int)) = ((g.Used.take j).any (fun s => s.No == (i : Int)) || g.Used[j].No == (i : Int)) := by
          rw [List.take_succ_eq_append_getElem hj, List.any_append]; simp
        unfold S_spec_FreeSegs_2
        simp only [dlt hj, if_true, at?_nat hj, Option.bind_some, w64_succ (show j < 9223372036854775807 by omega), e]
        generalize (g.Used.take j).any (fun s => s.No == (i : Int)) = b
        by_cases c : g.Used[j].No = (i : Int) <;> cases b <;> simp [c]
      · unfold S_spec_FreeSegs_2
        simp [usedNo]
    unfold S_spec_FreeSegs_1
    simp only [show decide ((i : Int) < g.Segs) = true by simpa using h11.1, show decide ((i : Int) < 11) = true by simpa using h11.2, if_true, Option.bind_some, inner, w64_succ (show i < 9223372036854775807 by omega)]
  · intro o
    unfold S_spec_FreeSegs_1
    have hlt : ¬ (((nSegs g : Nat) : Int) < g.Segs ∧ ((nSegs g : Nat) : Int) < 11) := by
      unfold nSegs
      split <;> omega
    by_cases c : ((nSegs g : Nat) : Int) < g.Segs
    · have c2 : ¬ ((nSegs g : Nat) : Int) < 11 := fun d => hlt ⟨c, d⟩
      simp [c, c2]
    · simp [c]
end Go.Proofs.YtcehlicmghnghaaGreat.V
/- The check of a log. -/
namespace Go.Proofs.YtcehlicmghnghaaGreat.V
open Go Go.RowKit
set_option maxRecDepth 100000

def refOf (s : TSeg) : TRef := { No := s.No, Gen := s.Gen }
def checkOf (g : TLog) : TCheck := { Stamp := w64 (g.Stamp + 1), NextGen := g.NextGen, NextSeq := g.NextSeq, NextValid := g.NextValid, Refs := g.Used.map refOf }
theorem refs_loop {g : TLog} (h : g.Used.length ≤ 1048576) {step : Int × List TRef → Option ((Int × List TRef) ⊕ List TRef)}
    (h1 : ∀ (i : Nat) (o : List TRef) (hi : i < g.Used.length), step ((i : Int), o) = (app? 16 o [refOf g.Used[i]]).bind fun v => some (.inl (((i + 1 : Nat) : Int), v)))
    (h2 : ∀ o, step ((g.Used.length : Int), o) = some (.inr o)) : iter step (0, []) = some (g.Used.map refOf) := by
  have := iter_range (step := step) (fun i => ((i : Int), (g.Used.take i).map refOf)) g.Used.length (r := g.Used.map refOf) ?_ ?_
  · simpa using this
  · intro i hi
    rw [h1 i _ hi, app?_ok (by simp; omega) (by simp; omega), List.take_succ_eq_append_getElem hi, List.map_append]; rfl
  · rw [h2, List.take_length]
theorem spec_checkOf {g : TLog} (h : g.Used.length ≤ 1048576) : F_spec_CheckOf g = some (checkOf g) := by
  unfold F_spec_CheckOf
  rw [refs_loop h]
  · rfl
  · intro i o hi
    unfold S_spec_CheckOf_1
    simp only [dlt hi, if_true, at?_nat hi, Option.bind_some, w64_succ (show i < 9223372036854775807 by omega)]
    rfl
  · intro o; unfold S_spec_CheckOf_1; simp
theorem impl_checkOf {g : TLog} (h : g.Used.length ≤ 1048576) : F_impl_CheckOf g = some (checkOf g) := by
  unfold F_impl_CheckOf
  rw [refs_loop h]
  · rfl
  · intro i o hi
    unfold S_impl_CheckOf_1
    simp only [dlt hi, if_true, at?_nat hi, Option.bind_some, w64_succ (show i < 9223372036854775807 by omega)]
    rfl
  · intro o; unfold S_impl_CheckOf_1; simp
end Go.Proofs.YtcehlicmghnghaaGreat.V
/- Marks of disks and logs. -/
namespace Go.Proofs.YtcehlicmghnghaaGreat.V
open Go Go.RowKit
set_option maxRecDepth 100000

theorem mark_disk {s : List (List UInt8)} {c : List TWrite} {m0 : Nat} (hs : s.length ≤ 1048576) (hc : c.length ≤ 1048576) (hm : m0 ≤ 1000000000000) :
    guardO (fun r : Int × List (List UInt8) × List TWrite => s.length = r.2.1.length ∧ c.length = r.2.2.length) (F_laws_markDisk_w s c (m0 : Int)) = some (((m0 + 1 * s.length + 2 * c.length : Nat) : Int), (s.mapIdx fun i x => mk_laws_markStringS_w (m0 + 1 * i) x), (c.mapIdx fun i x => mk_laws_markWriteS_w (m0 + 1 * s.length + 2 * i) x)) := by
  have m1 : guardO (fun r : Int × List (List UInt8) => s.length = r.2.length) (F_laws_markStringS_w s (m0 : Int)) = some _ := guardO_of (p_laws_markStringS_w hs (by omega)) (by simp)
  have m2 : guardO (fun r : Int × List TWrite => c.length = r.2.length) (F_laws_markWriteS_w c ((m0 + 1 * s.length : Nat) : Int)) = some _ := guardO_of (p_laws_markWriteS_w hc (by omega)) (by simp)
  refine guardO_of ?_ (by simp)
  unfold F_laws_markDisk_w
  rw [m1, Option.bind_some, m2]; rfl
end Go.Proofs.YtcehlicmghnghaaGreat.V
/- Frames; the size of a record. -/
namespace Go.Proofs.YtcehlicmghnghaaGreat.V
open Go Go.RowKit

def frameOk (f : TFrame) : Bool := inR f.Gen 1 1000000000 && inR f.Seq 1 1000000000 && inR f.Body.length 1 180
theorem spec_frameOk (f : TFrame) : F_spec_FrameOk f = some (frameOk f) := by
  unfold F_spec_FrameOk frameOk
  simp only [spec_in, Option.bind_some]
  cases inR f.Gen 1 1000000000 <;> cases inR f.Seq 1 1000000000 <;> simp
theorem impl_frameOk (f : TFrame) : F_impl_FrameOk f = some (frameOk f) := by
  unfold F_impl_FrameOk frameOk
  simp only [impl_in, Option.bind_some]
  cases inR f.Gen 1 1000000000 <;> cases inR f.Seq 1 1000000000 <;> simp
theorem frameOk_rng {f : TFrame} (h : frameOk f = true) : (1 ≤ f.Gen ∧ f.Gen ≤ 1000000000) ∧ (1 ≤ f.Seq ∧ f.Seq ≤ 1000000000) ∧ 1 ≤ f.Body.length ∧ f.Body.length ≤ 180 := by
  unfold frameOk inR at h
  simp only [Bool.and_eq_true, decide_eq_true_eq] at h
  omega
def frameT (f : TFrame) : List UInt8 := vt f.Gen ++ vt f.Seq ++ vt f.Body.length ++ f.Body
def frameText (f : TFrame) : List UInt8 × Bool := if frameOk f then (frameT f ++ sealL (frameT f), true) else ([], false)
theorem frameT_len {f : TFrame} (h : frameOk f = true) : (frameT f).length ≤ 213 := by
  obtain ⟨h1, h2, h3, h4⟩ := frameOk_rng h
  have l1 := vt_len (n := f.Gen) (by omega)
  have l2 := vt_len (n := f.Seq) (by omega)
  have l3 := vt_len (n := f.Body.length) (by omega)
  unfold frameT
  simp; omega
theorem spec_frameText (f : TFrame) : F_spec_FrameText f = some (frameText f) := by
  unfold F_spec_FrameText frameText
  rw [spec_frameOk, Option.bind_some]
  cases hk : frameOk f with
  | false => rfl
  | true =>
    obtain ⟨h1, h2, h3, h4⟩ := frameOk_rng hk
    have l1 := vt_len (n := f.Gen) (by omega)
    have l2 := vt_len (n := f.Seq) (by omega)
    have l3 := vt_len (n := f.Body.length) (by omega)
    have lt := frameT_len hk
    simp only [if_true]
    rw [spec_var (by omega) (by omega), Option.bind_some, spec_var (by omega) (by omega), Option.bind_some, cat?_ok (by omega), Option.bind_some, spec_var (by omega) (by omega), Option.bind_some, cat?_ok (by simp; omega), Option.bind_some, cat?_ok (by simp; omega), Option.bind_some]
    rw [show vt f.Gen ++ vt f.Seq ++ vt f.Body.length ++ f.Body = frameT f from rfl, spec_sealed (by omega), Option.bind_some]
    unfold sealed
    rw [if_neg (by omega)]
theorem impl_frameText (f : TFrame) : F_impl_FrameText f = some (frameText f) := by
  unfold F_impl_FrameText frameText
  rw [impl_frameOk, Option.bind_some]
  cases hk : frameOk f with
  | false => rfl
  | true =>
    obtain ⟨h1, h2, h3, h4⟩ := frameOk_rng hk
    have l1 := vt_len (n := f.Gen) (by omega)
    have l2 := vt_len (n := f.Seq) (by omega)
    have l3 := vt_len (n := f.Body.length) (by omega)
    have lt := frameT_len hk
    simp only [if_true]
    rw [impl_var (by omega) (by omega), Option.bind_some, impl_var (by omega) (by omega), Option.bind_some, cat?_ok (by omega), Option.bind_some, impl_var (by omega) (by omega), Option.bind_some, cat?_ok (by simp; omega), Option.bind_some, cat?_ok (by simp; omega), Option.bind_some]
    rw [show vt f.Gen ++ vt f.Seq ++ vt f.Body.length ++ f.Body = frameT f from rfl, impl_sealed (by omega), Option.bind_some]
    unfold sealed
    rw [if_neg (by omega)]
end Go.Proofs.YtcehlicmghnghaaGreat.V
/- Items: what they must be, and the latest of them. -/
namespace Go.Proofs.YtcehlicmghnghaaGreat.V
open Go Go.RowKit
set_option maxRecDepth 100000


/-! ### the latest -/
end Go.Proofs.YtcehlicmghnghaaGreat.V
/- What is needed. -/
namespace Go.Proofs.YtcehlicmghnghaaGreat.V
open Go Go.RowKit
set_option maxRecDepth 100000


end Go.Proofs.YtcehlicmghnghaaGreat.V
/- What is needed, as the program has it. -/
namespace Go.Proofs.YtcehlicmghnghaaGreat.V
open Go Go.RowKit
set_option maxRecDepth 100000

end Go.Proofs.YtcehlicmghnghaaGreat.V
/- What is needed, item by item. -/
namespace Go.Proofs.YtcehlicmghnghaaGreat.V
open Go Go.RowKit
set_option maxRecDepth 100000

/-- A list that is built one by one. -/
theorem app_loop {β : Type} {n byt : Nat} {f : Nat → β} {step : Int × List β → Option ((Int × List β) ⊕ List β)} (hl : n ≤ 1048576) (hb : byt ≤ 1000000)
    (h1 : ∀ (i : Nat) (o : List β), i < n → step ((i : Int), o) = (app? byt o [f i]).bind fun v => some (.inl (((i + 1 : Nat) : Int), v)))
    (h2 : ∀ o, step ((n : Int), o) = some (.inr o)) : iter step (0, []) = some ((List.range n).map f) := by
  refine iter_range (step := step) (fun i => ((i : Int), (List.range i).map f)) n ?_ (h2 _)
  intro i hi
  have hm : (i + 1) * byt ≤ 1048576 * 1000000 := Nat.mul_le_mul (by omega) hb
  rw [h1 i _ hi, app?_ok (by simp; omega) (by simp; omega), List.range_succ, List.map_append]
  rfl
end Go.Proofs.YtcehlicmghnghaaGreat.V
/- A disk that is new, and what lies on it. -/
namespace Go.Proofs.YtcehlicmghnghaaGreat.V
open Go Go.RowKit
set_option maxRecDepth 100000

def zero32 : List UInt8 := List.replicate 32 0
def newDisk (n : Nat) : TDisk := { Sectors := List.replicate n zero32, Cache := [] }
theorem spec_zero : F_spec_l03Zero = some zero32 := by
  unfold F_spec_l03Zero F_spec_l01Long
  rw [show (32 : Int) = ((32 : Nat) : Int) from rfl, mk?_ok (by omega) (by omega), Option.bind_some]
  have h := to_loop (l := List.replicate 32 (0 : Int)) (z := (0 : Int)) (step := S_spec_l01Long_1 ((32 : Nat) : Int) 0) (by simp) ?_ ?_
  · rw [List.length_replicate] at h
    rw [h]; rfl
  · intro i hi o ho
    rw [List.length_replicate] at hi ho
    have hio : i < o.length := by omega
    unfold S_spec_l01Long_1
    simp only [dlt hi, if_true, at?_nat hio, Option.bind_some, w64_succ (show i < 9223372036854775807 by omega), set'_nat, List.getElem_replicate]
  · intro o
    unfold S_spec_l01Long_1
    simp
theorem impl_zero : F_strings_Repeat [0] 32 = some zero32 := by
  unfold F_strings_Repeat rep?
  rw [if_pos (by simp)]
  rfl
theorem disk_loop {n : Nat} (hn : n ≤ 100) {step : Int × List (List UInt8) → Option ((Int × List (List UInt8)) ⊕ List (List UInt8))}
    (h1 : ∀ (i : Nat) (o : List (List UInt8)), i < n → step ((i : Int), o) = (app? 16 o [zero32]).bind fun v => some (.inl (((i + 1 : Nat) : Int), v)))
    (h2 : ∀ o, step ((n : Int), o) = some (.inr o)) : iter step (0, []) = some (List.replicate n zero32) := by
  have h := app_loop (n := n) (byt := 16) (f := fun _ => zero32) (step := step) (by omega) (by omega) h1 h2
  rw [h]
  congr 1
  simp [List.map_const']
theorem spec_diskNew {n : Nat} (h0 : 1 ≤ n) (hn : n ≤ 100) : F_spec_DiskNew (n : Int) = some (newDisk n, true) := by
  unfold F_spec_DiskNew
  rw [spec_in, Option.bind_some, if_pos (by unfold inR; simp; omega), disk_loop (n := n) hn]
  · rfl
  · intro i o hi
    unfold S_spec_DiskNew_1
    simp only [dlt hi, if_true, spec_zero, Option.bind_some, w64_succ (show i < 9223372036854775807 by omega)]
  · intro o
    unfold S_spec_DiskNew_1; simp
theorem impl_diskNew {n : Nat} (h0 : 1 ≤ n) (hn : n ≤ 100) : F_impl_DiskNew (n : Int) = some (newDisk n, true) := by
  unfold F_impl_DiskNew
  rw [impl_in, Option.bind_some, if_pos (by unfold inR; simp; omega), disk_loop (n := n) hn]
  · rfl
  · intro i o hi
    unfold S_impl_DiskNew_1
    simp only [dlt hi, if_true, impl_zero, Option.bind_some, w64_succ (show i < 9223372036854775807 by omega)]
  · intro o
    unfold S_impl_DiskNew_1; simp
theorem newDisk_ok {n : Nat} (h0 : 1 ≤ n) (hn : n ≤ 100) : diskOk (newDisk n) = true := by
  rw [diskOk_iff]
  refine ⟨by simp [newDisk]; omega, by simp [newDisk], ?_, by simp [newDisk]⟩
  intro s hs
  have := List.eq_of_mem_replicate hs
  subst this; rfl

def head1 : TFrame := { Gen := 1, Seq := 1, Body := [115, 101, 103] }
def headT : List UInt8 := (frameText head1).1
theorem head_ok : (frameText head1).2 = true := by
  unfold frameText
  rw [if_pos (by decide)]
theorem head_len : headT.length ≤ 256 := by
  unfold headT frameText
  rw [if_pos (by decide)]
  have := frameT_len (f := head1) (by decide)
  simp only [List.length_append]
  have h4 : (sealL (frameT head1)).length = 4 := by rfl
  omega
def log0 (k : Nat) : TLog := { Disk := newDisk (8 + k * 8), Segs := (k : Int), Used := [], NextGen := 1, NextSeq := 1, Stamp := 0, NextValid := 1 }
def zlog : TLog := { Disk := { Sectors := [], Cache := [] }, Segs := 0, Used := [], NextGen := 0, NextSeq := 0, Stamp := 0, NextValid := 0 }
def open0 (k : Nat) : TDisk × Bool := writeB (newDisk (8 + k * 8)) 8 headT
def log1 (k : Nat) : TLog := { Disk := flush (open0 k).1, Segs := (k : Int), Used := [{ No := 0, Gen := 1, End := (headT.length : Int), Items := [] }], NextGen := 2, NextSeq := 1, Stamp := 0, NextValid := 1 }
def fixd (k : Nat) : TDisk × Bool := writeC (log1 k).Disk (checkOf (log1 k))
def fmtK (k : Nat) : TLog × Bool := if (open0 k).2 && (fixd k).2 then ({ log1 k with Disk := (fixd k).1, Stamp := 1 }, true) else (zlog, false)
def fmt (x : Int) : TLog × Bool := if inR x 5 11 then fmtK x.toNat else (zlog, false)

theorem free0 {k : Nat} (h : 5 ≤ k ∧ k ≤ 11) : ∃ t, freeSegs (log0 k) = 0 :: t := by
  have : k = 5 ∨ k = 6 ∨ k = 7 ∨ k = 8 ∨ k = 9 ∨ k = 10 ∨ k = 11 := by omega
  rcases this with rfl | rfl | rfl | rfl | rfl | rfl | rfl <;> exact ⟨_, rfl⟩
theorem nd_ok {k : Nat} (h : 5 ≤ k ∧ k ≤ 11) : diskOk (newDisk (8 + k * 8)) = true := newDisk_ok (by omega) (by omega)
theorem o_ok {k : Nat} (h : 5 ≤ k ∧ k ≤ 11) : diskOk (open0 k).1 = true := writeB_ok (nd_ok h) 8 headT
theorem spec_segWrite {k : Nat} (h : 5 ≤ k ∧ k ≤ 11) : F_spec_SegWrite (newDisk (8 + k * 8)) 0 0 headT = some (open0 k) := by
  have hl := head_len
  unfold F_spec_SegWrite F_spec_SegFirst
  rw [spec_in, Option.bind_some, if_pos (by decide), spec_in, Option.bind_some, if_pos (by decide)]
  rw [if_neg (by rw [show w64 (256 - 0) = 256 from rfl]; simp; omega), Option.bind_some, if_neg (by simp)]
  simp only [spec_in, Option.bind_some]
  rw [if_pos (by decide), Option.bind_some, show w64 (8 + w64 (0 * 8)) = ((8 : Nat) : Int) from rfl, spec_writeB (nd_ok h) (by omega) (by omega)]
  rfl
theorem impl_segWrite {k : Nat} (h : 5 ≤ k ∧ k ≤ 11) : F_impl_SegWrite (newDisk (8 + k * 8)) 0 0 headT = some (open0 k) := by
  have hl := head_len
  unfold F_impl_SegWrite F_impl_SegFirst
  rw [impl_in, Option.bind_some, if_pos (by decide), impl_in, Option.bind_some, if_pos (by decide)]
  rw [if_neg (by rw [show w64 (256 - 0) = 256 from rfl]; simp; omega), Option.bind_some, if_neg (by simp)]
  simp only [impl_in, Option.bind_some]
  rw [if_pos (by decide), Option.bind_some, show w64 (8 + w64 (0 * 8)) = ((8 : Nat) : Int) from rfl, impl_writeB (nd_ok h) (by omega) (by omega)]
  rfl
theorem spec_open0 {k : Nat} (h : 5 ≤ k ∧ k ≤ 11) : F_spec_l09Open_w2 (log0 k) 0 = some (if (open0 k).2 then (true, log1 k) else (false, log0 k)) := by
  obtain ⟨t, ht⟩ := free0 h
  unfold F_spec_l09Open_w2
  have e1 := spec_freeSegs (g := log0 k) (by simp [log0])
  show (F_spec_FreeSegs (log0 k)).bind _ = _
  rw [e1, Option.bind_some, ht]
  rw [if_neg (by decide), if_neg (by simp), Option.bind_some, if_neg (by simp)]
  show (F_spec_FrameText head1).bind _ = _
  rw [spec_frameText, Option.bind_some, show at? (0 :: t) 0 = some 0 from by rw [show (0 : Int) = ((0 : Nat) : Int) from rfl, at?_nat (by simp)]; rfl, Option.bind_some]
  show (F_spec_SegWrite (newDisk (8 + k * 8)) 0 0 headT).bind _ = _
  rw [spec_segWrite h, Option.bind_some, head_ok]
  cases ho : (open0 k).2
  · rfl
  · simp only [Bool.not_true, Bool.false_eq_true, if_false]
    rw [if_neg (show ¬ (decide ((log0 k).NextGen ≥ 1000000000) = true) by simp [log0]), Option.bind_some, if_neg (by simp), spec_flush (DkS.ofOk (o_ok h)), Option.bind_some, Option.bind_some, app?_ok (by simp) (by simp)]
    rfl
theorem impl_clone0 {k : Nat} (h : 5 ≤ k ∧ k ≤ 11) : F_impl_cloneLog (log0 k) = some (log0 k) := by
  unfold F_impl_cloneLog
  show (F_impl_cloneDisk (newDisk (8 + k * 8))).bind _ = _
  rw [impl_copy (DkS.ofOk (nd_ok h)), Option.bind_some]
  have e : iter (S_impl_cloneLog_1 (log0 k)) (0, []) = some [] := iter_done rfl
  rw [e]; rfl
theorem impl_open0 {k : Nat} (h : 5 ≤ k ∧ k ≤ 11) : F_impl_openSeg (log0 k) 0 = some (if (open0 k).2 then (log1 k, true) else (zlog, false)) := by
  obtain ⟨t, ht⟩ := free0 h
  unfold F_impl_openSeg
  rw [impl_freeSegs (g := log0 k) (by simp [log0]), Option.bind_some, ht]
  rw [if_neg (by decide), if_neg (by simp), if_neg (show ¬ (((log0 k).NextGen == 1000000000) = true) by simp [log0]), Option.bind_some, if_neg (by simp)]
  show (F_impl_FrameText head1).bind _ = _
  rw [impl_frameText, Option.bind_some, show at? (0 :: t) 0 = some 0 from by rw [show (0 : Int) = ((0 : Nat) : Int) from rfl, at?_nat (by simp)]; rfl, Option.bind_some]
  show (F_impl_SegWrite (newDisk (8 + k * 8)) 0 0 headT).bind _ = _
  rw [impl_segWrite h, Option.bind_some]
  cases ho : (open0 k).2
  · rfl
  · simp only [Bool.not_true, Bool.false_eq_true, if_false]
    rw [impl_clone0 h, Option.bind_some, impl_flush (DkS.ofOk (o_ok h)), Option.bind_some, Option.bind_some]
    show (app? 48 ([] : List TSeg) _).bind _ = _
    rw [app?_ok (by simp) (by simp)]
    rfl
theorem DkS.nil : DkS { Sectors := [], Cache := [] } := by
  refine ⟨?_, ?_, ?_⟩ <;> simp
theorem log1_dk {k : Nat} (h : 5 ≤ k ∧ k ≤ 11) : diskOk (log1 k).Disk = true := flush_ok (o_ok h)
theorem spec_fmt (x : Int) : F_spec_FormatDisk x = some (fmt x) := by
  unfold F_spec_FormatDisk fmt
  rw [spec_in, Option.bind_some]
  cases hr : inR x 5 11 with
  | false => rfl
  | true =>
    unfold inR at hr
    simp only [Bool.and_eq_true, decide_eq_true_eq] at hr
    obtain ⟨k, rfl⟩ : ∃ k : Nat, x = k := ⟨x.toNat, by omega⟩
    have h : 5 ≤ k ∧ k ≤ 11 := by omega
    rw [if_pos rfl, if_pos rfl, Int.toNat_natCast]
    have e : w64 (8 + w64 ((k : Int) * 8)) = ((8 + k * 8 : Nat) : Int) := by
      rw [w64_id (n := (k : Int) * 8) (by omega) (by omega), w64_id (by omega) (by omega)]; omega
    rw [e, spec_diskNew (by omega) (by omega), Option.bind_some]
    show (F_spec_l09Open_w2 (log0 k) 0).bind _ = _
    rw [spec_open0 h, Option.bind_some]
    unfold fmtK
    cases ho : (open0 k).2
    · rfl
    · simp only [if_true, Bool.true_and]
      have e1 := spec_checkOf (g := log1 k) (by simp [log1])
      show (F_spec_CheckOf (log1 k)).bind _ = _
      rw [e1, Option.bind_some]
      show (F_spec_WriteCheck (log1 k).Disk (checkOf (log1 k))).bind _ = _
      rw [spec_writeC (DkS.ofOk (log1_dk h)) (by simp [checkOf, log1]), Option.bind_some]
      show (if (!(fixd k).2) = true then _ else _) = _
      cases hf : (fixd k).2
      · rfl
      · rfl
theorem impl_fmt (x : Int) : F_impl_FormatDisk x = some (fmt x) := by
  unfold F_impl_FormatDisk fmt
  rw [impl_in, Option.bind_some]
  cases hr : inR x 5 11 with
  | false => rfl
  | true =>
    unfold inR at hr
    simp only [Bool.and_eq_true, decide_eq_true_eq] at hr
    obtain ⟨k, rfl⟩ : ∃ k : Nat, x = k := ⟨x.toNat, by omega⟩
    have h : 5 ≤ k ∧ k ≤ 11 := by omega
    rw [if_pos rfl, if_pos rfl, Int.toNat_natCast]
    have e : w64 (8 + w64 ((k : Int) * 8)) = ((8 + k * 8 : Nat) : Int) := by
      rw [w64_id (n := (k : Int) * 8) (by omega) (by omega), w64_id (by omega) (by omega)]; omega
    rw [e, impl_diskNew (by omega) (by omega), Option.bind_some]
    show (F_impl_openSeg (log0 k) 0).bind _ = _
    rw [impl_open0 h, Option.bind_some]
    unfold fmtK
    cases ho : (open0 k).2
    · have e1 := impl_checkOf (g := zlog) (by simp [zlog])
      have e2 := impl_writeC (d := zlog.Disk) DkS.nil (c := checkOf zlog) (by simp [checkOf, zlog])
      show (F_impl_CheckOf zlog).bind _ = _
      rw [e1, Option.bind_some]
      show (F_impl_WriteCheck zlog.Disk (checkOf zlog)).bind _ = _
      rw [e2]; rfl
    · simp only [if_true, Bool.true_and]
      have e1 := impl_checkOf (g := log1 k) (by simp [log1])
      show (F_impl_CheckOf (log1 k)).bind _ = _
      rw [e1, Option.bind_some]
      show (F_impl_WriteCheck (log1 k).Disk (checkOf (log1 k))).bind _ = _
      rw [impl_writeC (DkS.ofOk (log1_dk h)) (by simp [checkOf, log1]), Option.bind_some]
      show (if (!true) = true then _ else (if (!(fixd k).2) = true then _ else _)) = _
      cases hf : (fixd k).2
      · rfl
      · rfl
end Go.Proofs.YtcehlicmghnghaaGreat.V
/- FormatDisk and StoreNew. -/
namespace Go.Proofs.YtcehlicmghnghaaGreat.V
open Go Go.RowKit
set_option maxRecDepth 100000

theorem mh_log {x : TLog} (h : Sz_TLog x) : ∃ (m : Nat) (r' : List (List UInt8) × List TWrite × List TSeg), m ≤ 100000000000000 ∧
    guardO (fun r : Int × List (List UInt8) × List TWrite × List TSeg => x.Disk.Sectors.length = r.2.1.length ∧ x.Disk.Cache.length = r.2.2.1.length ∧ x.Used.length = r.2.2.2.length) (F_laws_markLog_w x.Disk.Sectors x.Disk.Cache x.Segs x.Used x.NextGen x.NextSeq x.Stamp x.NextValid 1) = some ((m : Int), r') ∧ (x.Disk.Sectors.length = r'.1.length ∧ x.Disk.Cache.length = r'.2.1.length ∧ x.Used.length = r'.2.2.length) ∧
    F_laws_heldLog { Disk := { Sectors := r'.1, Cache := r'.2.1 }, Segs := x.Segs, Used := r'.2.2, NextGen := x.NextGen, NextSeq := x.NextSeq, Stamp := x.Stamp, NextValid := x.NextValid } 1 = some (m : Int) := by
  have hs := h.sDisk.sSectors.1
  have hc := h.sDisk.sCache.1
  have hu := h.sUsed.1
  have nn : ∀ n : Nat, ¬ ((n : Int) < 0) := fun n => by omega
  have m1 := mark_disk (s := x.Disk.Sectors) (c := x.Disk.Cache) (m0 := 1) hs hc (by omega)
  have m2 : guardO (fun r : Int × List TSeg => x.Used.length = r.2.length) (F_laws_markSegS_w x.Used ((1 + 1 * x.Disk.Sectors.length + 2 * x.Disk.Cache.length : Nat) : Int)) = some _ := guardO_of (p_laws_markSegS_w h.sUsed (by omega)) (by simp [mkL_len])
  have hb := cnL_le x.Used (b_laws_markSegS_w h.sUsed)
  have k1 := p_laws_heldStringS (l := x.Disk.Sectors) (m0 := 1) hs (by omega)
  have k2 := p_laws_heldWriteS (l := x.Disk.Cache) (m0 := 1 + 1 * x.Disk.Sectors.length) hc (by omega)
  have k3 := p_laws_heldSegS (l := x.Used) (m0 := 1 + 1 * x.Disk.Sectors.length + 2 * x.Disk.Cache.length) h.sUsed (by omega)
  have e : ∃ q : Int × List (List UInt8) × List TWrite × List TSeg, F_laws_markLog_w x.Disk.Sectors x.Disk.Cache x.Segs x.Used x.NextGen x.NextSeq x.Stamp x.NextValid 1 = some q ∧ (∃ m : Nat, m ≤ 100000000000000 ∧ q.1 = m) ∧ (x.Disk.Sectors.length = q.2.1.length ∧ x.Disk.Cache.length = q.2.2.1.length ∧ x.Used.length = q.2.2.2.length) ∧ F_laws_heldLog { Disk := { Sectors := q.2.1, Cache := q.2.2.1 }, Segs := x.Segs, Used := q.2.2.2, NextGen := x.NextGen, NextSeq := x.NextSeq, Stamp := x.Stamp, NextValid := x.NextValid } 1 = some q.1 := by
    unfold F_laws_markLog_w
    rw [show ((1 : Nat) : Int) = 1 from rfl] at m1
    rw [m1, Option.bind_some, m2, Option.bind_some]
    refine ⟨_, rfl, ⟨_, by omega, rfl⟩, by simp [mkL_len], ?_⟩
    unfold F_laws_heldLog F_laws_heldDisk
    rw [show ((1 : Nat) : Int) = 1 from rfl] at k1
    simp only [k1, k2, k3, Option.bind_some, nn, decide_false, Bool.false_eq_true, if_false]
  obtain ⟨q, e1, ⟨m, hm, e2⟩, e3, e4⟩ := e
  exact ⟨m, q.2, hm, by rw [← e2]; exact guardO_of e1 e3, e3, by rw [← e2]; exact e4⟩
theorem Sz_disk {d : TDisk} (h : diskOk d = true) : Sz_TDisk d := by
  obtain ⟨h1, h2, h3, h4⟩ := diskOk_iff.1 h
  exact ⟨⟨by omega, fun y hy => by rw [h3 y hy]; omega⟩, ⟨by omega, fun y hy => ⟨by rw [(h4 y hy).2]; omega⟩⟩⟩
theorem Sz_zlog : Sz_TLog zlog := ⟨⟨⟨by simp [zlog], by simp [zlog]⟩, ⟨by simp [zlog], by simp [zlog]⟩⟩, ⟨by simp [zlog], by simp [zlog]⟩⟩
theorem Sz_fmt (x : Int) : Sz_TLog (fmt x).1 := by
  unfold fmt
  split
  case isFalse => exact Sz_zlog
  rename_i hr
  unfold inR at hr
  simp only [Bool.and_eq_true, decide_eq_true_eq] at hr
  have h : 5 ≤ x.toNat ∧ x.toNat ≤ 11 := by omega
  unfold fmtK
  split
  case isFalse => exact Sz_zlog
  refine ⟨?_, ?_⟩
  · show Sz_TDisk (fixd x.toNat).1
    rcases writeC_cases (log1 x.toNat).Disk (checkOf (log1 x.toNat)) with hc | hc
    · have : (fixd x.toNat).1 = (log1 x.toNat).Disk := hc
      rw [this]; exact Sz_disk (log1_dk h)
    · exact Sz_disk hc
  · show (log1 x.toNat).Used.length ≤ 1048576 ∧ ∀ y ∈ (log1 x.toNat).Used, Sz_TSeg y
    refine ⟨by simp [log1], ?_⟩
    intro y hy
    have : y = { No := 0, Gen := 1, End := (headT.length : Int), Items := [] } := by simpa [log1] using hy
    subst this
    exact ⟨by simp, by simp⟩
def newS (x : Int) : TStore × Bool := ({ Log := (fmt x).1, Freed := [] }, (fmt x).2)
theorem fmt_false {x : Int} (h : (fmt x).2 = false) : (fmt x).1 = zlog := by
  unfold fmt at h ⊢
  split at h
  · rename_i hr
    rw [if_pos hr]
    unfold fmtK at h ⊢
    split at h
    · cases h
    · rename_i hq; rw [if_neg hq]
  · rename_i hr; rw [if_neg hr]
theorem spec_new (x : Int) : F_spec_StoreNew x = some (newS x) := by
  unfold F_spec_StoreNew newS
  rw [spec_fmt, Option.bind_some]
  cases hf : (fmt x).2
  · rw [fmt_false hf]; rfl
  · rfl
theorem impl_new (x : Int) : F_impl_StoreNew x = some (newS x) := by
  unfold F_impl_StoreNew newS
  rw [impl_fmt, Option.bind_some]
theorem mh_store {x : TStore} (h : Sz_TStore x) : ∃ (m : Nat) (r' : List (List UInt8) × List TWrite × List TSeg × List Int),
    guardO (fun r : Int × List (List UInt8) × List TWrite × List TSeg × List Int => x.Log.Disk.Sectors.length = r.2.1.length ∧ x.Log.Disk.Cache.length = r.2.2.1.length ∧ x.Log.Used.length = r.2.2.2.1.length ∧ x.Freed.length = r.2.2.2.2.length) (F_laws_markStore_w x.Log.Disk.Sectors x.Log.Disk.Cache x.Log.Segs x.Log.Used x.Log.NextGen x.Log.NextSeq x.Log.Stamp x.Log.NextValid x.Freed 1) = some ((m : Int), r') ∧
    F_laws_heldStore { Log := { Disk := { Sectors := r'.1, Cache := r'.2.1 }, Segs := x.Log.Segs, Used := r'.2.2.1, NextGen := x.Log.NextGen, NextSeq := x.Log.NextSeq, Stamp := x.Log.Stamp, NextValid := x.Log.NextValid }, Freed := r'.2.2.2 } 1 = some (m : Int) := by
  obtain ⟨m, r', hm, e1, e2, e3⟩ := mh_log h.sLog
  have nn : ∀ n : Nat, ¬ ((n : Int) < 0) := fun n => by omega
  have m2 : guardO (fun r : Int × List Int => x.Freed.length = r.2.length) (F_laws_markIntS_w x.Freed (m : Int)) = some _ := guardO_of (p_laws_markIntS_w (m0 := m) h.sFreed (by omega)) (by simp)
  have k2 := p_laws_heldIntS (l := x.Freed) (m0 := m) h.sFreed (by omega)
  have e : ∃ q : Int × List (List UInt8) × List TWrite × List TSeg × List Int, F_laws_markStore_w x.Log.Disk.Sectors x.Log.Disk.Cache x.Log.Segs x.Log.Used x.Log.NextGen x.Log.NextSeq x.Log.Stamp x.Log.NextValid x.Freed 1 = some q ∧ (∃ m : Nat, q.1 = m) ∧ (x.Log.Disk.Sectors.length = q.2.1.length ∧ x.Log.Disk.Cache.length = q.2.2.1.length ∧ x.Log.Used.length = q.2.2.2.1.length ∧ x.Freed.length = q.2.2.2.2.length) ∧ F_laws_heldStore { Log := { Disk := { Sectors := q.2.1, Cache := q.2.2.1 }, Segs := x.Log.Segs, Used := q.2.2.2.1, NextGen := x.Log.NextGen, NextSeq := x.Log.NextSeq, Stamp := x.Log.Stamp, NextValid := x.Log.NextValid }, Freed := q.2.2.2.2 } 1 = some q.1 := by
    unfold F_laws_markStore_w
    rw [e1, Option.bind_some, m2, Option.bind_some]
    refine ⟨_, rfl, ⟨_, rfl⟩, ⟨e2.1, e2.2.1, e2.2.2, by simp⟩, ?_⟩
    unfold F_laws_heldStore
    simp only [e3, k2, Option.bind_some, nn, decide_false, Bool.false_eq_true, if_false]
  obtain ⟨q, e1', ⟨m', e2'⟩, e3', e4'⟩ := e
  exact ⟨m', q.2, by rw [← e2']; exact guardO_of e1' e3', by rw [← e2']; exact e4'⟩
theorem pure_FnExactStoreNew {x : Int} (_w : (Lit.int .i64 x).wf = true) : F_laws_FnExactStoreNew x = some true := by
  have hs : Sz_TStore (newS x).1 := ⟨Sz_fmt x, by simp [newS]⟩
  obtain ⟨m, r', m1, m2⟩ := mh_store hs
  have nn : ∀ n : Nat, ¬ ((n : Int) < 0) := fun n => by omega
  have he := p_laws_eqStore hs
  unfold F_laws_FnExactStoreNew
  simp only [spec_new, impl_new, Option.bind_some, he, if_true, beq_self_eq_true, Bool.not_true, Bool.false_eq_true, if_false, m1, m2, nn, decide_false, bne_self_eq_false]
end Go.Proofs.YtcehlicmghnghaaGreat.V
