/- The pure part. -/
import Derived.Test.YtcehlicmghnghaaGreatXT
/- Ascending lists of numbers, each number once. No program in sight. -/
namespace Go.Proofs.YtcehlicmghnghaaGreat.V
open Go
def uniq (l : List Int) : List Int := Lib.compact (sortI l)
def Asc (l : List Int) : Prop := l.Pairwise (fun a b => a < b)
theorem asc_eq : ∀ {l m : List Int}, Asc l → Asc m → (∀ x, x ∈ l ↔ x ∈ m) → l = m
  | [], [], _, _, _ => rfl
  | [], y :: m, _, _, h => absurd ((h y).2 (by simp)) (by simp)
  | x :: l, [], _, _, h => absurd ((h x).1 (by simp)) (by simp)
  | x :: l, y :: m, hl, hm, h => by
    have hl' := List.pairwise_cons.1 hl
    have hm' := List.pairwise_cons.1 hm
    have hxy : x = y := by
      have h1 := (h x).1 (by simp)
      have h2 := (h y).2 (by simp)
      rcases List.mem_cons.1 h1 with e | e
      · exact e
      · rcases List.mem_cons.1 h2 with e' | e'
        · exact e'.symm
        · have := hl'.1 y e'
          have := hm'.1 x e
          omega
    subst hxy
    congr 1
    refine asc_eq hl'.2 hm'.2 fun z => ?_
    constructor
    · intro hz
      have := hl'.1 z hz
      rcases List.mem_cons.1 ((h z).1 (by simp [hz])) with e | e
      · omega
      · exact e
    · intro hz
      have := hm'.1 z hz
      rcases List.mem_cons.1 ((h z).2 (by simp [hz])) with e | e
      · omega
      · exact e
theorem upTo_spec (d : Array Int) (hs : ∀ i j, i < j → j < d.size → d[i]! ≤ d[j]!) : ∀ m, m ≤ d.size → Asc (Lib.compactUpTo d m) ∧ (∀ x, x ∈ Lib.compactUpTo d m ↔ ∃ i, i < m ∧ d[i]! = x)
  | 0, _ => by simp [Lib.compactUpTo, Asc]
  | m + 1, hm => by
    obtain ⟨h1, h2⟩ := upTo_spec d hs m (by omega)
    rw [Lib.compactUpTo_succ]
    cases hk : Lib.keeps d m
    · simp only [Bool.false_eq_true, if_false, List.append_nil]
      refine ⟨h1, fun x => ?_⟩
      rw [h2]
      constructor
      · rintro ⟨i, hi, e⟩; exact ⟨i, by omega, e⟩
      · rintro ⟨i, hi, e⟩
        by_cases him : i < m
        · exact ⟨i, him, e⟩
        · have hi' : i = m := by omega
          subst hi'
          simp only [Lib.keeps, decide_eq_false_iff_not, not_or, Decidable.not_not, ne_eq] at hk
          exact ⟨i - 1, by omega, by rw [← hk.2]; exact e⟩
    · simp only [if_true]
      refine ⟨?_, fun x => ?_⟩
      · unfold Asc
        rw [List.pairwise_append]
        refine ⟨h1, by simp, ?_⟩
        intro a ha b hb
        obtain ⟨i, hi, rfl⟩ := (h2 a).1 ha
        have hb' : b = d[m]! := by simpa using hb
        subst hb'
        simp only [Lib.keeps, decide_eq_true_eq] at hk
        rcases hk with hk | hk
        · omega
        · have h3 : d[m - 1]! ≤ d[m]! := hs (m - 1) m (by omega) (by omega)
          have h4 : d[i]! ≤ d[m - 1]! := by
            by_cases e : i = m - 1
            · rw [e]; exact Int.le_refl _
            · exact hs i (m - 1) (by omega) (by omega)
          have hk' : d[m]! ≠ d[m - 1]! := hk
          omega
      · rw [List.mem_append, h2]
        constructor
        · rintro (⟨i, hi, e⟩ | e)
          · exact ⟨i, by omega, e⟩
          · exact ⟨m, by omega, by simpa using Eq.symm (List.mem_singleton.1 e)⟩
        · rintro ⟨i, hi, e⟩
          by_cases him : i < m
          · exact .inl ⟨i, him, e⟩
          · have hi' : i = m := by omega
            subst hi'
            exact .inr (by simp [← e])
theorem sortI_sorted (l : List Int) : (sortI l).Pairwise (fun a b => a ≤ b) := by
  have h := List.pairwise_mergeSort (le := fun x y : Int => decide (x ≤ y)) (fun a b c h1 h2 => by simp only [decide_eq_true_eq] at *; omega) (fun a b => by simp only [Bool.or_eq_true, decide_eq_true_eq]; omega) l
  exact h.imp (fun h => by simpa using h)
theorem mem_sortI {l : List Int} {x : Int} : x ∈ sortI l ↔ x ∈ l := by simp [sortI]
theorem uniq_spec (l : List Int) : Asc (uniq l) ∧ ∀ x, x ∈ uniq l ↔ x ∈ l := by
  have hs : ∀ i j, i < j → j < (sortI l).toArray.size → (sortI l).toArray[i]! ≤ (sortI l).toArray[j]! := by
    intro i j hij hj
    have hj' : j < (sortI l).length := by simpa using hj
    have := List.pairwise_iff_getElem.1 (sortI_sorted l) i j (by omega) hj' hij
    simpa [hj', show i < (sortI l).length by omega] using this
  obtain ⟨h1, h2⟩ := upTo_spec (sortI l).toArray hs (sortI l).length (by simp)
  refine ⟨h1, fun x => ?_⟩
  have h3 : x ∈ uniq l ↔ ∃ i, i < (sortI l).length ∧ (sortI l).toArray[i]! = x := h2 x
  rw [h3, ← mem_sortI (l := l), List.mem_iff_getElem]
  constructor
  · rintro ⟨i, hi, e⟩; exact ⟨i, hi, by simpa [hi] using e⟩
  · rintro ⟨i, hi, e⟩; exact ⟨i, hi, by simpa [hi] using e⟩
theorem uniq_eq {l m : List Int} (hm : Asc m) (h : ∀ x, x ∈ l ↔ x ∈ m) : uniq l = m :=
  asc_eq (uniq_spec l).1 hm fun x => ((uniq_spec l).2 x).trans (h x)
/-- A number put in its place. -/
def ins (l : List Int) (x : Int) : List Int := l.filter (fun y => decide (y < x)) ++ ([x] ++ l.filter (fun y => decide (y > x)))
theorem ins_asc {l : List Int} (h : Asc l) (x : Int) : Asc (ins l x) := by
  unfold ins Asc
  rw [List.pairwise_append]
  refine ⟨h.filter _, ?_, ?_⟩
  · rw [List.singleton_append, List.pairwise_cons]
    exact ⟨fun a ha => by have := (List.mem_filter.1 ha).2; simp at this; omega, h.filter _⟩
  · intro a ha b hb
    have ha' := (List.mem_filter.1 ha).2
    simp only [decide_eq_true_eq] at ha'
    rcases List.mem_append.1 hb with hb | hb
    · have : b = x := by simpa using hb
      omega
    · have := (List.mem_filter.1 hb).2
      simp only [decide_eq_true_eq] at this
      omega
theorem mem_ins {l : List Int} {x y : Int} : y ∈ ins l x ↔ y = x ∨ y ∈ l := by
  unfold ins
  simp only [List.mem_append, List.mem_filter, List.mem_singleton, decide_eq_true_eq]
  constructor
  · rintro (⟨h, _⟩ | h | ⟨h, _⟩)
    · exact .inr h
    · exact .inl h
    · exact .inr h
  · rintro (h | h)
    · exact .inr (.inl h)
    · rcases Int.lt_trichotomy y x with h1 | h1 | h1
      · exact .inl ⟨h, h1⟩
      · exact .inr (.inl h1)
      · exact .inr (.inr ⟨h, h1⟩)
theorem insAll_spec (l : List Int) : ∀ s : List Int, Asc s → Asc (l.foldl ins s) ∧ ∀ x, x ∈ l.foldl ins s ↔ x ∈ s ∨ x ∈ l := by
  induction l with
  | nil => intro s hs; exact ⟨hs, by simp⟩
  | cons a l ih =>
    intro s hs
    obtain ⟨h1, h2⟩ := ih (ins s a) (ins_asc hs a)
    refine ⟨h1, fun x => ?_⟩
    rw [List.foldl_cons, h2, mem_ins, List.mem_cons]
    constructor
    · rintro ((h | h) | h)
      · exact .inr (.inl h)
      · exact .inl h
      · exact .inr (.inr h)
    · rintro (h | h | h)
      · exact .inl (.inr h)
      · exact .inl (.inl h)
      · exact .inr h
theorem insAll_uniq (l : List Int) : l.foldl ins [] = uniq l := by
  obtain ⟨h1, h2⟩ := insAll_spec l [] .nil
  exact (uniq_eq h1 fun x => by rw [h2]; simp).symm
theorem uniq_length (l : List Int) : (uniq l).length ≤ l.length := by
  have := compact_length (sortI l)
  rw [sortI_length] at this
  exact this
theorem asc_filter {l : List Int} (h : Asc l) (p : Int → Bool) : Asc (l.filter p) := List.Pairwise.filter p h
theorem uniq_filter (l : List Int) (p : Int → Bool) : (uniq l).filter p = uniq (l.filter p) := by
  refine (uniq_eq (asc_filter (uniq_spec l).1 p) fun x => ?_).symm
  rw [List.mem_filter, List.mem_filter, (uniq_spec l).2]
end Go.Proofs.YtcehlicmghnghaaGreat.V
/- Loops that count, numbers, words: plain lists and numbers. -/
namespace Go.Proofs.YtcehlicmghnghaaGreat.V
open Go Go.RowKit
/-! ### loops that count -/
theorem iter_range {σ ρ : Type} {step : σ → Option (σ ⊕ ρ)} (st : Nat → σ) (n : Nat) {r : ρ} (hs : ∀ i, i < n → step (st i) = some (.inl (st (i + 1)))) (he : step (st n) = some (.inr r)) : iter step (st 0) = some r := by
  have key : ∀ d i, i + d = n → iter step (st i) = some r := by
    intro d
    induction d with
    | zero => intro i hi; have : i = n := by omega
              subst this; exact iter_done he
    | succ d ih => intro i hi; rw [iter_next (hs i (by omega))]; exact ih (i + 1) (by omega)
  exact key n 0 (by omega)
/-! ### numbers -/
theorem w64_id {n : Int} (h : -9223372036854775808 ≤ n) (h' : n < 9223372036854775808) : w64 n = n := by
  unfold w64 IntKind.wrap
  simp [IntKind.bits, IntKind.signed]
  omega
theorem w64_nat {n : Nat} (h : n < 9223372036854775808) : w64 (n : Int) = n := w64_id (by omega) (by omega)
theorem w64_succ {n : Nat} (h : n < 9223372036854775807) : w64 ((n : Int) + 1) = ((n + 1 : Nat) : Int) := by rw [w64_id (by omega) (by omega)]; omega
theorem u8_wrap (n : Int) : IntKind.u8.wrap n = n % 256 := by
  unfold IntKind.wrap
  simp [IntKind.bits, IntKind.signed]
theorem u32_wrap (n : Int) : IntKind.u32.wrap n = n % 4294967296 := by
  unfold IntKind.wrap
  simp [IntKind.bits, IntKind.signed]
theorem at?_nat {α : Type} {l : List α} {i : Nat} (h : i < l.length) : at? l (i : Int) = some l[i] := by
  unfold at?
  rw [if_pos ⟨by omega, by omega⟩]
  simp [h]
theorem bt?_nat {s : List UInt8} {i : Nat} (h : i < s.length) : bt? s (i : Int) = some s[i] := by
  unfold bt?
  rw [if_pos (by omega)]
  simp [h]
theorem cat?_ok {s t : List UInt8} (h : s.length + t.length ≤ 4611686018427387904) : cat? s t = some (s ++ t) := by unfold cat?; rw [if_pos h]
theorem app?_ok {α : Type} {byt : Nat} {l m : List α} (h : l.length + m.length ≤ 1099511627776) (h2 : (l.length + m.length) * byt ≤ 140737488355328) : app? byt l m = some (l ++ m) := by unfold app?; rw [if_pos ⟨h, h2⟩]
theorem andv127 {n : Nat} (h' : n < 9223372036854775808) : andv .i64 n 127 = ((n % 128 : Nat) : Int) := by
  show IntKind.i64.wrap ((BitVec.ofInt 64 (n : Int) &&& BitVec.ofInt 64 127).toNat : Int) = _
  have e1 : BitVec.ofInt 64 (n : Int) = BitVec.ofNat 64 n := by simp
  have e2 : BitVec.ofInt 64 (127 : Int) = BitVec.ofNat 64 127 := by simp
  rw [e1, e2]
  have e3 : (BitVec.ofNat 64 n &&& BitVec.ofNat 64 127).toNat = n % 128 := by
    rw [BitVec.toNat_and]
    simp only [BitVec.toNat_ofNat]
    rw [Nat.mod_eq_of_lt (a := n) (by omega)]
    exact Nat.and_two_pow_sub_one_eq_mod n 7
  rw [e3]
  exact w64_nat (by omega)
theorem orv128 {n : Nat} (h : n < 128) : orv .i64 n 128 = ((n + 128 : Nat) : Int) := by
  show IntKind.i64.wrap ((BitVec.ofInt 64 (n : Int) ||| BitVec.ofInt 64 128).toNat : Int) = _
  have e1 : BitVec.ofInt 64 (n : Int) = BitVec.ofNat 64 n := by simp
  have e2 : BitVec.ofInt 64 (128 : Int) = BitVec.ofNat 64 128 := by simp
  rw [e1, e2]
  have e3 : (BitVec.ofNat 64 n ||| BitVec.ofNat 64 128).toNat = n + 128 := by
    rw [BitVec.toNat_or]
    simp only [BitVec.toNat_ofNat]
    rw [Nat.mod_eq_of_lt (a := n) (by omega)]
    have := Nat.two_pow_add_eq_or_of_lt (i := 7) (b := n) (by omega) 1
    rw [Nat.or_comm] at this
    simp at this ⊢
    omega
  rw [e3]
  exact w64_nat (by omega)
theorem andv1 {n : Nat} (h' : n < 4294967296) : andv .u32 n 1 = ((n % 2 : Nat) : Int) := by
  show IntKind.u32.wrap ((BitVec.ofInt 32 (n : Int) &&& BitVec.ofInt 32 1).toNat : Int) = _
  have e1 : BitVec.ofInt 32 (n : Int) = BitVec.ofNat 32 n := by simp
  have e2 : BitVec.ofInt 32 (1 : Int) = BitVec.ofNat 32 1 := by simp
  rw [e1, e2]
  have e3 : (BitVec.ofNat 32 n &&& BitVec.ofNat 32 1).toNat = n % 2 := by
    rw [BitVec.toNat_and]
    simp only [BitVec.toNat_ofNat]
    rw [Nat.mod_eq_of_lt (a := n) (by omega)]
    exact Nat.and_two_pow_sub_one_eq_mod n 1
  rw [e3, u32_wrap]
  omega
theorem shrv7 (n : Int) : shrv .i64 n 7 = n / 128 := by
  unfold shrv
  rw [Int.fdiv_eq_ediv_of_nonneg _ (by decide)]
  rfl
theorem shrv1 (n : Int) : shrv .u32 n 1 = n / 2 := by
  unfold shrv
  rw [Int.fdiv_eq_ediv_of_nonneg _ (by decide)]
  rfl
/-! ### numbers as words -/
def vtl (n : Nat) : List Int := if h : 127 < n then ((n % 128 + 128 : Nat) : Int) :: vtl (n / 128) else [(n : Int)]
  termination_by n
  decreasing_by omega
theorem vtl_big {n : Nat} (h : 127 < n) : vtl n = ((n % 128 + 128 : Nat) : Int) :: vtl (n / 128) := by rw [vtl, dif_pos h]
theorem vtl_small {n : Nat} (h : n ≤ 127) : vtl n = [(n : Int)] := by rw [vtl, dif_neg (by omega)]
theorem vtl_len : ∀ (k n : Nat), n < 128 ^ k → (vtl n).length ≤ k + 1
  | 0, n, h => by rw [vtl_small (by simp at h; omega)]; simp
  | k + 1, n, h => by
    by_cases hb : 127 < n
    · rw [vtl_big hb]
      have := vtl_len k (n / 128) (by rw [Nat.pow_succ] at h; exact Nat.div_lt_of_lt_mul (by rw [Nat.mul_comm]; exact h))
      simp; omega
    · rw [vtl_small (by omega)]; simp
theorem vtl_len10 {n : Nat} (h : n < 9223372036854775808) : (vtl n).length ≤ 11 := vtl_len 10 n (Nat.lt_trans h (by decide))
/-- The loop that both have: what is left, and what was laid. -/
theorem var_loop {step : Int × List Int → Option ((Int × List Int) ⊕ (Int × List Int))}
    (hbig : ∀ (n : Nat) out, 127 < n → n < 9223372036854775808 → out.length ≤ 1000 → step ((n : Int), out) = some (.inl (((n / 128 : Nat) : Int), out ++ [((n % 128 + 128 : Nat) : Int)])))
    (hsmall : ∀ (n : Int) out, n ≤ 127 → step (n, out) = some (.inr (n, out))) :
    ∀ (n : Nat) (out : List Int), n < 9223372036854775808 → out.length + 11 ≤ 1000 → ∃ (m : Nat) (o : List Int), iter step ((n : Int), out) = some ((m : Int), o) ∧ m ≤ 127 ∧ o ++ [(m : Int)] = out ++ vtl n ∧ o.length ≤ 1000 := by
  have key : ∀ (k n : Nat) (out : List Int), n < 128 ^ k → n < 9223372036854775808 → out.length + k ≤ 1000 → ∃ (m : Nat) (o : List Int), iter step ((n : Int), out) = some ((m : Int), o) ∧ m ≤ 127 ∧ o ++ [(m : Int)] = out ++ vtl n ∧ o.length ≤ 1000 := by
    intro k
    induction k with
    | zero =>
      intro n out hk hn ho
      have h1 : n ≤ 127 := by simp at hk; omega
      exact ⟨n, out, iter_done (hsmall n out (by omega)), h1, by rw [vtl_small h1], by omega⟩
    | succ k ih =>
      intro n out hk hn ho
      by_cases hb : 127 < n
      · obtain ⟨m, o, h1, h2, h3, h4⟩ := ih (n / 128) (out ++ [((n % 128 + 128 : Nat) : Int)]) (by rw [Nat.pow_succ] at hk; exact Nat.div_lt_of_lt_mul (by rw [Nat.mul_comm]; exact hk)) (by omega) (by simp; omega)
        refine ⟨m, o, ?_, h2, ?_, h4⟩
        · rw [iter_next (hbig n out hb hn (by omega))]; exact h1
        · rw [h3, vtl_big hb]; simp
      · exact ⟨n, out, iter_done (hsmall n out (by omega)), by omega, by rw [vtl_small (by omega)], by omega⟩
  intro n out hn ho
  exact key 11 n out (Nat.lt_trans hn (by decide)) hn ho
def vt (n : Int) : List UInt8 := if 0 ≤ n then (vtl n.toNat).map ofI else [ofI (n % 256)]
theorem spec_var {n : Int} (h : -9223372036854775808 ≤ n) (h' : n < 9223372036854775808) : F_spec_l01Var n = some (vt n) := by
  have hsmall : ∀ (n : Int) out, n ≤ 127 → S_spec_l01Var_1 (n, out) = some (.inr (n, out)) := by
    intro n out hn
    unfold S_spec_l01Var_1
    simp [show ¬ n > 127 by omega]
  unfold F_spec_l01Var vt
  by_cases h0 : 0 ≤ n
  · obtain ⟨m, rfl⟩ : ∃ m : Nat, n = m := ⟨n.toNat, by omega⟩
    obtain ⟨m', o, h1, h2, h3, h4⟩ := var_loop (step := S_spec_l01Var_1) (by
      intro n out hb hn ho
      unfold S_spec_l01Var_1
      have e1 : w64 (Int.tmod (n : Int) 128 + 128) = ((n % 128 + 128 : Nat) : Int) := by
        rw [Int.tmod_eq_emod_of_nonneg (by omega), w64_id (by omega) (by omega)]; omega
      have e2 : w64 (Int.tdiv (n : Int) 128) = ((n / 128 : Nat) : Int) := by
        rw [Int.tdiv_eq_ediv_of_nonneg (by omega), w64_id (by omega) (by omega)]; omega
      have e3 : IntKind.u8.wrap ((n % 128 + 128 : Nat) : Int) = ((n % 128 + 128 : Nat) : Int) := by rw [u8_wrap]; omega
      simp only [show decide ((n : Int) > 127) = true from by simp; omega, if_true, e1, e2, e3]
      rw [app?_ok (by simp; omega) (by simp; omega)]
      rfl) hsmall m [] (by omega) (by simp)
    rw [if_pos h0, h1]
    simp only [Option.bind_some]
    rw [app?_ok (by simp; omega) (by simp; omega)]
    simp only [Option.bind_some, u8_wrap]
    rw [show ((m' : Int) % 256) = m' by omega, h3]
    simp
  · rw [if_neg h0, iter_done (hsmall n [] (by omega))]
    simp only [Option.bind_some]
    rw [app?_ok (by simp) (by simp)]
    simp [u8_wrap]
theorem impl_var {n : Int} (h : -9223372036854775808 ≤ n) (h' : n < 9223372036854775808) : F_impl_varText n = some (vt n) := by
  have hsmall : ∀ (n : Int) out, n ≤ 127 → S_impl_varText_1 (n, out) = some (.inr (n, out)) := by
    intro n out hn
    unfold S_impl_varText_1
    simp [show ¬ n > 127 by omega]
  unfold F_impl_varText vt
  by_cases h0 : 0 ≤ n
  · obtain ⟨m, rfl⟩ : ∃ m : Nat, n = m := ⟨n.toNat, by omega⟩
    obtain ⟨m', o, h1, h2, h3, h4⟩ := var_loop (step := S_impl_varText_1) (by
      intro n out hb hn ho
      unfold S_impl_varText_1
      have e1 : orv .i64 (andv .i64 (n : Int) 127) 128 = ((n % 128 + 128 : Nat) : Int) := by
        rw [andv127 hn, orv128 (by omega)]
      have e2 : shrv .i64 (n : Int) 7 = ((n / 128 : Nat) : Int) := by rw [shrv7]; omega
      have e3 : IntKind.u8.wrap ((n % 128 + 128 : Nat) : Int) = ((n % 128 + 128 : Nat) : Int) := by rw [u8_wrap]; omega
      simp only [show decide ((n : Int) > 127) = true from by simp; omega, if_true, e1, e2, e3]
      rw [app?_ok (by simp; omega) (by simp; omega)]
      rfl) hsmall m [] (by omega) (by simp)
    rw [if_pos h0, h1]
    simp only [Option.bind_some]
    rw [app?_ok (by simp; omega) (by simp; omega)]
    simp only [Option.bind_some, u8_wrap]
    rw [show ((m' : Int) % 256) = m' by omega, h3]
    simp
  · rw [if_neg h0, iter_done (hsmall n [] (by omega))]
    simp only [Option.bind_some]
    rw [app?_ok (by simp) (by simp)]
    simp [u8_wrap]
theorem vt_len {n : Int} (h' : n < 9223372036854775808) : (vt n).length ≤ 11 := by
  unfold vt
  split
  · simp; exact vtl_len10 (by omega)
  · simp
end Go.Proofs.YtcehlicmghnghaaGreat.V
/- Sums, words, what a record must be. -/
namespace Go.Proofs.YtcehlicmghnghaaGreat.V
open Go Go.RowKit
/-! ### sums -/
def sumBit (n : Nat) : Nat := if n % 2 = 1 then (xorv .u32 ((n / 2 : Nat) : Int) 3558460437).toNat else n / 2
theorem xorv_range (x y : Int) : 0 ≤ xorv .u32 x y ∧ xorv .u32 x y < 4294967296 := by
  unfold xorv
  rw [u32_wrap]
  omega
theorem sumBit_lt {n : Nat} (h : n < 4294967296) : sumBit n < 4294967296 := by
  unfold sumBit
  have := xorv_range ((n / 2 : Nat) : Int) 3558460437
  split <;> omega
def iterK {α : Type} (f : α → α) : Nat → α → α
  | 0, a => a
  | k + 1, a => f (iterK f k a)
theorem iterK_lt (k : Nat) {n : Nat} (h : n < 4294967296) : iterK sumBit k n < 4294967296 := by
  induction k with
  | zero => exact h
  | succ k ih => exact sumBit_lt ih
theorem spec_sum2 {n : Nat} (h : n < 4294967296) : iter S_spec_SumMore_2 ((n : Int), 0) = some ((iterK sumBit 8 n : Nat) : Int) := by
  refine iter_range (fun k => (((iterK sumBit k n : Nat) : Int), (k : Int))) 8 ?_ ?_
  · intro k hk
    have hl := iterK_lt k h
    unfold S_spec_SumMore_2
    have e0 : w64 ((k : Int) + 1) = ((k + 1 : Nat) : Int) := w64_succ (by omega)
    generalize hm : iterK sumBit k n = m at hl
    have e1 : IntKind.u32.wrap (Int.tdiv (m : Int) 2) = ((m / 2 : Nat) : Int) := by
      rw [u32_wrap, Int.tdiv_eq_ediv_of_nonneg (by omega)]; omega
    have e2 : Int.tmod (m : Int) 2 = ((m % 2 : Nat) : Int) := by rw [Int.tmod_eq_emod_of_nonneg (by omega)]; omega
    simp only [show decide ((k : Int) < 8) = true from by simp; omega, if_true, e0, e1, e2]
    have e3 : iterK sumBit (k + 1) n = sumBit m := by simp [iterK, hm]
    rw [e3]
    unfold sumBit
    by_cases hb : m % 2 = 1
    · have := xorv_range ((m / 2 : Nat) : Int) 3558460437
      simp only [hb, if_true]
      rw [if_pos (by simp)]
      congr 3
    · rw [if_neg (by simp; omega), if_neg hb]
  · unfold S_spec_SumMore_2
    simp
theorem impl_sum2 {n : Nat} (h : n < 4294967296) : iter S_impl_SumMore_2 ((n : Int), 0) = some ((iterK sumBit 8 n : Nat) : Int) := by
  refine iter_range (fun k => (((iterK sumBit k n : Nat) : Int), (k : Int))) 8 ?_ ?_
  · intro k hk
    have hl := iterK_lt k h
    unfold S_impl_SumMore_2
    have e0 : w64 ((k : Int) + 1) = ((k + 1 : Nat) : Int) := w64_succ (by omega)
    generalize hm : iterK sumBit k n = m at hl
    have e1 : shrv .u32 (m : Int) 1 = ((m / 2 : Nat) : Int) := by rw [shrv1]; omega
    have e2 : andv .u32 (m : Int) 1 = ((m % 2 : Nat) : Int) := andv1 hl
    simp only [show decide ((k : Int) < 8) = true from by simp; omega, if_true, e0, e1, e2]
    have e3 : iterK sumBit (k + 1) n = sumBit m := by simp [iterK, hm]
    rw [e3]
    unfold sumBit
    by_cases hb : m % 2 = 1
    · have := xorv_range ((m / 2 : Nat) : Int) 3558460437
      simp only [hb, if_true]
      rw [if_pos (by simp)]
      congr 3
    · rw [if_neg (by simp; omega), if_neg hb]
  · unfold S_impl_SumMore_2
    simp
def sumB (n : Nat) (c : UInt8) : Nat := iterK sumBit 8 (xorv .u32 (n : Int) (c.toNat : Int)).toNat
def sumL (n : Nat) (s : List UInt8) : Nat := s.foldl sumB n
theorem sum_loop {step : List UInt8 → Int × Int → Option ((Int × Int) ⊕ Int)} {s : List UInt8} (hs : s.length < 9223372036854775807) {n : Nat}
    (h1 : ∀ (m i : Nat) (h : i < s.length), step s ((m : Int), (i : Int)) = some (.inl ((sumB m s[i] : Nat), ((i + 1 : Nat) : Int))))
    (h2 : ∀ m : Nat, step s ((m : Int), (s.length : Int)) = some (.inr (m : Int))) : iter (step s) ((n : Int), 0) = some ((sumL n s : Nat) : Int) := by
  refine iter_range (fun i => (((sumL n (s.take i) : Nat) : Int), (i : Int))) s.length ?_ ?_
  · intro i hi
    have e : sumL n (s.take (i + 1)) = sumB (sumL n (s.take i)) s[i] := by
      unfold sumL
      rw [List.take_succ_eq_append_getElem hi, List.foldl_append]
      rfl
    rw [h1 _ i hi, e]
  · rw [List.take_length]; exact h2 _
theorem u8_u32 (c : UInt8) : IntKind.u32.wrap (c.toNat : Int) = c.toNat := by
  rw [u32_wrap]
  have := c.toNat_lt
  omega
theorem spec_sum {s : List UInt8} (hs : s.length < 9223372036854775807) (n : Nat) : F_spec_SumMore (n : Int) s = some ((sumL n s : Nat) : Int) := by
  unfold F_spec_SumMore
  rw [sum_loop (step := S_spec_SumMore_1) hs]
  · rfl
  · intro m i hi
    unfold S_spec_SumMore_1
    simp only [show decide ((i : Int) < (s.length : Int)) = true from by simp; omega, if_true, bt?_nat hi, Option.bind_some, u8_u32, w64_succ (show i < 9223372036854775807 by omega)]
    have hx := xorv_range (m : Int) ((s[i]).toNat : Int)
    have : xorv .u32 (m : Int) ((s[i]).toNat : Int) = ((xorv .u32 (m : Int) ((s[i]).toNat : Int)).toNat : Int) := by omega
    rw [this, spec_sum2 (by omega)]
    rfl
  · intro m
    unfold S_spec_SumMore_1
    simp
theorem impl_sum {s : List UInt8} (hs : s.length < 9223372036854775807) (n : Nat) : F_impl_SumMore (n : Int) s = some ((sumL n s : Nat) : Int) := by
  unfold F_impl_SumMore
  rw [sum_loop (step := S_impl_SumMore_1) hs]
  · rfl
  · intro m i hi
    unfold S_impl_SumMore_1
    simp only [show decide ((i : Int) < (s.length : Int)) = true from by simp; omega, if_true, bt?_nat hi, Option.bind_some, u8_u32, w64_succ (show i < 9223372036854775807 by omega)]
    have hx := xorv_range (m : Int) ((s[i]).toNat : Int)
    have : xorv .u32 (m : Int) ((s[i]).toNat : Int) = ((xorv .u32 (m : Int) ((s[i]).toNat : Int)).toNat : Int) := by omega
    rw [this, impl_sum2 (by omega)]
    rfl
  · intro m
    unfold S_impl_SumMore_1
    simp
def four (n : Int) : List UInt8 := [IntKind.u8.wrap (shrv .u32 n 24), IntKind.u8.wrap (shrv .u32 n 16), IntKind.u8.wrap (shrv .u32 n 8), IntKind.u8.wrap n].map ofI
def sealL (s : List UInt8) : List UInt8 := four (sumL 4294967295 s : Nat)
theorem sealL_len (s : List UInt8) : (sealL s).length = 4 := rfl
theorem spec_sumOf {s : List UInt8} (hs : s.length < 9223372036854775807) : F_spec_SumOf s = some ((sumL 4294967295 s : Nat) : Int) := by
  unfold F_spec_SumOf
  have := spec_sum hs 4294967295
  rw [show (4294967295 : Int) = ((4294967295 : Nat) : Int) from rfl, this]; rfl
theorem impl_sumOf {s : List UInt8} (hs : s.length < 9223372036854775807) : F_impl_SumOf s = some ((sumL 4294967295 s : Nat) : Int) := by
  unfold F_impl_SumOf
  have := impl_sum hs 4294967295
  rw [show (4294967295 : Int) = ((4294967295 : Nat) : Int) from rfl, this]; rfl
theorem spec_four (n : Int) : F_spec_l02Four n = some (four n) := rfl
theorem impl_seal {s : List UInt8} (hs : s.length < 9223372036854775807) : F_impl_seal s = some (sealL s) := by
  unfold F_impl_seal
  rw [impl_sumOf hs]; rfl
def sealed (s : List UInt8) : List UInt8 × Bool := if 20000 < s.length then ([], false) else (s ++ sealL s, true)
theorem spec_sealed {s : List UInt8} (hs : s.length < 9223372036854775807) : F_spec_Sealed s = some (sealed s) := by
  unfold F_spec_Sealed sealed
  by_cases h : 20000 < s.length
  · rw [if_pos (by simp; omega), if_pos h]
  · rw [if_neg (by simp; omega), if_neg h, spec_sumOf hs]
    simp only [Option.bind_some, spec_four]
    rw [cat?_ok (by show s.length + 4 ≤ _; omega)]
    rfl
theorem impl_sealed {s : List UInt8} (hs : s.length < 9223372036854775807) : F_impl_Sealed s = some (sealed s) := by
  unfold F_impl_Sealed sealed
  by_cases h : 20000 < s.length
  · rw [if_pos (by simp; omega), if_pos h]
  · rw [if_neg (by simp; omega), if_neg h, impl_seal hs]
    simp only [Option.bind_some]
    rw [cat?_ok (by show s.length + 4 ≤ _; omega)]
    rfl
/-! ### words -/
def inR (n lo hi : Int) : Bool := decide (lo ≤ n) && decide (n ≤ hi)
theorem spec_in (n lo hi : Int) : F_spec_l01In n lo hi = some (inR n lo hi) := by
  unfold F_spec_l01In inR
  by_cases h : lo ≤ n <;> simp [h]
theorem impl_in (n lo hi : Int) : F_impl_in n lo hi = some (inR n lo hi) := by
  unfold F_impl_in inR
  by_cases h : lo ≤ n <;> simp [h]
def lowB (c : UInt8) : Bool := decide (97 ≤ c.toNat) && decide (c.toNat ≤ 122)
def wordOk (s : List UInt8) : Bool := s.all lowB && inR s.length 1 8
theorem iter_all {σ ρ : Type} {step : σ → Option (σ ⊕ ρ)} (st : Nat → σ) (n : Nat) (p : Nat → Bool) {bad good : ρ} (h1 : ∀ i, i < n → p i = true → step (st i) = some (.inl (st (i + 1)))) (h2 : ∀ i, i < n → p i = false → step (st i) = some (.inr bad)) (he : step (st n) = some (.inr good)) :
    iter step (st 0) = some (if (List.range n).all p then good else bad) := by
  have key : ∀ d i, i + d = n → iter step (st i) = some (if ((List.range n).drop i).all p then good else bad) := by
    intro d
    induction d with
    | zero =>
      intro i hi
      have : i = n := by omega
      subst this
      rw [iter_done he, List.drop_eq_nil_of_le (by simp)]; simp
    | succ d ih =>
      intro i hi
      have hd : (List.range n).drop i = i :: (List.range n).drop (i + 1) := by
        rw [List.drop_eq_getElem_cons (by simp; omega)]; simp
      rw [hd]
      cases hp : p i with
      | true => rw [iter_next (h1 i (by omega) hp), ih (i + 1) (by omega)]; simp [hp]
      | false => rw [iter_done (h2 i (by omega) hp)]; simp [hp]
  simpa using key n 0 (by omega)
theorem all_range {α : Type} (l : List α) (p : α → Bool) : (List.range l.length).all (fun i => match l[i]? with | some x => p x | none => true) = l.all p := by
  rw [Bool.eq_iff_iff, List.all_eq_true, List.all_eq_true]
  constructor
  · intro h x hx
    obtain ⟨i, hi⟩ := List.getElem?_of_mem hx
    have := h i (List.mem_range.2 (List.getElem?_eq_some_iff.1 hi).1)
    simpa [hi] using this
  · intro h i hi
    have hi' := List.mem_range.1 hi
    rw [List.getElem?_eq_getElem hi']
    exact h _ (List.getElem_mem hi')
theorem spec_word {s : List UInt8} (hs : s.length < 9223372036854775807) : F_spec_WordOk s = some (wordOk s) := by
  have hl : iter (S_spec_WordOk_1 s) 0 = some (if s.all lowB then .inr () else .inl false) := by
    rw [← all_range]
    refine iter_all (fun i => (i : Int)) s.length _ ?_ ?_ ?_
    · intro i hi hp
      rw [List.getElem?_eq_getElem hi] at hp
      simp only [lowB, Bool.and_eq_true, decide_eq_true_eq] at hp
      unfold S_spec_WordOk_1
      simp only [show decide ((i : Int) < (s.length : Int)) = true from by simp; omega, if_true, bt?_nat hi, Option.bind_some]
      rw [if_neg (by simp; omega), if_neg (by simp; omega)]
      simp [w64_succ (show i < 9223372036854775807 by omega)]
    · intro i hi hp
      rw [List.getElem?_eq_getElem hi] at hp
      simp only [lowB, Bool.and_eq_false_iff, decide_eq_false_iff_not] at hp
      unfold S_spec_WordOk_1
      simp only [show decide ((i : Int) < (s.length : Int)) = true from by simp; omega, if_true, bt?_nat hi, Option.bind_some]
      by_cases h : (s[i]).toNat < 97
      · rw [if_pos (by simp; omega)]; rfl
      · rw [if_neg (by simp; omega), if_pos (by simp; omega)]; rfl
    · unfold S_spec_WordOk_1
      simp
  unfold F_spec_WordOk
  rw [hl]
  unfold wordOk
  cases s.all lowB <;> simp [spec_in]
theorem impl_word {s : List UInt8} (hs : s.length < 9223372036854775807) : F_impl_WordOk s = some (wordOk s) := by
  have hl : iter (S_impl_WordOk_1 s) 0 = some (if s.all lowB then .inr () else .inl false) := by
    rw [← all_range]
    refine iter_all (fun i => (i : Int)) s.length _ ?_ ?_ ?_
    · intro i hi hp
      rw [List.getElem?_eq_getElem hi] at hp
      simp only [lowB, Bool.and_eq_true, decide_eq_true_eq] at hp
      unfold S_impl_WordOk_1
      simp only [show decide ((i : Int) < (s.length : Int)) = true from by simp; omega, if_true, bt?_nat hi, Option.bind_some]
      rw [if_neg (by simp; omega), if_neg (by simp; omega)]
      simp [w64_succ (show i < 9223372036854775807 by omega)]
    · intro i hi hp
      rw [List.getElem?_eq_getElem hi] at hp
      simp only [lowB, Bool.and_eq_false_iff, decide_eq_false_iff_not] at hp
      unfold S_impl_WordOk_1
      simp only [show decide ((i : Int) < (s.length : Int)) = true from by simp; omega, if_true, bt?_nat hi, Option.bind_some]
      by_cases h : (s[i]).toNat < 97
      · rw [if_pos (by simp; omega)]; rfl
      · rw [if_neg (by simp; omega), if_pos (by simp; omega)]; rfl
    · unfold S_impl_WordOk_1
      simp
  unfold F_impl_WordOk
  rw [impl_in, Option.bind_some, hl]
  unfold wordOk
  cases s.all lowB <;> cases inR (s.length : Int) 1 8 <;> simp
end Go.Proofs.YtcehlicmghnghaaGreat.V
/- What the statements' own functions need: loops over lists. -/
namespace Go.Proofs.YtcehlicmghnghaaGreat.V
open Go Go.RowKit
theorem iter_ex {σ ρ : Type} {step : σ → Option (σ ⊕ ρ)} (n : Nat) (I : Nat → σ → Prop) (Q : ρ → Prop) (h : ∀ i s, i < n → I i s → (∃ s', step s = some (.inl s') ∧ I (i + 1) s') ∨ ∃ r, step s = some (.inr r) ∧ Q r) (he : ∀ s, I n s → ∃ r, step s = some (.inr r) ∧ Q r) : ∀ s, I 0 s → ∃ r, iter step s = some r ∧ Q r := by
  have key : ∀ d i s, i + d = n → I i s → ∃ r, iter step s = some r ∧ Q r := by
    intro d
    induction d with
    | zero =>
      intro i s hi hs
      have : i = n := by omega
      subst this
      obtain ⟨r, h1, h2⟩ := he s hs
      exact ⟨r, iter_done h1, h2⟩
    | succ d ih =>
      intro i s hi hs
      rcases h i s (by omega) hs with ⟨s', h1, h2⟩ | ⟨r, h1, h2⟩
      · obtain ⟨r, h3, h4⟩ := ih (i + 1) s' (by omega) h2
        exact ⟨r, by rw [iter_next h1]; exact h3, h4⟩
      · exact ⟨r, iter_done h1, h2⟩
  exact fun s hs => key n 0 s (by omega) hs
theorem set'_nat {α : Type} {l : List α} {i : Nat} {x : α} : set' l (i : Int) x = l.set i x := by simp [set']
theorem dlt {i : Nat} {n : Nat} (h : i < n) : decide ((i : Int) < (n : Int)) = true := by simpa using h
/-- Copied one by one. -/
theorem to_loop {α : Type} {l : List α} {z : α} {step : Int × List α → Option ((Int × List α) ⊕ List α)} (hl : l.length < 9223372036854775807)
    (h1 : ∀ (i : Nat) (h : i < l.length) (m : List α), m.length = l.length → step ((i : Int), m) = some (.inl (((i + 1 : Nat) : Int), m.set i l[i])))
    (h2 : ∀ m : List α, step ((l.length : Int), m) = some (.inr m)) : iter step (0, List.replicate l.length z) = some l := by
  have := iter_range (step := step) (fun i => ((i : Int), l.take i ++ List.replicate (l.length - i) z)) l.length (r := l) ?_ ?_
  · simpa using this
  · intro i hi
    rw [h1 i hi _ (by simp; omega)]
    have e : (l.take i ++ List.replicate (l.length - i) z).set i l[i] = l.take (i + 1) ++ List.replicate (l.length - (i + 1)) z := by
      have e1 : l.length - i = (l.length - (i + 1)) + 1 := by omega
      have e2 : (l.take i).length = i := by simp; omega
      rw [e1, List.replicate_succ, List.set_append_right _ _ (by omega), e2, Nat.sub_self, List.set_cons_zero, List.take_succ_eq_append_getElem hi, List.append_assoc]
      rfl
    rw [e]
  · simp [h2]
/-! ### marks of what holds lists -/
theorem mk?_ok {α : Type} {byt : Nat} {z : α} {n : Nat} (h : n ≤ 1099511627776) (h2 : n * byt ≤ 140737488355328) : mk? byt z (n : Int) = some (List.replicate n z) := by
  unfold mk?
  have h3 : ((n * byt : Nat) : Int) ≤ 140737488355328 := by omega
  rw [if_pos ⟨by omega, by rw [Int.mul_comm]; rw [Int.natCast_mul] at h3; exact h3, by omega⟩]; simp
/-- A scan that ends where something is found. -/
theorem any_loop {α ρ : Type} {l : List α} {k : Nat} (hk : k ≤ l.length) {q : α → Bool} {step : Int → Option (Int ⊕ ρ)} {bad good : ρ} (h1 : ∀ (i : Nat) (h : i < l.length), i < k → step (i : Int) = if q l[i] then some (.inr bad) else some (.inl ((i + 1 : Nat) : Int))) (h2 : step (k : Int) = some (.inr good)) : iter step 0 = some (if (l.take k).any q then bad else good) := by
  have key : ∀ d i, i + d = k → iter step (i : Int) = some (if ((l.take k).drop i).any q then bad else good) := by
    intro d
    induction d with
    | zero => intro i hi; have : i = k := by omega
              subst this; rw [iter_done h2, List.drop_eq_nil_of_le (by simp; omega)]; simp
    | succ d ih =>
      intro i hi
      have hd : (l.take k).drop i = l[i] :: (l.take k).drop (i + 1) := by
        rw [List.drop_eq_getElem_cons (by simp; omega)]; simp
      rw [hd, List.any_cons]
      have hs := h1 i (by omega) (by omega)
      cases hq : q l[i] with
      | true => rw [hq] at hs; rw [iter_done hs]; simp
      | false => rw [hq] at hs; rw [iter_next hs, ih (i + 1) (by omega)]; simp
  simpa using key k 0 (by omega)
theorem idx_loop {α : Type} {l : List α} {q : α → Bool} {step : Int → Option (Int ⊕ (Int ⊕ Unit))} (h1 : ∀ (i : Nat) (h : i < l.length), step (i : Int) = if q l[i] then some (.inr (.inl (i : Int))) else some (.inl ((i + 1 : Nat) : Int))) (h2 : step (l.length : Int) = some (.inr (.inr ()))) : iter step 0 = some (match l.findIdx? q with | some i => .inl (i : Int) | none => .inr ()) := by
  have key : ∀ d i, i + d = l.length → iter step (i : Int) = some (match (l.drop i).findIdx? q with | some j => .inl ((i + j : Nat) : Int) | none => .inr ()) := by
    intro d
    induction d with
    | zero => intro i hi; have : i = l.length := by omega
              subst this; rw [iter_done h2, List.drop_eq_nil_of_le (by simp)]; simp
    | succ d ih =>
      intro i hi
      have hs := h1 i (by omega)
      rw [List.drop_eq_getElem_cons (by omega), List.findIdx?_cons]
      cases hq : q l[i] with
      | true => rw [hq] at hs; rw [iter_done hs]; simp
      | false =>
        rw [hq] at hs; rw [iter_next hs, ih (i + 1) (by omega)]
        cases (l.drop (i + 1)).findIdx? q with
        | none => simp
        | some j => simp; omega
  have := key l.length 0 (by omega)
  simp only [List.drop_zero, Nat.zero_add] at this
  exact this
def idxI : Option Nat → Int
  | some i => i
  | none => -1
theorem idx_any {α : Type} {l : List α} {q : α → Bool} : decide (idxI (l.findIdx? q) ≥ 0) = l.any q := by
  rw [← List.findIdx?_isSome]
  cases l.findIdx? q <;> simp [idxI]
theorem sub?_take {α : Type} {l : List α} {i : Nat} (h : i ≤ l.length) : sub? l 0 (i : Int) = some (l.take i) := by
  unfold sub?
  simp
  omega
end Go.Proofs.YtcehlicmghnghaaGreat.V
/- The functions that the statements are made of. -/
namespace Go.Proofs.YtcehlicmghnghaaGreat.V
open Go Go.RowKit
set_option maxRecDepth 100000
def szN_TWrite (x : TWrite) : Nat := x.Text.length
structure Sz_TWrite (x : TWrite) : Prop where
  sText : x.Text.length ≤ 1048576
def szN_TDisk (x : TDisk) : Nat := x.Sectors.length + (x.Sectors.map fun y => y.length).sum + x.Cache.length + (x.Cache.map fun y => szN_TWrite y).sum
structure Sz_TDisk (x : TDisk) : Prop where
  sSectors : x.Sectors.length ≤ 1048576 ∧ ∀ y ∈ x.Sectors, y.length ≤ 1048576
  sCache : x.Cache.length ≤ 1048576 ∧ ∀ y ∈ x.Cache, Sz_TWrite y
def szN_TRec (x : TRec) : Nat := x.User.length + x.Name.length + x.Text.length
structure Sz_TRec (x : TRec) : Prop where
  sUser : x.User.length ≤ 1048576
  sName : x.Name.length ≤ 1048576
  sText : x.Text.length ≤ 1048576
def szN_TItem (x : TItem) : Nat := szN_TRec x.Rec
structure Sz_TItem (x : TItem) : Prop where
  sRec : Sz_TRec x.Rec
def szN_TSeg (x : TSeg) : Nat := x.Items.length + (x.Items.map fun y => szN_TItem y).sum
structure Sz_TSeg (x : TSeg) : Prop where
  sItems : x.Items.length ≤ 1048576 ∧ ∀ y ∈ x.Items, Sz_TItem y
def szN_TLog (x : TLog) : Nat := szN_TDisk x.Disk + x.Used.length + (x.Used.map fun y => szN_TSeg y).sum
structure Sz_TLog (x : TLog) : Prop where
  sDisk : Sz_TDisk x.Disk
  sUsed : x.Used.length ≤ 1048576 ∧ ∀ y ∈ x.Used, Sz_TSeg y
def szN_TStore (x : TStore) : Nat := szN_TLog x.Log + x.Freed.length
structure Sz_TStore (x : TStore) : Prop where
  sLog : Sz_TLog x.Log
  sFreed : x.Freed.length ≤ 1048576
/-! ### the words that mark -/
theorem p_laws_eqStringS {x : List (List UInt8)} (h : x.length ≤ 1048576 ∧ ∀ y ∈ x, y.length ≤ 1048576) : F_laws_eqStringS x x = some true := by
  unfold F_laws_eqStringS
  have hl := h.1
  have key : iter (S_laws_eqStringS_1 x x) 0 = some (.inr ()) := by
    refine iter_range (fun i => (i : Int)) x.length ?_ ?_
    · intro i hi
      unfold S_laws_eqStringS_1
      simp only [dlt hi, if_true, at?_nat hi, Option.bind_some, w64_succ (show i < 9223372036854775807 by omega)]
      try simp
    · unfold S_laws_eqStringS_1
      simp
  rw [key]
  simp
theorem p_laws_eqWrite {x : TWrite} (h : Sz_TWrite x) : F_laws_eqWrite x x = some true := by
  unfold F_laws_eqWrite
  simp []
theorem p_laws_eqWriteS {x : List TWrite} (h : x.length ≤ 1048576 ∧ ∀ y ∈ x, Sz_TWrite y) : F_laws_eqWriteS x x = some true := by
  unfold F_laws_eqWriteS
  have hl := h.1
  have key : iter (S_laws_eqWriteS_1 x x) 0 = some (.inr ()) := by
    refine iter_range (fun i => (i : Int)) x.length ?_ ?_
    · intro i hi
      unfold S_laws_eqWriteS_1
      have he := p_laws_eqWrite (x := x[i]) (h.2 _ (List.getElem_mem hi))
      simp only [dlt hi, if_true, at?_nat hi, Option.bind_some, w64_succ (show i < 9223372036854775807 by omega), he]
      try simp
    · unfold S_laws_eqWriteS_1
      simp
  rw [key]
  simp
theorem p_laws_eqDisk {x : TDisk} (h : Sz_TDisk x) : F_laws_eqDisk x x = some true := by
  unfold F_laws_eqDisk
  simp [p_laws_eqStringS (x := x.Sectors) h.sSectors, p_laws_eqWriteS (x := x.Cache) h.sCache]
theorem p_laws_eqRec {x : TRec} (h : Sz_TRec x) : F_laws_eqRec x x = some true := by
  unfold F_laws_eqRec
  simp []
theorem p_laws_eqItem {x : TItem} (h : Sz_TItem x) : F_laws_eqItem x x = some true := by
  unfold F_laws_eqItem
  simp [p_laws_eqRec (x := x.Rec) h.sRec]
theorem p_laws_eqItemS {x : List TItem} (h : x.length ≤ 1048576 ∧ ∀ y ∈ x, Sz_TItem y) : F_laws_eqItemS x x = some true := by
  unfold F_laws_eqItemS
  have hl := h.1
  have key : iter (S_laws_eqItemS_1 x x) 0 = some (.inr ()) := by
    refine iter_range (fun i => (i : Int)) x.length ?_ ?_
    · intro i hi
      unfold S_laws_eqItemS_1
      have he := p_laws_eqItem (x := x[i]) (h.2 _ (List.getElem_mem hi))
      simp only [dlt hi, if_true, at?_nat hi, Option.bind_some, w64_succ (show i < 9223372036854775807 by omega), he]
      try simp
    · unfold S_laws_eqItemS_1
      simp
  rw [key]
  simp
theorem p_laws_eqSeg {x : TSeg} (h : Sz_TSeg x) : F_laws_eqSeg x x = some true := by
  unfold F_laws_eqSeg
  simp [p_laws_eqItemS (x := x.Items) h.sItems]
theorem p_laws_eqSegS {x : List TSeg} (h : x.length ≤ 1048576 ∧ ∀ y ∈ x, Sz_TSeg y) : F_laws_eqSegS x x = some true := by
  unfold F_laws_eqSegS
  have hl := h.1
  have key : iter (S_laws_eqSegS_1 x x) 0 = some (.inr ()) := by
    refine iter_range (fun i => (i : Int)) x.length ?_ ?_
    · intro i hi
      unfold S_laws_eqSegS_1
      have he := p_laws_eqSeg (x := x[i]) (h.2 _ (List.getElem_mem hi))
      simp only [dlt hi, if_true, at?_nat hi, Option.bind_some, w64_succ (show i < 9223372036854775807 by omega), he]
      try simp
    · unfold S_laws_eqSegS_1
      simp
  rw [key]
  simp
theorem p_laws_eqLog {x : TLog} (h : Sz_TLog x) : F_laws_eqLog x x = some true := by
  unfold F_laws_eqLog
  simp [p_laws_eqDisk (x := x.Disk) h.sDisk, p_laws_eqSegS (x := x.Used) h.sUsed]
theorem p_laws_eqIntS {x : List Int} (h : x.length ≤ 1048576) : F_laws_eqIntS x x = some true := by
  unfold F_laws_eqIntS
  have hl := h
  have key : iter (S_laws_eqIntS_1 x x) 0 = some (.inr ()) := by
    refine iter_range (fun i => (i : Int)) x.length ?_ ?_
    · intro i hi
      unfold S_laws_eqIntS_1
      simp only [dlt hi, if_true, at?_nat hi, Option.bind_some, w64_succ (show i < 9223372036854775807 by omega)]
      try simp
    · unfold S_laws_eqIntS_1
      simp
  rw [key]
  simp
theorem p_laws_eqStore {x : TStore} (h : Sz_TStore x) : F_laws_eqStore x x = some true := by
  unfold F_laws_eqStore
  simp [p_laws_eqLog (x := x.Log) h.sLog, p_laws_eqIntS (x := x.Freed) h.sFreed]
theorem p_laws_szStringS {x : List (List UInt8)} {n : Int} (w : (x.length ≤ maxLen ∧ ∀ a ∈ x, a.length ≤ maxLen)) (h0 : 0 ≤ n) (h1 : n ≤ 1048576) : ∃ r, F_laws_szStringS x n = some r ∧ r ≤ n ∧ -1 ≤ r ∧ (0 ≤ r → (x.length ≤ 1048576 ∧ ∀ y ∈ x, y.length ≤ 1048576) ∧ r + ((x.length + (x.map fun y => y.length).sum : Nat) : Int) ≤ n) := by
  unfold F_laws_szStringS
  have hw : (x.length : Int) ≤ 9223372036854775807 := by have := w.1; unfold maxLen at this; omega
  have e0 : w64 (n - (x.length : Int)) = n - x.length := w64_id (by omega) (by omega)
  rw [e0]
  by_cases c0 : n - (x.length : Int) < 0
  · rw [if_pos (by simpa using c0)]; exact ⟨-1, rfl, by omega, by omega, fun h => absurd h (by omega)⟩
  rw [if_neg (by simpa using c0)]
  have hl : x.length < 9223372036854775807 := by omega
  have key := iter_ex (step := S_laws_szStringS_1 x) x.length (fun i st => ∃ m : Int, st = (m, (i : Int)) ∧ 0 ≤ m ∧ m + ((((x.take i).map fun y => y.length).sum : Nat) : Int) ≤ n - x.length ∧ ∀ (j : Nat) y, j < i → x[j]? = some y → y.length ≤ 1048576) (fun o : Int ⊕ Int => match o with | .inl r => r = -1 | .inr r => r + x.length + (((x.map fun y => y.length).sum : Nat) : Int) ≤ n ∧ 0 ≤ r ∧ ∀ y ∈ x, y.length ≤ 1048576) ?_ ?_ (n - x.length, 0) ⟨_, rfl, by omega, by simp, by simp⟩
  · obtain ⟨r, h2, h3⟩ := key
    rw [h2]
    cases r with
    | inl r => simp only at h3; subst h3; exact ⟨-1, rfl, by omega, by omega, fun h => absurd h (by omega)⟩
    | inr r => exact ⟨r, rfl, by have := h3.1; omega, by have := h3.2.1; omega, fun _ => ⟨⟨by have := h3.1; omega, h3.2.2⟩, by have := h3.1; omega⟩⟩
  · rintro i _ hi ⟨m, rfl, hm0, hm1, hj⟩
    have hsum : ((x.take (i + 1)).map fun y => y.length).sum = ((x.take i).map fun y => y.length).sum + ((x[i]).length) := by rw [List.take_succ_eq_append_getElem hi, List.map_append, List.sum_append]; simp
    unfold S_laws_szStringS_1
    simp only [dlt hi, if_true, at?_nat hi, Option.bind_some, w64_succ (show i < 9223372036854775807 by omega)]
    have hs : (x[i].length : Int) ≤ 9223372036854775807 := by have := w.2 _ (List.getElem_mem hi); unfold maxLen at this; omega
    have e1 : w64 (m - (x[i].length : Int)) = m - x[i].length := w64_id (by omega) (by omega)
    simp only [e1]; generalize hr : m - (x[i].length : Int) = r
    have h3 : r ≤ m := by omega
    have h5 : 0 ≤ r → x[i].length ≤ 1048576 ∧ r + ((x[i].length : Nat) : Int) ≤ m := by omega
    by_cases c1 : r < 0
    · exact .inr ⟨.inl (-1), by simp [c1], rfl⟩
    have h6 := h5 (by omega)
    refine .inl ⟨(r, ((i + 1 : Nat) : Int)), by simp [c1], r, rfl, by omega, by rw [hsum]; have := h6.2; omega, ?_⟩
    intro j y hj1 hj2
    by_cases e : j = i
    · subst e; rw [List.getElem?_eq_getElem hi] at hj2; cases hj2; exact h6.1
    · exact hj j y (by omega) hj2
  · rintro _ ⟨m, rfl, hm0, hm1, hj⟩
    rw [List.take_length] at hm1
    refine ⟨.inr m, by unfold S_laws_szStringS_1; simp, by show m + _ + _ ≤ n; omega, hm0, fun y hy => ?_⟩
    obtain ⟨j, hj2⟩ := List.getElem?_of_mem hy
    exact hj j y (List.getElem?_eq_some_iff.1 hj2).1 hj2
theorem p_laws_szWrite {x : TWrite} {n : Int} (w : wf_TWrite x) (h0 : 0 ≤ n) (h1 : n ≤ 1048576) : ∃ r, F_laws_szWrite x n = some r ∧ r ≤ n ∧ -1 ≤ r ∧ (0 ≤ r → (Sz_TWrite x) ∧ r + ((szN_TWrite x : Nat) : Int) ≤ n) := by
  unfold F_laws_szWrite
  have hw1 : (x.Text.length : Int) ≤ 9223372036854775807 := by have := w.2.1; unfold maxLen at this; omega
  have e1 : w64 (n - (x.Text.length : Int)) = n - x.Text.length := w64_id (by omega) (by omega)
  simp only [e1]
  generalize hr1 : n - (x.Text.length : Int) = r1
  by_cases c1 : r1 < 0
  · rw [if_pos (by simpa using c1)]; exact ⟨-1, rfl, by omega, by omega, fun h => absurd h (by omega)⟩
  rw [if_neg (by simpa using c1)]
  exact ⟨_, rfl, by omega, by omega, fun _ => ⟨⟨by omega⟩, by unfold szN_TWrite; omega⟩⟩
theorem p_laws_szWriteS {x : List TWrite} {n : Int} (w : (x.length ≤ maxLen ∧ ∀ a ∈ x, wf_TWrite a)) (h0 : 0 ≤ n) (h1 : n ≤ 1048576) : ∃ r, F_laws_szWriteS x n = some r ∧ r ≤ n ∧ -1 ≤ r ∧ (0 ≤ r → (x.length ≤ 1048576 ∧ ∀ y ∈ x, Sz_TWrite y) ∧ r + ((x.length + (x.map fun y => szN_TWrite y).sum : Nat) : Int) ≤ n) := by
  unfold F_laws_szWriteS
  have hw : (x.length : Int) ≤ 9223372036854775807 := by have := w.1; unfold maxLen at this; omega
  have e0 : w64 (n - (x.length : Int)) = n - x.length := w64_id (by omega) (by omega)
  rw [e0]
  by_cases c0 : n - (x.length : Int) < 0
  · rw [if_pos (by simpa using c0)]; exact ⟨-1, rfl, by omega, by omega, fun h => absurd h (by omega)⟩
  rw [if_neg (by simpa using c0)]
  have hl : x.length < 9223372036854775807 := by omega
  have key := iter_ex (step := S_laws_szWriteS_1 x) x.length (fun i st => ∃ m : Int, st = (m, (i : Int)) ∧ 0 ≤ m ∧ m + ((((x.take i).map fun y => szN_TWrite y).sum : Nat) : Int) ≤ n - x.length ∧ ∀ (j : Nat) y, j < i → x[j]? = some y → Sz_TWrite y) (fun o : Int ⊕ Int => match o with | .inl r => r = -1 | .inr r => r + x.length + (((x.map fun y => szN_TWrite y).sum : Nat) : Int) ≤ n ∧ 0 ≤ r ∧ ∀ y ∈ x, Sz_TWrite y) ?_ ?_ (n - x.length, 0) ⟨_, rfl, by omega, by simp, by simp⟩
  · obtain ⟨r, h2, h3⟩ := key
    rw [h2]
    cases r with
    | inl r => simp only at h3; subst h3; exact ⟨-1, rfl, by omega, by omega, fun h => absurd h (by omega)⟩
    | inr r => exact ⟨r, rfl, by have := h3.1; omega, by have := h3.2.1; omega, fun _ => ⟨⟨by have := h3.1; omega, h3.2.2⟩, by have := h3.1; omega⟩⟩
  · rintro i _ hi ⟨m, rfl, hm0, hm1, hj⟩
    have hsum : ((x.take (i + 1)).map fun y => szN_TWrite y).sum = ((x.take i).map fun y => szN_TWrite y).sum + (szN_TWrite (x[i])) := by rw [List.take_succ_eq_append_getElem hi, List.map_append, List.sum_append]; simp
    unfold S_laws_szWriteS_1
    simp only [dlt hi, if_true, at?_nat hi, Option.bind_some, w64_succ (show i < 9223372036854775807 by omega)]
    obtain ⟨r, h2, h3, h4, h5⟩ := p_laws_szWrite (x := x[i]) (n := m) (w.2 _ (List.getElem_mem hi)) hm0 (by omega)
    simp only [h2, Option.bind_some]
    by_cases c1 : r < 0
    · exact .inr ⟨.inl (-1), by simp [c1], rfl⟩
    have h6 := h5 (by omega)
    refine .inl ⟨(r, ((i + 1 : Nat) : Int)), by simp [c1], r, rfl, by omega, by rw [hsum]; have := h6.2; omega, ?_⟩
    intro j y hj1 hj2
    by_cases e : j = i
    · subst e; rw [List.getElem?_eq_getElem hi] at hj2; cases hj2; exact h6.1
    · exact hj j y (by omega) hj2
  · rintro _ ⟨m, rfl, hm0, hm1, hj⟩
    rw [List.take_length] at hm1
    refine ⟨.inr m, by unfold S_laws_szWriteS_1; simp, by show m + _ + _ ≤ n; omega, hm0, fun y hy => ?_⟩
    obtain ⟨j, hj2⟩ := List.getElem?_of_mem hy
    exact hj j y (List.getElem?_eq_some_iff.1 hj2).1 hj2
theorem p_laws_szDisk {x : TDisk} {n : Int} (w : wf_TDisk x) (h0 : 0 ≤ n) (h1 : n ≤ 1048576) : ∃ r, F_laws_szDisk x n = some r ∧ r ≤ n ∧ -1 ≤ r ∧ (0 ≤ r → (Sz_TDisk x) ∧ r + ((szN_TDisk x : Nat) : Int) ≤ n) := by
  unfold F_laws_szDisk
  obtain ⟨r1, f1, g1, b1, q1⟩ := p_laws_szStringS (x := x.Sectors) (n := n) w.1 (by omega) (by omega)
  simp only [f1, Option.bind_some]
  by_cases c1 : r1 < 0
  · rw [if_pos (by simpa using c1)]; exact ⟨-1, rfl, by omega, by omega, fun h => absurd h (by omega)⟩
  rw [if_neg (by simpa using c1)]
  have a1 := (q1 (by omega)).2
  obtain ⟨r2, f2, g2, b2, q2⟩ := p_laws_szWriteS (x := x.Cache) (n := r1) w.2.1 (by omega) (by omega)
  simp only [f2, Option.bind_some]
  by_cases c2 : r2 < 0
  · rw [if_pos (by simpa using c2)]; exact ⟨-1, rfl, by omega, by omega, fun h => absurd h (by omega)⟩
  rw [if_neg (by simpa using c2)]
  have a2 := (q2 (by omega)).2
  exact ⟨_, rfl, by omega, by omega, fun _ => ⟨⟨(q1 (by omega)).1, (q2 (by omega)).1⟩, by unfold szN_TDisk; omega⟩⟩
theorem p_laws_szRec {x : TRec} {n : Int} (w : wf_TRec x) (h0 : 0 ≤ n) (h1 : n ≤ 1048576) : ∃ r, F_laws_szRec x n = some r ∧ r ≤ n ∧ -1 ≤ r ∧ (0 ≤ r → (Sz_TRec x) ∧ r + ((szN_TRec x : Nat) : Int) ≤ n) := by
  unfold F_laws_szRec
  have hw1 : (x.User.length : Int) ≤ 9223372036854775807 := by have := w.2.2.2.2.2.1; unfold maxLen at this; omega
  have e1 : w64 (n - (x.User.length : Int)) = n - x.User.length := w64_id (by omega) (by omega)
  simp only [e1]
  generalize hr1 : n - (x.User.length : Int) = r1
  by_cases c1 : r1 < 0
  · rw [if_pos (by simpa using c1)]; exact ⟨-1, rfl, by omega, by omega, fun h => absurd h (by omega)⟩
  rw [if_neg (by simpa using c1)]
  have hw2 : (x.Name.length : Int) ≤ 9223372036854775807 := by have := w.2.2.2.2.2.2.1; unfold maxLen at this; omega
  have e2 : w64 (r1 - (x.Name.length : Int)) = r1 - x.Name.length := w64_id (by omega) (by omega)
  simp only [e2]
  generalize hr2 : r1 - (x.Name.length : Int) = r2
  by_cases c2 : r2 < 0
  · rw [if_pos (by simpa using c2)]; exact ⟨-1, rfl, by omega, by omega, fun h => absurd h (by omega)⟩
  rw [if_neg (by simpa using c2)]
  have hw3 : (x.Text.length : Int) ≤ 9223372036854775807 := by have := w.2.2.2.2.2.2.2.1; unfold maxLen at this; omega
  have e3 : w64 (r2 - (x.Text.length : Int)) = r2 - x.Text.length := w64_id (by omega) (by omega)
  simp only [e3]
  generalize hr3 : r2 - (x.Text.length : Int) = r3
  by_cases c3 : r3 < 0
  · rw [if_pos (by simpa using c3)]; exact ⟨-1, rfl, by omega, by omega, fun h => absurd h (by omega)⟩
  rw [if_neg (by simpa using c3)]
  exact ⟨_, rfl, by omega, by omega, fun _ => ⟨⟨by omega, by omega, by omega⟩, by unfold szN_TRec; omega⟩⟩
theorem p_laws_szItem {x : TItem} {n : Int} (w : wf_TItem x) (h0 : 0 ≤ n) (h1 : n ≤ 1048576) : ∃ r, F_laws_szItem x n = some r ∧ r ≤ n ∧ -1 ≤ r ∧ (0 ≤ r → (Sz_TItem x) ∧ r + ((szN_TItem x : Nat) : Int) ≤ n) := by
  unfold F_laws_szItem
  obtain ⟨r1, f1, g1, b1, q1⟩ := p_laws_szRec (x := x.Rec) (n := n) w.2.1 (by omega) (by omega)
  simp only [f1, Option.bind_some]
  by_cases c1 : r1 < 0
  · rw [if_pos (by simpa using c1)]; exact ⟨-1, rfl, by omega, by omega, fun h => absurd h (by omega)⟩
  rw [if_neg (by simpa using c1)]
  have a1 := (q1 (by omega)).2
  exact ⟨_, rfl, by omega, by omega, fun _ => ⟨⟨(q1 (by omega)).1⟩, by unfold szN_TItem; omega⟩⟩
theorem p_laws_szItemS {x : List TItem} {n : Int} (w : (x.length ≤ maxLen ∧ ∀ a ∈ x, wf_TItem a)) (h0 : 0 ≤ n) (h1 : n ≤ 1048576) : ∃ r, F_laws_szItemS x n = some r ∧ r ≤ n ∧ -1 ≤ r ∧ (0 ≤ r → (x.length ≤ 1048576 ∧ ∀ y ∈ x, Sz_TItem y) ∧ r + ((x.length + (x.map fun y => szN_TItem y).sum : Nat) : Int) ≤ n) := by
  unfold F_laws_szItemS
  have hw : (x.length : Int) ≤ 9223372036854775807 := by have := w.1; unfold maxLen at this; omega
  have e0 : w64 (n - (x.length : Int)) = n - x.length := w64_id (by omega) (by omega)
  rw [e0]
  by_cases c0 : n - (x.length : Int) < 0
  · rw [if_pos (by simpa using c0)]; exact ⟨-1, rfl, by omega, by omega, fun h => absurd h (by omega)⟩
  rw [if_neg (by simpa using c0)]
  have hl : x.length < 9223372036854775807 := by omega
  have key := iter_ex (step := S_laws_szItemS_1 x) x.length (fun i st => ∃ m : Int, st = (m, (i : Int)) ∧ 0 ≤ m ∧ m + ((((x.take i).map fun y => szN_TItem y).sum : Nat) : Int) ≤ n - x.length ∧ ∀ (j : Nat) y, j < i → x[j]? = some y → Sz_TItem y) (fun o : Int ⊕ Int => match o with | .inl r => r = -1 | .inr r => r + x.length + (((x.map fun y => szN_TItem y).sum : Nat) : Int) ≤ n ∧ 0 ≤ r ∧ ∀ y ∈ x, Sz_TItem y) ?_ ?_ (n - x.length, 0) ⟨_, rfl, by omega, by simp, by simp⟩
  · obtain ⟨r, h2, h3⟩ := key
    rw [h2]
    cases r with
    | inl r => simp only at h3; subst h3; exact ⟨-1, rfl, by omega, by omega, fun h => absurd h (by omega)⟩
    | inr r => exact ⟨r, rfl, by have := h3.1; omega, by have := h3.2.1; omega, fun _ => ⟨⟨by have := h3.1; omega, h3.2.2⟩, by have := h3.1; omega⟩⟩
  · rintro i _ hi ⟨m, rfl, hm0, hm1, hj⟩
    have hsum : ((x.take (i + 1)).map fun y => szN_TItem y).sum = ((x.take i).map fun y => szN_TItem y).sum + (szN_TItem (x[i])) := by rw [List.take_succ_eq_append_getElem hi, List.map_append, List.sum_append]; simp
    unfold S_laws_szItemS_1
    simp only [dlt hi, if_true, at?_nat hi, Option.bind_some, w64_succ (show i < 9223372036854775807 by omega)]
    obtain ⟨r, h2, h3, h4, h5⟩ := p_laws_szItem (x := x[i]) (n := m) (w.2 _ (List.getElem_mem hi)) hm0 (by omega)
    simp only [h2, Option.bind_some]
    by_cases c1 : r < 0
    · exact .inr ⟨.inl (-1), by simp [c1], rfl⟩
    have h6 := h5 (by omega)
    refine .inl ⟨(r, ((i + 1 : Nat) : Int)), by simp [c1], r, rfl, by omega, by rw [hsum]; have := h6.2; omega, ?_⟩
    intro j y hj1 hj2
    by_cases e : j = i
    · subst e; rw [List.getElem?_eq_getElem hi] at hj2; cases hj2; exact h6.1
    · exact hj j y (by omega) hj2
  · rintro _ ⟨m, rfl, hm0, hm1, hj⟩
    rw [List.take_length] at hm1
    refine ⟨.inr m, by unfold S_laws_szItemS_1; simp, by show m + _ + _ ≤ n; omega, hm0, fun y hy => ?_⟩
    obtain ⟨j, hj2⟩ := List.getElem?_of_mem hy
    exact hj j y (List.getElem?_eq_some_iff.1 hj2).1 hj2
theorem p_laws_szSeg {x : TSeg} {n : Int} (w : wf_TSeg x) (h0 : 0 ≤ n) (h1 : n ≤ 1048576) : ∃ r, F_laws_szSeg x n = some r ∧ r ≤ n ∧ -1 ≤ r ∧ (0 ≤ r → (Sz_TSeg x) ∧ r + ((szN_TSeg x : Nat) : Int) ≤ n) := by
  unfold F_laws_szSeg
  obtain ⟨r1, f1, g1, b1, q1⟩ := p_laws_szItemS (x := x.Items) (n := n) w.2.2.2.1 (by omega) (by omega)
  simp only [f1, Option.bind_some]
  by_cases c1 : r1 < 0
  · rw [if_pos (by simpa using c1)]; exact ⟨-1, rfl, by omega, by omega, fun h => absurd h (by omega)⟩
  rw [if_neg (by simpa using c1)]
  have a1 := (q1 (by omega)).2
  exact ⟨_, rfl, by omega, by omega, fun _ => ⟨⟨(q1 (by omega)).1⟩, by unfold szN_TSeg; omega⟩⟩
theorem p_laws_szSegS {x : List TSeg} {n : Int} (w : (x.length ≤ maxLen ∧ ∀ a ∈ x, wf_TSeg a)) (h0 : 0 ≤ n) (h1 : n ≤ 1048576) : ∃ r, F_laws_szSegS x n = some r ∧ r ≤ n ∧ -1 ≤ r ∧ (0 ≤ r → (x.length ≤ 1048576 ∧ ∀ y ∈ x, Sz_TSeg y) ∧ r + ((x.length + (x.map fun y => szN_TSeg y).sum : Nat) : Int) ≤ n) := by
  unfold F_laws_szSegS
  have hw : (x.length : Int) ≤ 9223372036854775807 := by have := w.1; unfold maxLen at this; omega
  have e0 : w64 (n - (x.length : Int)) = n - x.length := w64_id (by omega) (by omega)
  rw [e0]
  by_cases c0 : n - (x.length : Int) < 0
  · rw [if_pos (by simpa using c0)]; exact ⟨-1, rfl, by omega, by omega, fun h => absurd h (by omega)⟩
  rw [if_neg (by simpa using c0)]
  have hl : x.length < 9223372036854775807 := by omega
  have key := iter_ex (step := S_laws_szSegS_1 x) x.length (fun i st => ∃ m : Int, st = (m, (i : Int)) ∧ 0 ≤ m ∧ m + ((((x.take i).map fun y => szN_TSeg y).sum : Nat) : Int) ≤ n - x.length ∧ ∀ (j : Nat) y, j < i → x[j]? = some y → Sz_TSeg y) (fun o : Int ⊕ Int => match o with | .inl r => r = -1 | .inr r => r + x.length + (((x.map fun y => szN_TSeg y).sum : Nat) : Int) ≤ n ∧ 0 ≤ r ∧ ∀ y ∈ x, Sz_TSeg y) ?_ ?_ (n - x.length, 0) ⟨_, rfl, by omega, by simp, by simp⟩
  · obtain ⟨r, h2, h3⟩ := key
    rw [h2]
    cases r with
    | inl r => simp only at h3; subst h3; exact ⟨-1, rfl, by omega, by omega, fun h => absurd h (by omega)⟩
    | inr r => exact ⟨r, rfl, by have := h3.1; omega, by have := h3.2.1; omega, fun _ => ⟨⟨by have := h3.1; omega, h3.2.2⟩, by have := h3.1; omega⟩⟩
  · rintro i _ hi ⟨m, rfl, hm0, hm1, hj⟩
    have hsum : ((x.take (i + 1)).map fun y => szN_TSeg y).sum = ((x.take i).map fun y => szN_TSeg y).sum + (szN_TSeg (x[i])) := by rw [List.take_succ_eq_append_getElem hi, List.map_append, List.sum_append]; simp
    unfold S_laws_szSegS_1
    simp only [dlt hi, if_true, at?_nat hi, Option.bind_some, w64_succ (show i < 9223372036854775807 by omega)]
    obtain ⟨r, h2, h3, h4, h5⟩ := p_laws_szSeg (x := x[i]) (n := m) (w.2 _ (List.getElem_mem hi)) hm0 (by omega)
    simp only [h2, Option.bind_some]
    by_cases c1 : r < 0
    · exact .inr ⟨.inl (-1), by simp [c1], rfl⟩
    have h6 := h5 (by omega)
    refine .inl ⟨(r, ((i + 1 : Nat) : Int)), by simp [c1], r, rfl, by omega, by rw [hsum]; have := h6.2; omega, ?_⟩
    intro j y hj1 hj2
    by_cases e : j = i
    · subst e; rw [List.getElem?_eq_getElem hi] at hj2; cases hj2; exact h6.1
    · exact hj j y (by omega) hj2
  · rintro _ ⟨m, rfl, hm0, hm1, hj⟩
    rw [List.take_length] at hm1
    refine ⟨.inr m, by unfold S_laws_szSegS_1; simp, by show m + _ + _ ≤ n; omega, hm0, fun y hy => ?_⟩
    obtain ⟨j, hj2⟩ := List.getElem?_of_mem hy
    exact hj j y (List.getElem?_eq_some_iff.1 hj2).1 hj2
theorem p_laws_szLog {x : TLog} {n : Int} (w : wf_TLog x) (h0 : 0 ≤ n) (h1 : n ≤ 1048576) : ∃ r, F_laws_szLog x n = some r ∧ r ≤ n ∧ -1 ≤ r ∧ (0 ≤ r → (Sz_TLog x) ∧ r + ((szN_TLog x : Nat) : Int) ≤ n) := by
  unfold F_laws_szLog
  obtain ⟨r1, f1, g1, b1, q1⟩ := p_laws_szDisk (x := x.Disk) (n := n) w.1 (by omega) (by omega)
  simp only [f1, Option.bind_some]
  by_cases c1 : r1 < 0
  · rw [if_pos (by simpa using c1)]; exact ⟨-1, rfl, by omega, by omega, fun h => absurd h (by omega)⟩
  rw [if_neg (by simpa using c1)]
  have a1 := (q1 (by omega)).2
  obtain ⟨r2, f2, g2, b2, q2⟩ := p_laws_szSegS (x := x.Used) (n := r1) w.2.2.1 (by omega) (by omega)
  simp only [f2, Option.bind_some]
  by_cases c2 : r2 < 0
  · rw [if_pos (by simpa using c2)]; exact ⟨-1, rfl, by omega, by omega, fun h => absurd h (by omega)⟩
  rw [if_neg (by simpa using c2)]
  have a2 := (q2 (by omega)).2
  exact ⟨_, rfl, by omega, by omega, fun _ => ⟨⟨(q1 (by omega)).1, (q2 (by omega)).1⟩, by unfold szN_TLog; omega⟩⟩
theorem p_laws_szIntS {x : List Int} {n : Int} (w : (x.length ≤ maxLen ∧ ∀ a ∈ x, (Lit.int .i64 a).wf = true)) (h0 : 0 ≤ n) (h1 : n ≤ 1048576) : ∃ r, F_laws_szIntS x n = some r ∧ r ≤ n ∧ -1 ≤ r ∧ (0 ≤ r → (x.length ≤ 1048576) ∧ r + ((x.length : Nat) : Int) ≤ n) := by
  unfold F_laws_szIntS
  have hw : (x.length : Int) ≤ 9223372036854775807 := by have := w.1; unfold maxLen at this; omega
  have e0 : w64 (n - (x.length : Int)) = n - x.length := w64_id (by omega) (by omega)
  rw [e0]
  by_cases c0 : n - (x.length : Int) < 0
  · rw [if_pos (by simpa using c0)]; exact ⟨-1, rfl, by omega, by omega, fun h => absurd h (by omega)⟩
  rw [if_neg (by simpa using c0)]
  exact ⟨_, rfl, by omega, by omega, fun _ => ⟨by omega, by omega⟩⟩
theorem p_laws_szStore {x : TStore} {n : Int} (w : wf_TStore x) (h0 : 0 ≤ n) (h1 : n ≤ 1048576) : ∃ r, F_laws_szStore x n = some r ∧ r ≤ n ∧ -1 ≤ r ∧ (0 ≤ r → (Sz_TStore x) ∧ r + ((szN_TStore x : Nat) : Int) ≤ n) := by
  unfold F_laws_szStore
  obtain ⟨r1, f1, g1, b1, q1⟩ := p_laws_szLog (x := x.Log) (n := n) w.1 (by omega) (by omega)
  simp only [f1, Option.bind_some]
  by_cases c1 : r1 < 0
  · rw [if_pos (by simpa using c1)]; exact ⟨-1, rfl, by omega, by omega, fun h => absurd h (by omega)⟩
  rw [if_neg (by simpa using c1)]
  have a1 := (q1 (by omega)).2
  obtain ⟨r2, f2, g2, b2, q2⟩ := p_laws_szIntS (x := x.Freed) (n := r1) w.2.1 (by omega) (by omega)
  simp only [f2, Option.bind_some]
  by_cases c2 : r2 < 0
  · rw [if_pos (by simpa using c2)]; exact ⟨-1, rfl, by omega, by omega, fun h => absurd h (by omega)⟩
  rw [if_neg (by simpa using c2)]
  have a2 := (q2 (by omega)).2
  exact ⟨_, rfl, by omega, by omega, fun _ => ⟨⟨(q1 (by omega)).1, (q2 (by omega)).1⟩, by unfold szN_TStore; omega⟩⟩
theorem p_laws_toStringS {x : List (List UInt8)} (h : x.length ≤ 1048576 ∧ ∀ y ∈ x, y.length ≤ 1048576) : F_laws_toStringS x = some x := by
  unfold F_laws_toStringS
  have hl := h.1
  rw [mk?_ok (by omega) (by omega), Option.bind_some, to_loop (step := S_laws_toStringS_1 x) (by omega)]
  · rfl
  · intro i hi m hm
    unfold S_laws_toStringS_1
    simp only [dlt hi, if_true, at?_nat hi, at?_nat (show i < m.length by omega), Option.bind_some, set'_nat, w64_succ (show i < 9223372036854775807 by omega)]
  · intro m
    unfold S_laws_toStringS_1
    simp
theorem p_laws_toWrite {x : TWrite} (h : Sz_TWrite x) : F_laws_toWrite x = some x := by
  unfold F_laws_toWrite
  rfl
theorem p_laws_toWriteS {x : List TWrite} (h : x.length ≤ 1048576 ∧ ∀ y ∈ x, Sz_TWrite y) : F_laws_toWriteS x = some x := by
  unfold F_laws_toWriteS
  have hl := h.1
  rw [mk?_ok (by omega) (by omega), Option.bind_some, to_loop (step := S_laws_toWriteS_1 x) (by omega)]
  · rfl
  · intro i hi m hm
    unfold S_laws_toWriteS_1
    have he := p_laws_toWrite (x := x[i]) (h.2 _ (List.getElem_mem hi))
    simp only [dlt hi, if_true, at?_nat hi, at?_nat (show i < m.length by omega), Option.bind_some, set'_nat, w64_succ (show i < 9223372036854775807 by omega), he]
  · intro m
    unfold S_laws_toWriteS_1
    simp
theorem p_laws_toDisk {x : TDisk} (h : Sz_TDisk x) : F_laws_toDisk x = some x := by
  unfold F_laws_toDisk
  simp only [p_laws_toStringS (x := x.Sectors) h.sSectors, p_laws_toWriteS (x := x.Cache) h.sCache, Option.bind_some]
theorem p_laws_toRec {x : TRec} (h : Sz_TRec x) : F_laws_toRec x = some x := by
  unfold F_laws_toRec
  rfl
theorem p_laws_toItem {x : TItem} (h : Sz_TItem x) : F_laws_toItem x = some x := by
  unfold F_laws_toItem
  simp only [p_laws_toRec (x := x.Rec) h.sRec, Option.bind_some]
theorem p_laws_toItemS {x : List TItem} (h : x.length ≤ 1048576 ∧ ∀ y ∈ x, Sz_TItem y) : F_laws_toItemS x = some x := by
  unfold F_laws_toItemS
  have hl := h.1
  rw [mk?_ok (by omega) (by omega), Option.bind_some, to_loop (step := S_laws_toItemS_1 x) (by omega)]
  · rfl
  · intro i hi m hm
    unfold S_laws_toItemS_1
    have he := p_laws_toItem (x := x[i]) (h.2 _ (List.getElem_mem hi))
    simp only [dlt hi, if_true, at?_nat hi, at?_nat (show i < m.length by omega), Option.bind_some, set'_nat, w64_succ (show i < 9223372036854775807 by omega), he]
  · intro m
    unfold S_laws_toItemS_1
    simp
theorem p_laws_toSeg {x : TSeg} (h : Sz_TSeg x) : F_laws_toSeg x = some x := by
  unfold F_laws_toSeg
  simp only [p_laws_toItemS (x := x.Items) h.sItems, Option.bind_some]
theorem p_laws_toSegS {x : List TSeg} (h : x.length ≤ 1048576 ∧ ∀ y ∈ x, Sz_TSeg y) : F_laws_toSegS x = some x := by
  unfold F_laws_toSegS
  have hl := h.1
  rw [mk?_ok (by omega) (by omega), Option.bind_some, to_loop (step := S_laws_toSegS_1 x) (by omega)]
  · rfl
  · intro i hi m hm
    unfold S_laws_toSegS_1
    have he := p_laws_toSeg (x := x[i]) (h.2 _ (List.getElem_mem hi))
    simp only [dlt hi, if_true, at?_nat hi, at?_nat (show i < m.length by omega), Option.bind_some, set'_nat, w64_succ (show i < 9223372036854775807 by omega), he]
  · intro m
    unfold S_laws_toSegS_1
    simp
theorem p_laws_toLog {x : TLog} (h : Sz_TLog x) : F_laws_toLog x = some x := by
  unfold F_laws_toLog
  simp only [p_laws_toDisk (x := x.Disk) h.sDisk, p_laws_toSegS (x := x.Used) h.sUsed, Option.bind_some]
theorem p_laws_toIntS {x : List Int} (h : x.length ≤ 1048576) : F_laws_toIntS x = some x := by
  unfold F_laws_toIntS
  have hl := h
  rw [mk?_ok (by omega) (by omega), Option.bind_some, to_loop (step := S_laws_toIntS_1 x) (by omega)]
  · rfl
  · intro i hi m hm
    unfold S_laws_toIntS_1
    simp only [dlt hi, if_true, at?_nat hi, at?_nat (show i < m.length by omega), Option.bind_some, set'_nat, w64_succ (show i < 9223372036854775807 by omega)]
  · intro m
    unfold S_laws_toIntS_1
    simp
theorem p_laws_toStore {x : TStore} (h : Sz_TStore x) : F_laws_toStore x = some x := by
  unfold F_laws_toStore
  simp only [p_laws_toLog (x := x.Log) h.sLog, p_laws_toIntS (x := x.Freed) h.sFreed, Option.bind_some]
theorem p_slices_IndexFunc_Item_ItemsOk_1 {x0 : List TItem} {x1 : TItem} {q : TItem → Bool} (hl : x0.length ≤ 9223372036854775806) (hq : ∀ y ∈ x0, F_impl_ItemsOk_1_w y x1 = some (q y)) : F_slices_IndexFunc_Item_ItemsOk_1 x0 x1 = some (idxI (x0.findIdx? q)) := by
  unfold F_slices_IndexFunc_Item_ItemsOk_1
  rw [idx_loop (l := x0) (q := q) ?_ ?_]
  · cases x0.findIdx? q <;> rfl
  · intro i hi
    unfold S_slices_IndexFunc_Item_ItemsOk_1_1
    simp only [dlt hi, if_true, at?_nat hi, Option.bind_some, hq _ (List.getElem_mem hi), w64_succ (show i < 9223372036854775807 by omega)]
  · unfold S_slices_IndexFunc_Item_ItemsOk_1_1
    simp
theorem p_slices_ContainsFunc_Item_ItemsOk_1 {x0 : List TItem} {x1 : TItem} {q : TItem → Bool} (hl : x0.length ≤ 9223372036854775806) (hq : ∀ y ∈ x0, F_impl_ItemsOk_1_w y x1 = some (q y)) : F_slices_ContainsFunc_Item_ItemsOk_1 x0 x1 = some (x0.any q) := by
  unfold F_slices_ContainsFunc_Item_ItemsOk_1
  rw [p_slices_IndexFunc_Item_ItemsOk_1 hl hq, Option.bind_some, idx_any]
theorem p_slices_IndexFunc_Item_needed_1 {x0 : List TItem} {x1 : TItem} {q : TItem → Bool} (hl : x0.length ≤ 9223372036854775806) (hq : ∀ y ∈ x0, F_impl_needed_1_w y x1 = some (q y)) : F_slices_IndexFunc_Item_needed_1 x0 x1 = some (idxI (x0.findIdx? q)) := by
  unfold F_slices_IndexFunc_Item_needed_1
  rw [idx_loop (l := x0) (q := q) ?_ ?_]
  · cases x0.findIdx? q <;> rfl
  · intro i hi
    unfold S_slices_IndexFunc_Item_needed_1_1
    simp only [dlt hi, if_true, at?_nat hi, Option.bind_some, hq _ (List.getElem_mem hi), w64_succ (show i < 9223372036854775807 by omega)]
  · unfold S_slices_IndexFunc_Item_needed_1_1
    simp
theorem p_slices_ContainsFunc_Item_needed_1 {x0 : List TItem} {x1 : TItem} {q : TItem → Bool} (hl : x0.length ≤ 9223372036854775806) (hq : ∀ y ∈ x0, F_impl_needed_1_w y x1 = some (q y)) : F_slices_ContainsFunc_Item_needed_1 x0 x1 = some (x0.any q) := by
  unfold F_slices_ContainsFunc_Item_needed_1
  rw [p_slices_IndexFunc_Item_needed_1 hl hq, Option.bind_some, idx_any]
theorem p_slices_IndexFunc_Item_needed_2 {x0 : List TItem} {x1 : TRec} {q : TItem → Bool} (hl : x0.length ≤ 9223372036854775806) (hq : ∀ y ∈ x0, F_impl_needed_2_w y x1 = some (q y)) : F_slices_IndexFunc_Item_needed_2 x0 x1 = some (idxI (x0.findIdx? q)) := by
  unfold F_slices_IndexFunc_Item_needed_2
  rw [idx_loop (l := x0) (q := q) ?_ ?_]
  · cases x0.findIdx? q <;> rfl
  · intro i hi
    unfold S_slices_IndexFunc_Item_needed_2_1
    simp only [dlt hi, if_true, at?_nat hi, Option.bind_some, hq _ (List.getElem_mem hi), w64_succ (show i < 9223372036854775807 by omega)]
  · unfold S_slices_IndexFunc_Item_needed_2_1
    simp
theorem p_slices_ContainsFunc_Item_needed_2 {x0 : List TItem} {x1 : TRec} {q : TItem → Bool} (hl : x0.length ≤ 9223372036854775806) (hq : ∀ y ∈ x0, F_impl_needed_2_w y x1 = some (q y)) : F_slices_ContainsFunc_Item_needed_2 x0 x1 = some (x0.any q) := by
  unfold F_slices_ContainsFunc_Item_needed_2
  rw [p_slices_IndexFunc_Item_needed_2 hl hq, Option.bind_some, idx_any]
end Go.Proofs.YtcehlicmghnghaaGreat.V
/- What a record must be, and its text; frames. -/
namespace Go.Proofs.YtcehlicmghnghaaGreat.V
open Go Go.RowKit
/-- The lengths of what a record holds are no more than a machine's. -/
structure RecS (x : TRec) : Prop where
  user : x.User.length ≤ 1048576
  name : x.Name.length ≤ 1048576
  text : x.Text.length ≤ 1048576
def recOk (x : TRec) : Bool := inR x.Kind 1 5 && inR x.Valid 1 9999 &&
  (if x.Kind = 1 then wordOk x.User && wordOk x.Name && inR x.Next 1 10000 else x.User == [] && x.Name == [] && x.Next == 0) &&
  (if x.Kind = 3 ∨ x.Kind = 4 ∨ x.Kind = 5 then inR x.Uid 1 9999 else x.Uid == 0) &&
  (if x.Kind = 3 ∨ x.Kind = 4 then inR x.Flags 0 7 else x.Flags == 0) &&
  (if x.Kind = 3 then decide (x.Text.length ≤ 100) else x.Text == [])
theorem kinds {n : Int} : inR n 1 5 = true → n = 1 ∨ n = 2 ∨ n = 3 ∨ n = 4 ∨ n = 5 := by
  unfold inR
  intro h
  simp only [Bool.and_eq_true, decide_eq_true_eq] at h
  omega
theorem kinds_no {n : Int} : inR n 1 5 = false → n ≠ 1 ∧ n ≠ 2 ∧ n ≠ 3 ∧ n ≠ 4 ∧ n ≠ 5 := by
  unfold inR
  intro h
  simp only [Bool.and_eq_false_iff, decide_eq_false_iff_not] at h
  omega
theorem iteS {α : Type} {p : Prop} [Decidable p] {a b : α} : (if p then some a else some b) = some (if p then a else b) := by split <;> rfl
theorem spec_recOk {x : TRec} (h : RecS x) : F_spec_RecOk x = some (recOk x) := by
  have h1 := spec_word (s := x.User) (by have := h.user; omega)
  have h2 := spec_word (s := x.Name) (by have := h.name; omega)
  unfold F_spec_RecOk recOk
  simp only [spec_in, h1, h2, Option.bind_some]
  cases hk : inR x.Kind 1 5 with
  | false => simp
  | true =>
    cases hv : inR x.Valid 1 9999 with
    | false => simp
    | true =>
      rcases kinds hk with k | k | k | k | k <;> simp [k, iteS] <;> grind
theorem impl_recOk {x : TRec} (h : RecS x) : F_impl_RecOk x = some (recOk x) := by
  have h1 := impl_word (s := x.User) (by have := h.user; omega)
  have h2 := impl_word (s := x.Name) (by have := h.name; omega)
  unfold F_impl_RecOk recOk
  simp only [impl_in, h1, h2, Option.bind_some]
  cases hv : inR x.Valid 1 9999 with
  | false => simp
  | true =>
    cases hk : inR x.Kind 1 5 with
    | false =>
      obtain ⟨k1, k2, k3, k4, k5⟩ := kinds_no hk
      simp [k1, k2, k3, k4, k5]
    | true =>
      rcases kinds hk with k | k | k | k | k <;> simp [k, iteS] <;> grind
end Go.Proofs.YtcehlicmghnghaaGreat.V
/- Items: what they must be, and the latest of them. -/
namespace Go.Proofs.YtcehlicmghnghaaGreat.V
open Go Go.RowKit
set_option maxRecDepth 100000
def item0 : TItem := { Seq := 0, Rec := { Kind := 0, Valid := 0, Uid := 0, Next := 0, Flags := 0, User := [], Name := [], Text := [] } }
def itemEq (a b : TItem) : Bool := (a.Seq == b.Seq && (a.Rec.Kind == b.Rec.Kind && (a.Rec.Valid == b.Rec.Valid && (a.Rec.Uid == b.Rec.Uid && (a.Rec.Next == b.Rec.Next && (a.Rec.Flags == b.Rec.Flags && (a.Rec.User == b.Rec.User && (a.Rec.Name == b.Rec.Name && (a.Rec.Text == b.Rec.Text && true)))))))))
theorem itemEq_iff {a b : TItem} : itemEq a b = true ↔ a = b := by
  unfold itemEq
  constructor
  · intro h
    simp only [Bool.and_eq_true, beq_iff_eq, and_true] at h
    obtain ⟨h0, h1, h2, h3, h4, h5, h6, h7, h8⟩ := h
    obtain ⟨s, ⟨_, _, _, _, _, _, _, _⟩⟩ := a
    obtain ⟨s', ⟨_, _, _, _, _, _, _, _⟩⟩ := b
    simp_all
  · rintro rfl; simp
theorem RecS.of {x : TRec} (h : Sz_TRec x) : RecS x := ⟨h.sUser, h.sName, h.sText⟩
def SzI (l : List TItem) : Prop := l.length ≤ 1048576 ∧ ∀ y ∈ l, Sz_TItem y
def clash (x y : TItem) : Bool := y.Seq == x.Seq && !itemEq y x
def itOk (l : List TItem) (i : Nat) : Bool := match l[i]? with
  | some x => inR x.Seq 1 1000000000 && recOk x.Rec && !(l.take i).any (clash x)
  | none => true
def itemsOk (l : List TItem) : Bool := (List.range l.length).all (itOk l) && decide (l.length ≤ 200)
theorem itemsOk_spec {l : List TItem} (h : itemsOk l = true) : l.length ≤ 200 ∧ (∀ x ∈ l, (1 ≤ x.Seq ∧ x.Seq ≤ 1000000000) ∧ recOk x.Rec = true) ∧ ∀ x ∈ l, ∀ y ∈ l, x.Seq = y.Seq → x = y := by
  unfold itemsOk at h
  simp only [Bool.and_eq_true, decide_eq_true_eq, List.all_eq_true] at h
  obtain ⟨h1, h2⟩ := h
  have key : ∀ i (hi : i < l.length), (1 ≤ l[i].Seq ∧ l[i].Seq ≤ 1000000000) ∧ recOk l[i].Rec = true ∧ ∀ j (hj : j < i), l[j].Seq = l[i].Seq → l[j] = l[i] := by
    intro i hi
    have h3 := h1 i (List.mem_range.2 hi)
    unfold itOk at h3
    rw [List.getElem?_eq_getElem hi] at h3
    simp only [Bool.and_eq_true, inR, decide_eq_true_eq, Bool.not_eq_true', List.any_eq_false] at h3
    refine ⟨h3.1.1, h3.1.2, ?_⟩
    intro j hj he
    have h4 := h3.2 l[j] (List.mem_of_getElem? (i := j) (by rw [List.getElem?_take_of_lt hj, List.getElem?_eq_getElem (by omega)]))
    unfold clash at h4
    rw [he] at h4
    simp only [beq_self_eq_true, Bool.true_and, Bool.not_eq_true', Bool.not_eq_false] at h4
    exact itemEq_iff.1 h4
  refine ⟨h2, ?_, ?_⟩
  · intro x hx
    obtain ⟨i, hi, rfl⟩ := List.mem_iff_getElem.1 hx
    exact ⟨(key i hi).1, (key i hi).2.1⟩
  · intro x hx y hy he
    obtain ⟨i, hi, rfl⟩ := List.mem_iff_getElem.1 hx
    obtain ⟨j, hj, rfl⟩ := List.mem_iff_getElem.1 hy
    rcases Nat.lt_trichotomy i j with h | h | h
    · exact (key j hj).2.2 i h he
    · subst h; rfl
    · exact ((key i hi).2.2 j h he.symm).symm
theorem spec_itemsOk {l : List TItem} (h : SzI l) : F_spec_ItemsOk l = some (itemsOk l) := by
  have hlen := h.1
  have hl : iter (S_spec_ItemsOk_1 l) 0 = some (if (List.range l.length).all (itOk l) then .inr () else .inl false) := by
    refine iter_all (fun i => (i : Int)) l.length _ ?_ ?_ ?_
    all_goals first
      | (unfold S_spec_ItemsOk_1; simp; done)
      | skip
    all_goals
      intro i hi hp
      have inner : iter (S_spec_ItemsOk_2 l (i : Int)) 0 = some (if (l.take i).any (clash l[i]) then .inl false else .inr ()) := by
        refine any_loop (by omega) ?_ ?_
        · intro j hj hji
          unfold S_spec_ItemsOk_2
          simp only [dlt hji, if_true, at?_nat hj, at?_nat hi, Option.bind_some, w64_succ (show j < 9223372036854775807 by omega)]
          show ((if (l[j].Seq == l[i].Seq) = true then (if (!itemEq l[j] l[i]) = true then some true else some false) else some false) : Option Bool).bind _ = _
          unfold clash
          cases l[j].Seq == l[i].Seq <;> cases itemEq l[j] l[i] <;> simp
        · unfold S_spec_ItemsOk_2
          simp
      have hr := spec_recOk (RecS.of (h.2 _ (List.getElem_mem hi)).sRec)
      unfold itOk at hp
      rw [List.getElem?_eq_getElem hi] at hp
      dsimp only at hp
      unfold S_spec_ItemsOk_1
      simp only [dlt hi, if_true, at?_nat hi, Option.bind_some, spec_in, inner, hr]
      generalize inR l[i].Seq 1 1000000000 = b1 at hp ⊢
      generalize recOk l[i].Rec = b2 at hp ⊢
      generalize (l.take i).any (clash l[i]) = b4 at hp ⊢
      revert hp
      cases b1 <;> cases b2 <;> cases b4 <;> simp [w64_succ (show i < 9223372036854775807 by omega)]
  unfold F_spec_ItemsOk itemsOk
  rw [hl]
  cases (List.range l.length).all (itOk l)
  · simp
  · simp; omega
theorem impl_itemsOk {l : List TItem} (h : SzI l) : F_impl_ItemsOk l = some (itemsOk l) := by
  have hlen := h.1
  have hl : iter (S_impl_ItemsOk_1 l) 0 = some (if (List.range l.length).all (itOk l) then .inr () else .inl false) := by
    refine iter_all (fun i => (i : Int)) l.length _ ?_ ?_ ?_
    all_goals first
      | (unfold S_impl_ItemsOk_1; simp; done)
      | skip
    all_goals
      intro i hi hp
      have hc := p_slices_ContainsFunc_Item_ItemsOk_1 (x0 := l.take i) (x1 := l[i]) (q := clash l[i]) (by simp; omega) (fun y _ => by
        show (if (y.Seq == l[i].Seq) = true then some (!itemEq y l[i]) else some false) = _
        unfold clash
        cases y.Seq == l[i].Seq <;> simp)
      have hr := impl_recOk (RecS.of (h.2 _ (List.getElem_mem hi)).sRec)
      unfold itOk at hp
      rw [List.getElem?_eq_getElem hi] at hp
      dsimp only at hp
      unfold S_impl_ItemsOk_1
      simp only [dlt hi, if_true, at?_nat hi, Option.bind_some, impl_in, hc, hr, sub?_take (Nat.le_of_lt hi)]
      generalize inR l[i].Seq 1 1000000000 = b1 at hp ⊢
      generalize recOk l[i].Rec = b2 at hp ⊢
      generalize (l.take i).any (clash l[i]) = b4 at hp ⊢
      revert hp
      cases b1 <;> cases b2 <;> cases b4 <;> simp [w64_succ (show i < 9223372036854775807 by omega)]
  unfold F_impl_ItemsOk itemsOk
  rw [hl]
  by_cases h2 : l.length ≤ 200
  · rw [if_neg (by simp; omega)]
    cases (List.range l.length).all (itOk l) <;> simp [h2]
  · rw [if_pos (by simp; omega)]
    simp [h2]
/-! ### the latest -/
def pk (p : TItem → Bool) (lt : TItem → TItem → Bool) (l : List TItem) : Nat → Option TItem
  | 0 => none
  | i + 1 => match l[i]? with
    | some x => if p x && (match pk p lt l i with | none => true | some b => lt b x) then some x else pk p lt l i
    | none => pk p lt l i
def pick (p : TItem → Bool) (lt : TItem → TItem → Bool) (l : List TItem) : Option TItem := pk p lt l l.length
abbrev StI := Bool × Int × Int × Int × Int × Int × Int × Int × List UInt8 × List UInt8 × List UInt8
abbrev ReI := Bool × Int × Int × Int × Int × Int × Int × List UInt8 × List UInt8 × List UInt8
def stI (o : Option TItem) (i : Int) : StI := (o.isSome, i, (o.getD item0).Seq, (o.getD item0).Rec.Kind, (o.getD item0).Rec.Valid, (o.getD item0).Rec.Uid, (o.getD item0).Rec.Next, (o.getD item0).Rec.Flags, (o.getD item0).Rec.User, (o.getD item0).Rec.Name, (o.getD item0).Rec.Text)
def reI (o : Option TItem) : ReI := (o.isSome, (o.getD item0).Seq, (o.getD item0).Rec.Kind, (o.getD item0).Rec.Valid, (o.getD item0).Rec.Uid, (o.getD item0).Rec.Next, (o.getD item0).Rec.Flags, (o.getD item0).Rec.User, (o.getD item0).Rec.Name, (o.getD item0).Rec.Text)
theorem pick_loop {l : List TItem} {p : TItem → Bool} {lt : TItem → TItem → Bool} {step : StI → Option (StI ⊕ ReI)}
    (h1 : ∀ (i : Nat) (h : i < l.length) (o : Option TItem), step (stI o (i : Int)) = some (.inl (stI (if p l[i] && (match o with | none => true | some b => lt b l[i]) then some l[i] else o) ((i + 1 : Nat) : Int))))
    (h2 : ∀ o, step (stI o (l.length : Int)) = some (.inr (reI o))) : iter step (stI none 0) = some (reI (pick p lt l)) := by
  refine iter_range (step := step) (fun i => stI (pk p lt l i) (i : Int)) l.length ?_ (h2 _)
  intro i hi
  rw [h1 i hi]
  conv => rhs; rw [pk, List.getElem?_eq_getElem hi]
def optI (o : Option TItem) : TItem × Bool := (o.getD item0, o.isSome)
def bySeq (a b : TItem) : Bool := decide (a.Seq < b.Seq)
def byNext (a b : TItem) : Bool := if a.Rec.Next != b.Rec.Next then decide (a.Rec.Next < b.Rec.Next) else decide (a.Seq < b.Seq)
def isM (kind valid uid : Int) (x : TItem) : Bool := x.Rec.Kind == kind && x.Rec.Valid == valid && x.Rec.Uid == uid
def isB (kind valid : Int) (x : TItem) : Bool := x.Rec.Kind == kind && x.Rec.Valid == valid
theorem spec_best {l : List TItem} (h : l.length ≤ 1048576) (k v u : Int) : F_spec_l07Best l k v u = some (optI (pick (isM k v u) bySeq l)) := by
  unfold F_spec_l07Best
  have := pick_loop (l := l) (p := isM k v u) (lt := bySeq) (step := S_spec_l07Best_1 l k v u) ?_ ?_
  · rw [show ((false, 0, 0, 0, 0, 0, 0, 0, [], [], []) : StI) = stI none 0 from rfl, this]; rfl
  · intro i hi o
    unfold S_spec_l07Best_1 stI
    simp only [dlt hi, if_true, at?_nat hi, Option.bind_some, w64_succ (show i < 9223372036854775807 by omega), isM, bySeq]
    rcases o with _ | b
    · by_cases hk : l[i].Rec.Kind = k <;> by_cases hv : l[i].Rec.Valid = v <;> by_cases hu : l[i].Rec.Uid = u <;> simp [hk, hv, hu]
    · by_cases hk : l[i].Rec.Kind = k <;> by_cases hv : l[i].Rec.Valid = v <;> by_cases hu : l[i].Rec.Uid = u <;> by_cases hb : b.Seq < l[i].Seq <;> simp [hk, hv, hu, hb]
  · intro o
    unfold S_spec_l07Best_1 stI reI
    simp
theorem impl_mailItem {l : List TItem} (h : l.length ≤ 1048576) (k v u : Int) : F_impl_mailItem l k v u = some (optI (pick (isM k v u) bySeq l)) := by
  unfold F_impl_mailItem F_impl_latest_mailItem_1_bySeq
  have := pick_loop (l := l) (p := isM k v u) (lt := bySeq) (step := S_impl_latest_mailItem_1_bySeq_1 l k v u) ?_ ?_
  · rw [show ((false, 0, 0, 0, 0, 0, 0, 0, [], [], []) : StI) = stI none 0 from rfl, this]; rfl
  · intro i hi o
    unfold S_impl_latest_mailItem_1_bySeq_1 stI F_impl_mailItem_1_w F_impl_about F_impl_bySeq
    simp only [dlt hi, if_true, at?_nat hi, Option.bind_some, w64_succ (show i < 9223372036854775807 by omega), isM, bySeq]
    rcases o with _ | b
    · by_cases hk : l[i].Rec.Kind = k <;> by_cases hv : l[i].Rec.Valid = v <;> by_cases hu : l[i].Rec.Uid = u <;> simp [hk, hv, hu]
    · by_cases hk : l[i].Rec.Kind = k <;> by_cases hv : l[i].Rec.Valid = v <;> by_cases hu : l[i].Rec.Uid = u <;> by_cases hb : b.Seq < l[i].Seq <;> simp [hk, hv, hu, hb]
  · intro o
    unfold S_impl_latest_mailItem_1_bySeq_1 stI reI
    simp
theorem impl_drop {l : List TItem} (h : l.length ≤ 1048576) (v : Int) : F_impl_latest_boxThere_1_bySeq l v = some (optI (pick (isB 2 v) bySeq l)) := by
  unfold F_impl_latest_boxThere_1_bySeq
  have := pick_loop (l := l) (p := isB 2 v) (lt := bySeq) (step := S_impl_latest_boxThere_1_bySeq_1 l v) ?_ ?_
  · rw [show ((false, 0, 0, 0, 0, 0, 0, 0, [], [], []) : StI) = stI none 0 from rfl, this]; rfl
  · intro i hi o
    unfold S_impl_latest_boxThere_1_bySeq_1 stI F_impl_boxThere_1_w F_impl_about F_impl_bySeq
    simp only [dlt hi, if_true, at?_nat hi, Option.bind_some, w64_succ (show i < 9223372036854775807 by omega), isB, bySeq]
    rcases o with _ | b
    · by_cases hk : l[i].Rec.Kind = 2 <;> by_cases hv : l[i].Rec.Valid = v <;> simp [hk, hv]
    · by_cases hk : l[i].Rec.Kind = 2 <;> by_cases hv : l[i].Rec.Valid = v <;> by_cases hb : b.Seq < l[i].Seq <;> simp [hk, hv, hb]
  · intro o
    unfold S_impl_latest_boxThere_1_bySeq_1 stI reI
    simp
theorem impl_drop2 {l : List TItem} (h : l.length ≤ 1048576) (r : TRec) : F_impl_latest_needed_3_bySeq l r = some (optI (pick (isB 2 r.Valid) bySeq l)) := by
  unfold F_impl_latest_needed_3_bySeq
  have := pick_loop (l := l) (p := isB 2 r.Valid) (lt := bySeq) (step := S_impl_latest_needed_3_bySeq_1 l r) ?_ ?_
  · rw [show ((false, 0, 0, 0, 0, 0, 0, 0, [], [], []) : StI) = stI none 0 from rfl, this]; rfl
  · intro i hi o
    unfold S_impl_latest_needed_3_bySeq_1 stI F_impl_needed_3_w F_impl_about F_impl_bySeq
    simp only [dlt hi, if_true, at?_nat hi, Option.bind_some, w64_succ (show i < 9223372036854775807 by omega), isB, bySeq]
    rcases o with _ | b
    · by_cases hk : l[i].Rec.Kind = 2 <;> by_cases hv : l[i].Rec.Valid = r.Valid <;> simp [hk, hv]
    · by_cases hk : l[i].Rec.Kind = 2 <;> by_cases hv : l[i].Rec.Valid = r.Valid <;> by_cases hb : b.Seq < l[i].Seq <;> simp [hk, hv, hb]
  · intro o
    unfold S_impl_latest_needed_3_bySeq_1 stI reI
    simp
theorem impl_box {l : List TItem} (h : l.length ≤ 1048576) (v : Int) : F_impl_latest_boxThere_2_byNext l v = some (optI (pick (isB 1 v) byNext l)) := by
  unfold F_impl_latest_boxThere_2_byNext
  have := pick_loop (l := l) (p := isB 1 v) (lt := byNext) (step := S_impl_latest_boxThere_2_byNext_1 l v) ?_ ?_
  · rw [show ((false, 0, 0, 0, 0, 0, 0, 0, [], [], []) : StI) = stI none 0 from rfl, this]; rfl
  · intro i hi o
    unfold S_impl_latest_boxThere_2_byNext_1 stI F_impl_boxThere_2_w F_impl_about F_impl_byNext
    simp only [dlt hi, if_true, at?_nat hi, Option.bind_some, w64_succ (show i < 9223372036854775807 by omega), isB, byNext]
    rcases o with _ | b
    · by_cases hk : l[i].Rec.Kind = 1 <;> by_cases hv : l[i].Rec.Valid = v <;> simp [hk, hv]
    · by_cases hk : l[i].Rec.Kind = 1 <;> by_cases hv : l[i].Rec.Valid = v <;> by_cases hn : b.Rec.Next = l[i].Rec.Next <;> by_cases hb : b.Seq < l[i].Seq <;> by_cases hx : b.Rec.Next < l[i].Rec.Next <;> simp [hk, hv, hb, hn, hx]
  · intro o
    unfold S_impl_latest_boxThere_2_byNext_1 stI reI
    simp
end Go.Proofs.YtcehlicmghnghaaGreat.V
/- What is needed. -/
namespace Go.Proofs.YtcehlicmghnghaaGreat.V
open Go Go.RowKit
set_option maxRecDepth 100000
theorem pk_spec {p : TItem → Bool} {lt : TItem → TItem → Bool} {l : List TItem} (irr : ∀ a, lt a a = false) (tr : ∀ a b c, lt a b = true → lt b c = true → lt a c = true) : ∀ i, i ≤ l.length →
    (match pk p lt l i with | some b => b ∈ l ∧ p b = true ∧ ∀ (j : Nat) y, j < i → l[j]? = some y → p y = true → lt b y = false | none => ∀ (j : Nat) y, j < i → l[j]? = some y → p y = false)
  | 0, _ => by simp [pk]
  | i + 1, hi => by
    have ih := pk_spec irr tr (p := p) (l := l) i (by omega)
    have hg : l[i]? = some l[i] := List.getElem?_eq_getElem (by omega)
    rw [pk, hg]
    dsimp only
    cases hp : pk p lt l i with
    | none =>
      rw [hp] at ih
      dsimp only at ih
      cases hx : p l[i] with
      | true =>
        simp only [Bool.true_and, if_true]
        refine ⟨List.getElem_mem _, hx, ?_⟩
        intro j y hj hy hpy
        by_cases e : j = i
        · subst e; rw [hg] at hy; cases hy; exact irr _
        · rw [ih j y (by omega) hy] at hpy; cases hpy
      | false =>
        simp only [Bool.false_and]
        intro j y hj hy
        by_cases e : j = i
        · subst e; rw [hg] at hy; cases hy; exact hx
        · exact ih j y (by omega) hy
    | some b =>
      rw [hp] at ih
      dsimp only at ih
      obtain ⟨h1, h2, h3⟩ := ih
      cases hx : p l[i] with
      | false =>
        simp only [Bool.false_and]
        refine ⟨h1, h2, ?_⟩
        intro j y hj hy hpy
        by_cases e : j = i
        · subst e; rw [hg] at hy; cases hy; rw [hx] at hpy; cases hpy
        · exact h3 j y (by omega) hy hpy
      | true =>
        simp only [Bool.true_and]
        cases hl : lt b l[i] with
        | false =>
          simp only [Bool.false_eq_true, if_false]
          refine ⟨h1, h2, ?_⟩
          intro j y hj hy hpy
          by_cases e : j = i
          · subst e; rw [hg] at hy; cases hy; exact hl
          · exact h3 j y (by omega) hy hpy
        | true =>
          simp only [if_true]
          refine ⟨List.getElem_mem _, hx, ?_⟩
          intro j y hj hy hpy
          by_cases e : j = i
          · subst e; rw [hg] at hy; cases hy; exact irr _
          · have h4 := h3 j y (by omega) hy hpy
            cases h5 : lt l[i] y with
            | false => rfl
            | true => rw [tr _ _ _ hl h5] at h4; cases h4
theorem bySeq_irr (a : TItem) : bySeq a a = false := by simp [bySeq]
theorem bySeq_tr (a b c : TItem) (h : bySeq a b = true) (h' : bySeq b c = true) : bySeq a c = true := by simp [bySeq] at *; omega
theorem byNext_irr (a : TItem) : byNext a a = false := by simp [byNext]
theorem byNext_iff {a b : TItem} : byNext a b = true ↔ a.Rec.Next < b.Rec.Next ∨ (a.Rec.Next = b.Rec.Next ∧ a.Seq < b.Seq) := by
  unfold byNext
  by_cases h : a.Rec.Next = b.Rec.Next
  · simp [h]
  · simp [h]
theorem byNext_tr (a b c : TItem) (h : byNext a b = true) (h' : byNext b c = true) : byNext a c = true := by
  rw [byNext_iff] at *
  omega
theorem pick_some {p lt l b} (irr : ∀ a, lt a a = false) (tr : ∀ a b c, lt a b = true → lt b c = true → lt a c = true) (h : pick p lt l = some b) : b ∈ l ∧ p b = true ∧ ∀ y ∈ l, p y = true → lt b y = false := by
  have := pk_spec (p := p) (l := l) irr tr l.length (Nat.le_refl _)
  unfold pick at h
  rw [h] at this
  refine ⟨this.1, this.2.1, ?_⟩
  intro y hy hp
  obtain ⟨j, hj⟩ := List.getElem?_of_mem hy
  exact this.2.2 j y (List.getElem?_eq_some_iff.1 hj).1 hj hp
theorem pick_none {p lt l} (irr : ∀ a, lt a a = false) (tr : ∀ a b c, lt a b = true → lt b c = true → lt a c = true) (h : pick p lt l = none) : ∀ y ∈ l, p y = false := by
  have := pk_spec (p := p) (l := l) irr tr l.length (Nat.le_refl _)
  unfold pick at h
  rw [h] at this
  intro y hy
  obtain ⟨j, hj⟩ := List.getElem?_of_mem hy
  exact this j y (List.getElem?_eq_some_iff.1 hj).1 hj
theorem pk_congr {p q : TItem → Bool} {lt : TItem → TItem → Bool} {l : List TItem} (h : ∀ y ∈ l, p y = q y) : ∀ i, pk p lt l i = pk q lt l i
  | 0 => rfl
  | i + 1 => by
    unfold pk
    rw [pk_congr h i]
    cases hx : l[i]? with
    | none => rfl
    | some x => simp only [h x (List.mem_of_getElem? hx)]
theorem pick_congr {p q : TItem → Bool} {lt : TItem → TItem → Bool} {l : List TItem} (h : ∀ y ∈ l, p y = q y) : pick p lt l = pick q lt l := pk_congr h _
theorem pick_any {p lt l} (irr : ∀ a, lt a a = false) (tr : ∀ a b c, lt a b = true → lt b c = true → lt a c = true) : (pick p lt l).isSome = l.any p := by
  cases h : pick p lt l with
  | none =>
    have := pick_none irr tr h
    symm
    simp only [Option.isSome_none, List.any_eq_false]
    intro y hy; rw [this y hy]; simp
  | some b =>
    obtain ⟨h1, h2, _⟩ := pick_some irr tr h
    symm
    simp only [Option.isSome_some, List.any_eq_true]
    exact ⟨b, h1, h2⟩
def hasB (l : List TItem) (k v u : Int) : Bool := (pick (isM k v u) bySeq l).isSome
def there (l : List TItem) (v : Int) : Bool := hasB l 1 v 0 && !hasB l 2 v 0
def bigger (a b : TItem) : Bool := decide (a.Rec.Next > b.Rec.Next) || (a.Rec.Next == b.Rec.Next && decide (a.Seq > b.Seq))
def seqIs (o : Option TItem) (x : TItem) : Bool := (o.getD item0).Seq == x.Seq
def needB (l : List TItem) (x : TItem) : Bool :=
  if x.Rec.Kind = 1 then !(l.any fun y => isB 1 x.Rec.Valid y && bigger y x) && there l x.Rec.Valid
  else if x.Rec.Kind = 2 then (l.any fun y => y.Rec.Kind != 2 && y.Rec.Valid == x.Rec.Valid) && seqIs (pick (isM 2 x.Rec.Valid 0) bySeq l) x
  else if x.Rec.Kind = 5 then there l x.Rec.Valid && hasB l 3 x.Rec.Valid x.Rec.Uid && seqIs (pick (isM 5 x.Rec.Valid x.Rec.Uid) bySeq l) x
  else there l x.Rec.Valid && hasB l 3 x.Rec.Valid x.Rec.Uid && !hasB l 5 x.Rec.Valid x.Rec.Uid && seqIs (pick (isM x.Rec.Kind x.Rec.Valid x.Rec.Uid) bySeq l) x
def needK (l : List TItem) (k : Nat) (x : TItem) : Bool := !(l.take k).any (fun y => y.Seq == x.Seq) && needB l x
theorem spec_has {l : List TItem} (h : l.length ≤ 1048576) (k v u : Int) : F_spec_l08Has l k v u = some (hasB l k v u) := by
  unfold F_spec_l08Has; rw [spec_best h]; rfl
theorem spec_there {l : List TItem} (h : l.length ≤ 1048576) (v : Int) : F_spec_l08There l v = some (there l v) := by
  unfold F_spec_l08There there
  rw [spec_has h, Option.bind_some, spec_has h]
  cases hasB l 1 v 0 <;> simp
theorem spec_bigger (a b : TItem) : F_spec_l08Bigger a b = some (bigger a b) := by
  unfold F_spec_l08Bigger bigger
  by_cases h1 : a.Rec.Next > b.Rec.Next <;> by_cases h2 : a.Rec.Next = b.Rec.Next <;> simp [h1, h2]
theorem spec_need {l : List TItem} (h : l.length ≤ 1048576) {k : Nat} (hk : k < l.length) : F_spec_l08Need l (k : Int) = some (needK l k l[k]) := by
  have d1 : iter (S_spec_l08Need_1 l (k : Int) l[k]) 0 = some (if (l.take k).any (fun y => y.Seq == l[k].Seq) then .inl false else .inr ()) := by
    refine any_loop (by omega) ?_ ?_
    · intro j hj hjk
      unfold S_spec_l08Need_1
      simp only [dlt hjk, if_true, at?_nat hj, Option.bind_some, w64_succ (show j < 9223372036854775807 by omega)]
    · unfold S_spec_l08Need_1; simp
  have d2 : ∀ v : TItem × Bool, iter (S_spec_l08Need_2 l l[k] v) 0 = some (if (l.take l.length).any (fun y => y.Rec.Kind != 2 && y.Rec.Valid == l[k].Rec.Valid) then .inl (v.1.Seq == l[k].Seq) else .inr ()) := by
    intro v
    refine any_loop (by omega) ?_ ?_
    · intro j hj hjk
      unfold S_spec_l08Need_2
      simp only [dlt hjk, if_true, at?_nat hj, Option.bind_some, w64_succ (show j < 9223372036854775807 by omega)]
      by_cases q1 : l[j].Rec.Kind = 2 <;> by_cases q2 : l[j].Rec.Valid = l[k].Rec.Valid <;> simp [q1, q2]
    · unfold S_spec_l08Need_2; simp
  have d3 : iter (S_spec_l08Need_3 l l[k]) 0 = some (if (l.take l.length).any (fun y => isB 1 l[k].Rec.Valid y && bigger y l[k]) then .inl false else .inr ()) := by
    refine any_loop (by omega) ?_ ?_
    · intro j hj hjk
      unfold S_spec_l08Need_3
      simp only [dlt hjk, if_true, at?_nat hj, Option.bind_some, w64_succ (show j < 9223372036854775807 by omega), spec_bigger, isB]
      by_cases q1 : l[j].Rec.Kind = 1 <;> by_cases q2 : l[j].Rec.Valid = l[k].Rec.Valid <;> cases bigger l[j] l[k] <;> simp [q1, q2]
    · unfold S_spec_l08Need_3; simp
  unfold F_spec_l08Need needK
  rw [at?_nat hk, Option.bind_some, d1, Option.bind_some]
  cases (l.take k).any (fun y => y.Seq == l[k].Seq) with
  | true => rfl
  | false =>
    simp only [Bool.not_false, Bool.true_and, Sum.elim_inr]
    unfold needB
    rw [List.take_length] at d2 d3
    by_cases k1 : l[k].Rec.Kind = 1
    · rw [if_pos (by simpa using k1), if_pos k1, d3, Option.bind_some]
      cases l.any (fun y => isB 1 l[k].Rec.Valid y && bigger y l[k])
      · simp [spec_there h]
      · simp
    · rw [if_neg (by simpa using k1), if_neg k1]
      by_cases k2 : l[k].Rec.Kind = 2
      · rw [if_pos (by simpa using k2), if_pos k2, spec_best h, Option.bind_some, d2, Option.bind_some]
        cases l.any (fun y => y.Rec.Kind != 2 && y.Rec.Valid == l[k].Rec.Valid) <;> simp [optI, seqIs]
      · rw [if_neg (by simpa using k2), if_neg k2]
        by_cases k5 : l[k].Rec.Kind = 5
        · rw [if_pos (by simpa using k5), if_pos k5, spec_best h, Option.bind_some, spec_there h, Option.bind_some, spec_has h]
          cases there l l[k].Rec.Valid <;> cases hasB l 3 l[k].Rec.Valid l[k].Rec.Uid <;> simp [optI, seqIs]
        · rw [if_neg (by simpa using k5), if_neg k5, spec_best h, Option.bind_some, spec_there h, Option.bind_some, spec_has h, spec_has h]
          cases there l l[k].Rec.Valid <;> cases hasB l 3 l[k].Rec.Valid l[k].Rec.Uid <;> cases hasB l 5 l[k].Rec.Valid l[k].Rec.Uid <;> simp [optI, seqIs]
end Go.Proofs.YtcehlicmghnghaaGreat.V
/- What is needed, as the program has it. -/
namespace Go.Proofs.YtcehlicmghnghaaGreat.V
open Go Go.RowKit
set_option maxRecDepth 100000
theorem recOk_uid {x : TRec} (h : recOk x = true) (hk : x.Kind = 1 ∨ x.Kind = 2) : x.Uid = 0 := by
  unfold recOk at h
  simp only [Bool.and_eq_true] at h
  have := h.1.1.2
  rw [if_neg (by omega)] at this
  simpa using this
theorem isB_isM {l : List TItem} (hok : itemsOk l = true) {k : Int} (hk : k = 1 ∨ k = 2) (v : Int) : ∀ y ∈ l, isB k v y = isM k v 0 y := by
  intro y hy
  have h1 := ((itemsOk_spec hok).2.1 y hy).2
  unfold isB isM
  by_cases h2 : y.Rec.Kind = k
  · have := recOk_uid h1 (by rw [h2]; exact hk)
    simp [this]
  · simp [h2]
theorem seqIs_iff {l : List TItem} (hok : itemsOk l = true) {p : TItem → Bool} {x : TItem} (hx : x ∈ l) (hp : p x = true) {o : Option TItem} (ho : pick p bySeq l = o) : (o.isSome && itemEq (o.getD item0) x) = seqIs o x := by
  subst ho
  cases h : pick p bySeq l with
  | none => have := pick_none bySeq_irr bySeq_tr h x hx; rw [hp] at this; cases this
  | some b =>
    obtain ⟨h1, h2, _⟩ := pick_some bySeq_irr bySeq_tr h
    unfold seqIs
    rw [Bool.eq_iff_iff]
    simp only [Option.isSome_some, Option.getD_some, Bool.true_and, itemEq_iff, beq_iff_eq]
    exact ⟨fun e => by rw [e], fun e => (itemsOk_spec hok).2.2 b h1 x hx e⟩
theorem box_best {l : List TItem} (hok : itemsOk l = true) {x : TItem} (hx : x ∈ l) (hk : x.Rec.Kind = 1) : itemEq ((pick (isB 1 x.Rec.Valid) byNext l).getD item0) x = !(l.any fun y => isB 1 x.Rec.Valid y && bigger y x) := by
  have hp : isB 1 x.Rec.Valid x = true := by simp [isB, hk]
  cases h : pick (isB 1 x.Rec.Valid) byNext l with
  | none => have := pick_none byNext_irr byNext_tr h x hx; rw [hp] at this; cases this
  | some b =>
    obtain ⟨h1, h2, h3⟩ := pick_some byNext_irr byNext_tr h
    rw [Bool.eq_iff_iff]
    simp only [Option.getD_some, itemEq_iff, Bool.not_eq_true', List.any_eq_false, Bool.and_eq_true, not_and]
    have hb : ∀ y z : TItem, bigger y z = true ↔ byNext z y = true := by
      intro y z
      rw [byNext_iff]
      unfold bigger
      simp only [Bool.or_eq_true, Bool.and_eq_true, decide_eq_true_eq, beq_iff_eq]
      omega
    constructor
    · rintro rfl y hy hpy hby
      rw [hb, h3 y hy hpy] at hby; cases hby
    · intro hall
      have g1 := hall b h1 h2
      rw [hb] at g1
      have g2 := h3 x hx hp
      rw [← Bool.not_eq_true] at g2
      rw [byNext_iff] at g1 g2
      exact (itemsOk_spec hok).2.2 b h1 x hx (by omega)
theorem impl_boxThere {l : List TItem} (h : l.length ≤ 1048576) (hok : itemsOk l = true) (v : Int) : F_impl_boxThere l v = some (if there l v then optI (pick (isB 1 v) byNext l) else (item0, false)) := by
  unfold F_impl_boxThere there hasB
  rw [impl_drop h, Option.bind_some, impl_box h, pick_congr (isB_isM hok (.inr rfl) v)]
  have e : (pick (isB 1 v) byNext l).isSome = (pick (isM 1 v 0) bySeq l).isSome := by
    rw [pick_any byNext_irr byNext_tr, pick_any bySeq_irr bySeq_tr]
    rw [Bool.eq_iff_iff, List.any_eq_true, List.any_eq_true]
    exact ⟨fun ⟨y, h1, h2⟩ => ⟨y, h1, by rw [← isB_isM hok (.inl rfl) v y h1]; exact h2⟩, fun ⟨y, h1, h2⟩ => ⟨y, h1, by rw [isB_isM hok (.inl rfl) v y h1]; exact h2⟩⟩
  rw [← e]
  unfold optI
  cases (pick (isM 2 v 0) bySeq l).isSome with
  | true => simp; rfl
  | false =>
    cases hb : pick (isB 1 v) byNext l <;> simp
theorem impl_mailThere {l : List TItem} (h : l.length ≤ 1048576) (hok : itemsOk l = true) (v u : Int) : ∃ y, F_impl_mailThere l v u = some (y, there l v && !hasB l 5 v u && hasB l 3 v u) := by
  unfold F_impl_mailThere
  rw [impl_boxThere h hok, Option.bind_some]
  have hs : there l v = true → (pick (isB 1 v) byNext l).isSome = true := by
    intro ht
    unfold there hasB at ht
    simp only [Bool.and_eq_true] at ht
    rw [pick_any byNext_irr byNext_tr]
    have := ht.1
    rw [pick_any bySeq_irr bySeq_tr] at this
    obtain ⟨y, h1, h2⟩ := List.any_eq_true.1 this
    exact List.any_eq_true.2 ⟨y, h1, by rw [isB_isM hok (.inl rfl) v y h1]; exact h2⟩
  cases ht : there l v with
  | false => exact ⟨item0, by simp; rfl⟩
  | true =>
    have := hs ht
    simp only [if_true, optI, this, Bool.not_true, Bool.false_eq_true, if_false, impl_mailItem h, Option.bind_some]
    unfold hasB
    cases (pick (isM 5 v u) bySeq l).isSome with
    | true => exact ⟨item0, by simp; rfl⟩
    | false => exact ⟨_, by simp; rfl⟩
theorem impl_need {l : List TItem} (h : l.length ≤ 1048576) (hok : itemsOk l = true) {k : Nat} (hk : k < l.length) : F_impl_needed l (k : Int) = some (needK l k l[k]) := by
  have hc := p_slices_ContainsFunc_Item_needed_1 (x0 := l.take k) (x1 := l[k]) (q := fun y => y.Seq == l[k].Seq) (by simp; omega) (fun y _ => rfl)
  have hc2 := p_slices_ContainsFunc_Item_needed_2 (x0 := l) (x1 := l[k].Rec) (q := fun y => y.Rec.Kind != 2 && y.Rec.Valid == l[k].Rec.Valid) (by omega) (fun y _ => by
    unfold F_impl_needed_2_w
    by_cases q1 : y.Rec.Kind = 2 <;> by_cases q2 : y.Rec.Valid = l[k].Rec.Valid <;> simp [q1, q2])
  have hm : l[k] ∈ l := List.getElem_mem hk
  have hr := ((itemsOk_spec hok).2.1 _ hm).2
  unfold F_impl_needed needK
  rw [at?_nat hk, Option.bind_some, sub?_take (Nat.le_of_lt hk), Option.bind_some, hc, Option.bind_some]
  cases (l.take k).any (fun y => y.Seq == l[k].Seq) with
  | true => rfl
  | false =>
    simp only [Bool.not_false, Bool.true_and, Bool.false_eq_true, if_false]
    unfold needB
    have fin : ∀ {o : Option TItem}, (if o.isSome = true then some ((o.getD item0).Seq == l[k].Seq && ((o.getD item0).Rec.Kind == l[k].Rec.Kind && ((o.getD item0).Rec.Valid == l[k].Rec.Valid && ((o.getD item0).Rec.Uid == l[k].Rec.Uid && ((o.getD item0).Rec.Next == l[k].Rec.Next && ((o.getD item0).Rec.Flags == l[k].Rec.Flags && ((o.getD item0).Rec.User == l[k].Rec.User && ((o.getD item0).Rec.Name == l[k].Rec.Name && ((o.getD item0).Rec.Text == l[k].Rec.Text && true))))))))) else some false) = some (o.isSome && itemEq (o.getD item0) l[k]) := by
      intro o
      cases o <;> rfl
    have kk := kinds (n := l[k].Rec.Kind) (by unfold recOk at hr; simp only [Bool.and_eq_true] at hr; exact hr.1.1.1.1.1)
    rcases kk with e | e | e | e | e
    · have hb := box_best hok hm e
      have h1 := impl_boxThere h hok l[k].Rec.Valid
      rw [if_pos (by simpa using e), if_pos e, h1, Option.bind_some, Option.bind_some]
      cases ht : there l l[k].Rec.Valid with
      | false => simp
      | true =>
        have hp : isB 1 l[k].Rec.Valid l[k] = true := by simp [isB, e]
        have hs : (pick (isB 1 l[k].Rec.Valid) byNext l).isSome = true := by rw [pick_any byNext_irr byNext_tr]; exact List.any_eq_true.2 ⟨_, hm, hp⟩
        rw [← hb]
        simp only [if_true, optI, Sum.elim_inr]
        rw [fin, hs]; simp
    · have hp : isM 2 l[k].Rec.Valid 0 l[k] = true := by simp [isM, e, recOk_uid hr (.inr e)]
      have hs := seqIs_iff hok hm hp rfl
      rw [if_neg (by simp [e]), if_pos (by simp [e]), if_neg (by omega), if_pos e, hc2, Option.bind_some, impl_drop2 h, pick_congr (isB_isM hok (.inr rfl) _)]
      cases l.any (fun y => y.Rec.Kind != 2 && y.Rec.Valid == l[k].Rec.Valid) with
      | false => simp
      | true =>
        simp only [if_true, optI, Option.bind_some, Sum.elim_inr]
        rw [fin, hs]; simp
    · have hp : isM l[k].Rec.Kind l[k].Rec.Valid l[k].Rec.Uid l[k] = true := by simp [isM]
      have hs := seqIs_iff hok hm hp rfl
      obtain ⟨y, h1⟩ := impl_mailThere h hok l[k].Rec.Valid l[k].Rec.Uid
      rw [if_neg (by simp [e]), if_neg (by simp [e]), if_pos (by simp [e]), if_neg (by omega), if_neg (by omega), if_neg (by omega), h1, Option.bind_some, impl_mailItem h]
      cases there l l[k].Rec.Valid <;> cases hasB l 5 l[k].Rec.Valid l[k].Rec.Uid <;> cases hasB l 3 l[k].Rec.Valid l[k].Rec.Uid <;> simp only [Bool.not_true, Bool.not_false, Bool.true_and, Bool.false_and, Bool.and_false, if_true, if_false, Bool.false_eq_true, optI, Option.bind_some, Sum.elim_inr, Sum.elim_inl]
      all_goals first
        | (rw [fin, hs]; done)
        | rfl
    · have hp : isM l[k].Rec.Kind l[k].Rec.Valid l[k].Rec.Uid l[k] = true := by simp [isM]
      have hs := seqIs_iff hok hm hp rfl
      obtain ⟨y, h1⟩ := impl_mailThere h hok l[k].Rec.Valid l[k].Rec.Uid
      rw [if_neg (by simp [e]), if_neg (by simp [e]), if_neg (by simp [e]), if_pos (by simp [e]), Option.bind_some, if_pos rfl, if_neg (by omega), if_neg (by omega), if_neg (by omega), h1, Option.bind_some, impl_mailItem h]
      cases there l l[k].Rec.Valid <;> cases hasB l 5 l[k].Rec.Valid l[k].Rec.Uid <;> cases hasB l 3 l[k].Rec.Valid l[k].Rec.Uid <;> simp only [Bool.not_true, Bool.not_false, Bool.true_and, Bool.false_and, Bool.and_false, if_true, if_false, Bool.false_eq_true, optI, Option.bind_some, Sum.elim_inr, Sum.elim_inl]
      all_goals first
        | (rw [fin, hs]; done)
        | rfl
    · have hp : isM 5 l[k].Rec.Valid l[k].Rec.Uid l[k] = true := by simp [isM, e]
      have hs := seqIs_iff hok hm hp rfl
      have h1 := impl_boxThere h hok l[k].Rec.Valid
      have hbx : there l l[k].Rec.Valid = true → (pick (isB 1 l[k].Rec.Valid) byNext l).isSome = true := by
        intro ht
        unfold there hasB at ht
        simp only [Bool.and_eq_true] at ht
        rw [pick_any byNext_irr byNext_tr]
        have := ht.1
        rw [pick_any bySeq_irr bySeq_tr] at this
        obtain ⟨y, g1, g2⟩ := List.any_eq_true.1 this
        exact List.any_eq_true.2 ⟨y, g1, by rw [isB_isM hok (.inl rfl) _ y g1]; exact g2⟩
      rw [if_neg (by simp [e]), if_neg (by simp [e]), if_neg (by simp [e]), if_neg (by simp [e]), Option.bind_some, if_neg (by simp), if_pos (by simp [e]), if_neg (by omega), if_neg (by omega), if_pos e, h1, Option.bind_some, impl_mailItem h, Option.bind_some, impl_mailItem h]
      unfold hasB optI
      cases ht : there l l[k].Rec.Valid with
      | false => rfl
      | true =>
        have := hbx ht
        generalize (pick (isM 3 l[k].Rec.Valid l[k].Rec.Uid) bySeq l).isSome = b3
        cases b3 <;> simp only [Bool.not_true, Bool.not_false, Bool.true_and, Bool.false_and, Bool.and_false, if_true, if_false, Bool.false_eq_true, this, Option.bind_some, Sum.elim_inr, Sum.elim_inl]
        rw [fin, hs]
end Go.Proofs.YtcehlicmghnghaaGreat.V
/- What items tell: boxes and mails. The plain law. -/
namespace Go.Proofs.YtcehlicmghnghaaGreat.V
open Go Go.RowKit
set_option maxRecDepth 100000
def mailOf (l : List TItem) (v u : Int) : TMail := { Uid := u, Flags := ((pick (isM 4 v u) bySeq l).getD ((pick (isM 3 v u) bySeq l).getD item0)).Rec.Flags, Text := ((pick (isM 3 v u) bySeq l).getD item0).Rec.Text }
def isA (l : List TItem) (v : Int) (x : TItem) : Bool := x.Rec.Kind == 3 && (x.Rec.Valid == v && !hasB l 5 v x.Rec.Uid)
def uidsOf (l : List TItem) (v : Int) : List Int := uniq ((l.filter (isA l v)).map fun x => x.Rec.Uid)
def isAG (v : Int) (x : TItem) : Bool := (x.Rec.Kind == 3 && x.Rec.Valid == v) || (x.Rec.Kind == 5 && x.Rec.Valid == v)
def allUids (l : List TItem) (v : Int) : List Int := uniq ((l.filter (isAG v)).map fun x => x.Rec.Uid)
def tellOf (l : List TItem) (v : Int) : TItem := (pick (isB 1 v) byNext l).getD item0
def kOf (v : Int) (x : TItem) : Int := if x.Rec.Valid = v then (if x.Rec.Kind = 1 then x.Rec.Next else if x.Rec.Kind = 3 ∨ x.Rec.Kind = 5 then x.Rec.Uid + 1 else 0) else 0
def nextOf (l : List TItem) (v : Int) : Int := l.foldl (fun n x => max n (kOf v x)) 1
def mailsOf (l : List TItem) (v : Int) : List TMail := (uidsOf l v).map (mailOf l v)
def boxOf (l : List TItem) (v : Int) : TBox := { Valid := v, User := (tellOf l v).Rec.User, Name := (tellOf l v).Rec.Name, Next := nextOf l v, Mails := mailsOf l v }
def isBx (l : List TItem) (x : TItem) : Bool := x.Rec.Kind == 1 && !hasB l 2 x.Rec.Valid 0
def validsOf (l : List TItem) : List Int := uniq ((l.filter (isBx l)).map fun x => x.Rec.Valid)
def allValids (l : List TItem) : List Int := uniq ((l.filter fun x => x.Rec.Kind == 1).map fun x => x.Rec.Valid)
def stateOf (l : List TItem) : TState := if itemsOk l then { Boxes := (validsOf l).map (boxOf l) } else { Boxes := [] }
theorem hasB_iff {l : List TItem} {k v u : Int} : hasB l k v u = true ↔ ∃ y ∈ l, y.Rec.Kind = k ∧ y.Rec.Valid = v ∧ y.Rec.Uid = u := by
  unfold hasB
  rw [pick_any bySeq_irr bySeq_tr, List.any_eq_true]
  simp only [isM, Bool.and_eq_true, beq_iff_eq]
  exact ⟨fun ⟨y, h, ⟨h1, h2⟩, h3⟩ => ⟨y, h, h1, h2, h3⟩, fun ⟨y, h, h1, h2, h3⟩ => ⟨y, h, ⟨h1, h2⟩, h3⟩⟩
theorem ok_rec {l : List TItem} (hok : itemsOk l = true) {x : TItem} (hx : x ∈ l) : recOk x.Rec = true := ((itemsOk_spec hok).2.1 x hx).2
theorem recOk_next {x : TRec} (h : recOk x = true) (hk : x.Kind = 1) : 1 ≤ x.Next ∧ x.Next ≤ 10000 := by
  unfold recOk at h
  simp only [Bool.and_eq_true] at h
  have := h.1.1.1.2
  rw [if_pos hk] at this
  simp only [inR, Bool.and_eq_true, decide_eq_true_eq] at this
  exact this.2
theorem recOk_uid9 {x : TRec} (h : recOk x = true) : 0 ≤ x.Uid ∧ x.Uid ≤ 9999 := by
  unfold recOk at h
  simp only [Bool.and_eq_true] at h
  have := h.1.1.2
  by_cases hk : x.Kind = 3 ∨ x.Kind = 4 ∨ x.Kind = 5
  · rw [if_pos hk] at this
    simp only [inR, Bool.and_eq_true, decide_eq_true_eq] at this; omega
  · rw [if_neg hk] at this
    have : x.Uid = 0 := by simpa using this
    omega
theorem valids_eq {l : List TItem} (hok : itemsOk l = true) : (allValids l).filter (there l) = validsOf l := by
  unfold allValids validsOf
  rw [uniq_filter, List.filter_map, List.filter_filter]
  congr 2
  refine List.filter_congr fun x hx => ?_
  show (there l x.Rec.Valid && (x.Rec.Kind == 1)) = isBx l x
  unfold isBx
  by_cases hk : x.Rec.Kind = 1
  · have h1 : hasB l 1 x.Rec.Valid 0 = true := hasB_iff.2 ⟨x, hx, hk, rfl, recOk_uid (ok_rec hok hx) (.inl hk)⟩
    simp [there, h1, hk]
  · have h0 : (x.Rec.Kind == 1) = false := by simpa using hk
    simp [h0]
theorem uids_eq {l : List TItem} {v : Int} (ht : there l v = true) : (allUids l v).filter (fun u => there l v && !hasB l 5 v u && hasB l 3 v u) = uidsOf l v := by
  unfold allUids uidsOf
  refine asc_eq (asc_filter (uniq_spec _).1 _) (uniq_spec _).1 fun u => ?_
  rw [List.mem_filter, (uniq_spec _).2, (uniq_spec _).2]
  simp only [List.mem_map, List.mem_filter, ht, Bool.true_and, Bool.and_eq_true, isA, isAG, Bool.or_eq_true, beq_iff_eq]
  constructor
  · rintro ⟨_, h5, h3⟩
    obtain ⟨y, hy, h1, h2, rfl⟩ := hasB_iff.1 h3
    exact ⟨y, ⟨hy, h1, h2, h5⟩, rfl⟩
  · rintro ⟨y, ⟨hy, h1, h2, h5⟩, rfl⟩
    exact ⟨⟨y, ⟨hy, .inl ⟨h1, h2⟩⟩, rfl⟩, h5, hasB_iff.2 ⟨y, hy, h1, h2, rfl⟩⟩
theorem fold_max {α : Type} (f : α → Int) : ∀ (l : List α) (n : Int), n ≤ l.foldl (fun n x => max n (f x)) n ∧ (∀ x ∈ l, f x ≤ l.foldl (fun n x => max n (f x)) n) ∧ ∀ M, n ≤ M → (∀ x ∈ l, f x ≤ M) → l.foldl (fun n x => max n (f x)) n ≤ M
  | [], n => ⟨Int.le_refl _, by simp, fun M h _ => h⟩
  | a :: l, n => by
    obtain ⟨h1, h2, h3⟩ := fold_max f l (max n (f a))
    simp only [List.foldl_cons]
    refine ⟨by omega, ?_, ?_⟩
    · intro x hx
      rcases List.mem_cons.1 hx with rfl | hx
      · omega
      · exact h2 x hx
    · intro M hn hM
      refine h3 M ?_ fun x hx => hM x (by simp [hx])
      have := hM a (by simp)
      omega
theorem tell_spec {l : List TItem} (hok : itemsOk l = true) {v : Int} (ht : there l v = true) : tellOf l v ∈ l ∧ (tellOf l v).Rec.Kind = 1 ∧ (tellOf l v).Rec.Valid = v ∧ (∀ y ∈ l, y.Rec.Kind = 1 → y.Rec.Valid = v → byNext (tellOf l v) y = false) ∧ pick (isB 1 v) byNext l = some (tellOf l v) := by
  unfold there at ht
  simp only [Bool.and_eq_true] at ht
  obtain ⟨y, hy, h1, h2, _⟩ := hasB_iff.1 ht.1
  unfold tellOf
  cases h : pick (isB 1 v) byNext l with
  | none =>
    have := pick_none byNext_irr byNext_tr h y hy
    simp [isB, h1, h2] at this
  | some b =>
    obtain ⟨g1, g2, g3⟩ := pick_some byNext_irr byNext_tr h
    simp only [isB, Bool.and_eq_true, beq_iff_eq] at g2
    exact ⟨g1, g2.1, g2.2, fun y hy e1 e2 => g3 y hy (by simp [isB, e1, e2]), rfl⟩
theorem next_eq {l : List TItem} (hok : itemsOk l = true) {v : Int} (ht : there l v = true) : (allUids l v).foldl (fun n u => max n (u + 1)) (tellOf l v).Rec.Next = nextOf l v := by
  obtain ⟨h1, h2, h3, h4, _⟩ := tell_spec hok ht
  obtain ⟨a1, a2, a3⟩ := fold_max (fun u : Int => u + 1) (allUids l v) (tellOf l v).Rec.Next
  obtain ⟨b1, b2, b3⟩ := fold_max (kOf v) l 1
  have hn := recOk_next (ok_rec hok h1) h2
  refine Int.le_antisymm ?_ ?_
  · refine a3 _ ?_ ?_
    · have := b2 _ h1
      rw [kOf, if_pos h3, if_pos h2] at this
      exact this
    · intro u hu
      unfold allUids at hu
      rw [(uniq_spec _).2] at hu
      simp only [List.mem_map, List.mem_filter, isAG, Bool.or_eq_true, Bool.and_eq_true, beq_iff_eq] at hu
      obtain ⟨x, ⟨hx, hk⟩, rfl⟩ := hu
      have := b2 x hx
      rw [kOf, if_pos (by rcases hk with hk | hk <;> exact hk.2), if_neg (by rcases hk with hk | hk <;> omega), if_pos (by rcases hk with hk | hk <;> simp [hk.1])] at this
      exact this
  · refine b3 _ (by omega) ?_
    intro x hx
    unfold kOf
    split
    case isFalse => omega
    rename_i hv
    split
    · rename_i hk
      have := h4 x hx hk hv
      rw [← Bool.not_eq_true, byNext_iff] at this
      omega
    · split
      · rename_i hk
        refine a2 _ ?_
        unfold allUids
        rw [(uniq_spec _).2]
        exact List.mem_map.2 ⟨x, List.mem_filter.2 ⟨hx, by rcases hk with hk | hk <;> simp [isAG, hk, hv]⟩, rfl⟩
      · omega
theorem allUids_bd {l : List TItem} (hok : itemsOk l = true) {v u : Int} (h : u ∈ allUids l v) : 0 ≤ u ∧ u ≤ 9999 := by
  unfold allUids at h
  rw [(uniq_spec _).2] at h
  obtain ⟨x, hx, rfl⟩ := List.mem_map.1 h
  exact recOk_uid9 (ok_rec hok (List.mem_filter.1 hx).1)
end Go.Proofs.YtcehlicmghnghaaGreat.V
/- What items tell, as the functions have it. -/
namespace Go.Proofs.YtcehlicmghnghaaGreat.V
open Go Go.RowKit
set_option maxRecDepth 100000
theorem take_succ' {α : Type} {l : List α} {i : Nat} (h : i < l.length) : l.take (i + 1) = l.take i ++ [l[i]] := List.take_succ_eq_append_getElem h
theorem flt_loop {α β : Type} {l : List α} {byt : Nat} {p : α → Bool} {f : α → β} {o0 : List β} {step : Int × List β → Option ((Int × List β) ⊕ List β)} (hl : l.length ≤ 1048576) (h0 : o0.length ≤ 1048577) (hb : byt ≤ 1000000)
    (h1 : ∀ (i : Nat) (h : i < l.length) (o : List β), step ((i : Int), o) = if p l[i] then (app? byt o [f l[i]]).bind fun v => some (.inl (((i + 1 : Nat) : Int), v)) else some (.inl (((i + 1 : Nat) : Int), o)))
    (h2 : ∀ o, step ((l.length : Int), o) = some (.inr o)) : iter step (0, o0) = some (o0 ++ (l.filter p).map f) := by
  have h := iter_range (step := step) (fun i => ((i : Int), o0 ++ ((l.take i).filter p).map f)) l.length (r := o0 ++ (l.filter p).map f) ?_ ?_
  · simpa using h
  · intro i hi
    rw [h1 i hi, take_succ' hi, List.filter_append, List.map_append]
    have hf : ((l.take i).filter p).length ≤ i := Nat.le_trans (List.length_filter_le _ _) (by simp; omega)
    cases hp : p l[i]
    · simp [hp]
    · have hm : (o0.length + i + 1) * byt ≤ 2097154 * 1000000 := Nat.mul_le_mul (by omega) hb
      rw [if_pos rfl, app?_ok (by simp; omega) ?_]
      · simp [hp]
      · refine Nat.le_trans (Nat.mul_le_mul_right byt (m := o0.length + i + 1) ?_) (by omega)
        simp; omega
  · rw [List.take_length]; exact h2 _
theorem map_loop {α β : Type} {l : List α} {byt : Nat} {f : α → β} {step : Int × List β → Option ((Int × List β) ⊕ List β)} (hl : l.length ≤ 1048576) (hb : byt ≤ 1000000)
    (h1 : ∀ (i : Nat) (h : i < l.length) (o : List β), step ((i : Int), o) = (app? byt o [f l[i]]).bind fun v => some (.inl (((i + 1 : Nat) : Int), v)))
    (h2 : ∀ o, step ((l.length : Int), o) = some (.inr o)) : iter step (0, []) = some (l.map f) := by
  have h := flt_loop (l := l) (byt := byt) (p := fun _ => true) (f := f) (o0 := []) (step := step) hl (by simp) hb (fun i h o => by rw [h1 i h o, if_pos rfl]) h2
  have e : l.filter (fun _ => true) = l := by simp
  rw [h, e]; rfl
theorem ins_loop {α : Type} {l : List α} {p : α → Bool} {f : α → Int} {step : Int × List Int → Option ((Int × List Int) ⊕ List Int)} (hl : l.length ≤ 1048576)
    (h1 : ∀ (i : Nat) (h : i < l.length) (o : List Int), o.length ≤ 1048576 → step ((i : Int), o) = some (.inl (((i + 1 : Nat) : Int), if p l[i] then ins o (f l[i]) else o)))
    (h2 : ∀ o, step ((l.length : Int), o) = some (.inr o)) : iter step (0, []) = some (uniq ((l.filter p).map f)) := by
  have h := iter_range (step := step) (fun i => ((i : Int), (((l.take i).filter p).map f).foldl ins [])) l.length (r := uniq ((l.filter p).map f)) ?_ ?_
  · simpa using h
  · intro i hi
    have hlen : ((((l.take i).filter p).map f).foldl ins []).length ≤ 1048576 := by
      rw [insAll_uniq]
      refine Nat.le_trans (uniq_length _) ?_
      rw [List.length_map]
      refine Nat.le_trans (List.length_filter_le _ _) (by simp; omega)
    rw [h1 i hi _ hlen, take_succ' hi, List.filter_append, List.map_append, List.foldl_append]
    cases hp : p l[i] <;> simp [hp]
  · rw [List.take_length, h2, insAll_uniq]
theorem spec_sorted {l : List Int} (h : l.length ≤ 1048576) (x : Int) : F_spec_l07Sorted l x = some (ins l x) := by
  unfold F_spec_l07Sorted ins
  rw [flt_loop (l := l) (byt := 8) (p := fun y => decide (y < x)) (f := fun y => y) (o0 := []) h (by simp) (by omega)]
  · rw [Option.bind_some, List.nil_append, List.map_id']
    have hf : (l.filter fun y => decide (y < x)).length ≤ 1048576 := Nat.le_trans (List.length_filter_le _ _) h
    rw [app?_ok (by simp; omega) (by simp; omega), Option.bind_some]
    rw [flt_loop (l := l) (byt := 8) (p := fun y => decide (y > x)) (f := fun y => y) h (by simp; omega) (by omega)]
    · simp
    · intro i hi o
      unfold S_spec_l07Sorted_2
      simp only [dlt hi, if_true, at?_nat hi, Option.bind_some, w64_succ (show i < 9223372036854775807 by omega)]
    · intro o
      unfold S_spec_l07Sorted_2; simp
  · intro i hi o
    unfold S_spec_l07Sorted_1
    simp only [dlt hi, if_true, at?_nat hi, Option.bind_some, w64_succ (show i < 9223372036854775807 by omega)]
  · intro o
    unfold S_spec_l07Sorted_1; simp
theorem sort_comp {l : List Int} (h : l.length ≤ 1048576) : ((sort? l).bind fun v => (comp? v).bind fun v8 => some v8) = some (uniq l) := by
  unfold sort? comp?
  rw [if_pos (by omega), Option.bind_some, if_pos (by rw [sortI_length]; omega)]
  rfl
theorem spec_tell {l : List TItem} (hok : itemsOk l = true) (v : Int) : F_spec_l07Tell l v = some (tellOf l v) := by
  have hl := (itemsOk_spec hok).1
  have hseq : ∀ i b, i ≤ l.length → pk (isB 1 v) byNext l i = some b → 1 ≤ b.Seq := by
    intro i b hi hb
    have := pk_spec (p := isB 1 v) (l := l) byNext_irr byNext_tr i hi
    rw [hb] at this
    exact ((itemsOk_spec hok).2.1 b this.1).1.1
  unfold F_spec_l07Tell tellOf pick
  let st : Option TItem → Int → Int × Int × Int × Int × Int × Int × Int × List UInt8 × List UInt8 × List UInt8 := fun o i => (i, (o.getD item0).Seq, (o.getD item0).Rec.Kind, (o.getD item0).Rec.Valid, (o.getD item0).Rec.Uid, (o.getD item0).Rec.Next, (o.getD item0).Rec.Flags, (o.getD item0).Rec.User, (o.getD item0).Rec.Name, (o.getD item0).Rec.Text)
  have h := iter_range (step := S_spec_l07Tell_1 l v) (fun i => st (pk (isB 1 v) byNext l i) (i : Int)) l.length (r := (st (pk (isB 1 v) byNext l l.length) 0).2) ?_ ?_
  · have h0 : st (pk (isB 1 v) byNext l 0) ((0 : Nat) : Int) = (0, 0, 0, 0, 0, 0, 0, [], [], []) := rfl
    rw [h0] at h
    rw [h]; rfl
  · intro i hi
    conv => rhs; rw [pk, List.getElem?_eq_getElem hi]
    have hq := hseq i
    generalize pk (isB 1 v) byNext l i = o at hq ⊢
    simp only [st]
    unfold S_spec_l07Tell_1
    simp only [dlt hi, if_true, at?_nat hi, Option.bind_some, w64_succ (show i < 9223372036854775807 by omega), isB, byNext]
    rcases o with _ | b
    · by_cases hk : l[i].Rec.Kind = 1 <;> by_cases hv : l[i].Rec.Valid = v <;> simp [hk, hv, item0]
    · have hb := hq b (by omega) rfl
      have hb0 : b.Seq ≠ 0 := by omega
      rcases Int.lt_trichotomy b.Rec.Next l[i].Rec.Next with hn | hn | hn
      · have e1 : ¬ b.Rec.Next = l[i].Rec.Next := by omega
        by_cases hk : l[i].Rec.Kind = 1 <;> by_cases hv : l[i].Rec.Valid = v <;> simp [hk, hv, hb0, hn, e1]
      · by_cases hk : l[i].Rec.Kind = 1 <;> by_cases hv : l[i].Rec.Valid = v <;> by_cases h2 : b.Seq < l[i].Seq <;> simp [hk, hv, hb0, hn, h2]
      · have e1 : ¬ b.Rec.Next = l[i].Rec.Next := by omega
        have e2 : ¬ l[i].Rec.Next = b.Rec.Next := by omega
        have e3 : ¬ b.Rec.Next < l[i].Rec.Next := by omega
        by_cases hk : l[i].Rec.Kind = 1 <;> by_cases hv : l[i].Rec.Valid = v <;> simp [hk, hv, hb0, e1, e2, e3]
  · unfold S_spec_l07Tell_1
    simp [st]
theorem spec_next {l : List TItem} (hok : itemsOk l = true) (v : Int) : F_spec_l07Next l v = some (nextOf l v) := by
  have hl := (itemsOk_spec hok).1
  unfold F_spec_l07Next nextOf
  have h := iter_range (step := S_spec_l07Next_1 l v) (fun i => ((l.take i).foldl (fun n x => max n (kOf v x)) 1, (i : Int))) l.length (r := l.foldl (fun n x => max n (kOf v x)) 1) ?_ ?_
  · simp only [List.take_zero, List.foldl_nil] at h
    rw [show ((1, 0) : Int × Int) = (1, ((0 : Nat) : Int)) from rfl, h]; rfl
  · intro i hi
    have hu := recOk_uid9 (ok_rec hok (List.getElem_mem hi))
    rw [take_succ' hi, List.foldl_append]
    have hge : 1 ≤ (l.take i).foldl (fun n x => max n (kOf v x)) 1 := (fold_max (kOf v) (l.take i) 1).1
    generalize (l.take i).foldl (fun n x => max n (kOf v x)) 1 = a at hge ⊢
    unfold S_spec_l07Next_1
    simp only [dlt hi, if_true, at?_nat hi, Option.bind_some, w64_succ (show i < 9223372036854775807 by omega), w64_id (n := l[i].Rec.Uid + 1) (by omega) (by omega), List.foldl_cons, List.foldl_nil, kOf]
    have mx : ∀ y : Int, (if decide (y > a) = true then some (Sum.inl (y, ((i + 1 : Nat) : Int))) else some (Sum.inl (a, ((i + 1 : Nat) : Int))) : Option ((Int × Int) ⊕ Int)) = some (.inl (max a y, ((i + 1 : Nat) : Int))) := by
      intro y
      by_cases h : y > a
      · rw [if_pos (by simpa using h), Int.max_eq_right (by omega)]
      · rw [if_neg (by simpa using h), Int.max_eq_left (by omega)]
    by_cases hv : l[i].Rec.Valid = v
    · simp only [hv, bne_self_eq_false, Bool.false_eq_true, if_true, if_false]
      by_cases h1 : l[i].Rec.Kind = 1
      · simp only [h1, beq_self_eq_true, if_true, Option.bind_some]; exact mx _
      · have k1 : (l[i].Rec.Kind == 1) = false := by simpa using h1
        by_cases h3 : l[i].Rec.Kind = 3
        · have k3 : (l[i].Rec.Kind == 3) = true := by simpa using h3
          simp only [k1, k3, Bool.false_eq_true, if_false, if_true, Option.bind_some, if_neg h1, if_pos (Or.inl h3 : l[i].Rec.Kind = 3 ∨ l[i].Rec.Kind = 5)]; exact mx _
        · have k3 : (l[i].Rec.Kind == 3) = false := by simpa using h3
          by_cases h5 : l[i].Rec.Kind = 5
          · have k5 : (l[i].Rec.Kind == 5) = true := by simpa using h5
            simp only [k1, k3, k5, Bool.false_eq_true, if_false, if_true, Option.bind_some, if_neg h1, if_pos (Or.inr h5 : l[i].Rec.Kind = 3 ∨ l[i].Rec.Kind = 5)]; exact mx _
          · have k5 : (l[i].Rec.Kind == 5) = false := by simpa using h5
            simp only [k1, k3, k5, Bool.false_eq_true, if_false, Option.bind_some, if_neg h1, if_neg (show ¬ (l[i].Rec.Kind = 3 ∨ l[i].Rec.Kind = 5) by omega)]; exact mx _
    · have hvb : (l[i].Rec.Valid != v) = true := by simp [hv]
      simp only [hvb, if_true, if_neg hv]
      rw [Int.max_eq_left (by omega)]
  · rw [List.take_length]
    unfold S_spec_l07Next_1
    simp
theorem spec_mails {l : List TItem} (hl : l.length ≤ 1048576) (v : Int) : F_spec_l07Mails l v = some (mailsOf l v) := by
  unfold F_spec_l07Mails mailsOf
  rw [ins_loop (l := l) (p := isA l v) (f := fun x => x.Rec.Uid) hl, Option.bind_some]
  · have hu : (uidsOf l v).length ≤ 1048576 := by
      unfold uidsOf
      refine Nat.le_trans (uniq_length _) ?_
      rw [List.length_map]
      exact Nat.le_trans (List.length_filter_le _ _) hl
    show (iter (S_spec_l07Mails_2 l v (uidsOf l v)) (0, [])).bind _ = _
    rw [map_loop (l := uidsOf l v) (byt := 32) (f := mailOf l v) hu (by omega)]
    · rfl
    · intro i hi o
      unfold S_spec_l07Mails_2
      simp only [dlt hi, if_true, at?_nat hi, Option.bind_some, w64_succ (show i < 9223372036854775807 by omega), spec_best hl, mailOf, optI]
      cases pick (isM 4 v (uidsOf l v)[i]) bySeq l <;> simp
    · intro o
      unfold S_spec_l07Mails_2; simp
  · intro i hi o ho
    unfold S_spec_l07Mails_1
    simp only [dlt hi, if_true, at?_nat hi, Option.bind_some, w64_succ (show i < 9223372036854775807 by omega), spec_best hl, spec_sorted ho, isA, hasB, optI]
    by_cases h1 : l[i].Rec.Kind = 3 <;> by_cases h2 : l[i].Rec.Valid = v <;> by_cases h3 : (pick (isM 5 v l[i].Rec.Uid) bySeq l).isSome = true <;> simp [h1, h2, h3]
  · intro o
    unfold S_spec_l07Mails_1; simp
theorem validsOf_len {l : List TItem} : (validsOf l).length ≤ l.length := by
  unfold validsOf
  refine Nat.le_trans (uniq_length _) ?_
  rw [List.length_map]
  exact List.length_filter_le _ _
theorem spec_stateOf {l : List TItem} (h : SzI l) : F_spec_StateOf l = some (stateOf l) := by
  have hl := h.1
  unfold F_spec_StateOf stateOf
  rw [spec_itemsOk h, Option.bind_some]
  cases hok : itemsOk l with
  | false => rfl
  | true =>
    rw [if_pos rfl, if_pos rfl, ins_loop (l := l) (p := isBx l) (f := fun x => x.Rec.Valid) hl, Option.bind_some]
    · show (iter (S_spec_StateOf_2 l (validsOf l)) (0, [])).bind _ = _
      have hv : (validsOf l).length ≤ 1048576 := Nat.le_trans validsOf_len hl
      rw [map_loop (l := validsOf l) (byt := 72) (f := boxOf l) hv (by omega)]
      · rfl
      · intro i hi o
        unfold S_spec_StateOf_2
        simp only [dlt hi, if_true, at?_nat hi, Option.bind_some, w64_succ (show i < 9223372036854775807 by omega), spec_tell hok, spec_next hok, spec_mails hl, boxOf]
      · intro o
        unfold S_spec_StateOf_2; simp
    · intro i hi o ho
      unfold S_spec_StateOf_1
      simp only [dlt hi, if_true, at?_nat hi, Option.bind_some, w64_succ (show i < 9223372036854775807 by omega), spec_best hl, spec_sorted ho, isBx, hasB, optI]
      by_cases h1 : l[i].Rec.Kind = 1 <;> by_cases h3 : (pick (isM 2 l[i].Rec.Valid 0) bySeq l).isSome = true <;> simp [h1, h3]
    · intro o
      unfold S_spec_StateOf_1; simp
end Go.Proofs.YtcehlicmghnghaaGreat.V
/- What items tell, as the program has it. -/
namespace Go.Proofs.YtcehlicmghnghaaGreat.V
open Go Go.RowKit
set_option maxRecDepth 100000
theorem impl_mailThere' {l : List TItem} (h : l.length ≤ 1048576) (hok : itemsOk l = true) (v u : Int) : F_impl_mailThere l v u = some (if there l v && !hasB l 5 v u && hasB l 3 v u then ((pick (isM 3 v u) bySeq l).getD item0, true) else (item0, false)) := by
  unfold F_impl_mailThere
  rw [impl_boxThere h hok, Option.bind_some]
  have hs : there l v = true → (pick (isB 1 v) byNext l).isSome = true := by
    intro ht
    rw [(tell_spec hok ht).2.2.2.2]; rfl
  cases ht : there l v with
  | false => simp; rfl
  | true =>
    have := hs ht
    simp only [if_true, optI, this, Bool.not_true, Bool.false_eq_true, if_false, impl_mailItem h, Option.bind_some]
    unfold hasB
    by_cases h5 : (pick (isM 5 v u) bySeq l).isSome = true
    · simp [h5]; rfl
    · cases h3 : pick (isM 3 v u) bySeq l <;> simp [h5]
theorem impl_numV {l : List TItem} (hl : l.length ≤ 1048576) : F_impl_numbers_StateOf_1 l = some (allValids l) := by
  unfold F_impl_numbers_StateOf_1 allValids
  rw [flt_loop (l := l) (byt := 8) (p := fun x => x.Rec.Kind == 1) (f := fun x => x.Rec.Valid) (o0 := []) hl (by simp) (by omega), Option.bind_some]
  · refine sort_comp ?_
    rw [List.nil_append, List.length_map]
    exact Nat.le_trans (List.length_filter_le _ _) hl
  · intro i hi o
    unfold S_impl_numbers_StateOf_1_1 F_impl_StateOf_1
    simp only [dlt hi, if_true, at?_nat hi, Option.bind_some, w64_succ (show i < 9223372036854775807 by omega)]
  · intro o
    unfold S_impl_numbers_StateOf_1_1; simp
theorem impl_numU {l : List TItem} (hl : l.length ≤ 1048576) (v : Int) : F_impl_numbers_boxState_1 l v = some (allUids l v) := by
  unfold F_impl_numbers_boxState_1 allUids
  rw [flt_loop (l := l) (byt := 8) (p := isAG v) (f := fun x => x.Rec.Uid) (o0 := []) hl (by simp) (by omega), Option.bind_some]
  · refine sort_comp ?_
    rw [List.nil_append, List.length_map]
    exact Nat.le_trans (List.length_filter_le _ _) hl
  · intro i hi o
    unfold S_impl_numbers_boxState_1_1 F_impl_boxState_1_w F_impl_about isAG
    simp only [dlt hi, if_true, at?_nat hi, Option.bind_some, w64_succ (show i < 9223372036854775807 by omega)]
    by_cases h2 : l[i].Rec.Valid = v
    · by_cases h1 : l[i].Rec.Kind = 3
      · simp [h1, h2]
      · by_cases h3 : l[i].Rec.Kind = 5 <;> simp [h1, h2, h3]
    · by_cases h1 : l[i].Rec.Kind = 3
      · simp [h1, h2]
      · by_cases h3 : l[i].Rec.Kind = 5 <;> simp [h1, h2, h3]
  · intro o
    unfold S_impl_numbers_boxState_1_1; simp
theorem allUids_len {l : List TItem} {v : Int} : (allUids l v).length ≤ l.length := by
  unfold allUids
  refine Nat.le_trans (uniq_length _) ?_
  rw [List.length_map]
  exact List.length_filter_le _ _
theorem allValids_len {l : List TItem} : (allValids l).length ≤ l.length := by
  unfold allValids
  refine Nat.le_trans (uniq_length _) ?_
  rw [List.length_map]
  exact List.length_filter_le _ _
theorem impl_boxState {l : List TItem} (hl : l.length ≤ 1048576) (hok : itemsOk l = true) {v : Int} (ht : there l v = true) : F_impl_boxState l (tellOf l v) = some (boxOf l v) := by
  obtain ⟨t1, t2, t3, t4, _⟩ := tell_spec hok ht
  have hul : (allUids l v).length ≤ 1048576 := Nat.le_trans allUids_len hl
  unfold F_impl_boxState
  rw [t3, impl_numU hl, Option.bind_some]
  let q : Int → Bool := fun u => there l v && !hasB l 5 v u && hasB l 3 v u
  have h := iter_range (step := S_impl_boxState_1 l (tellOf l v) (allUids l v)) (fun i => ((i : Int), ((allUids l v).take i).foldl (fun n u => max n (u + 1)) (tellOf l v).Rec.Next, (((allUids l v).take i).filter q).map (mailOf l v))) (allUids l v).length (r := ((allUids l v).foldl (fun n u => max n (u + 1)) (tellOf l v).Rec.Next, ((allUids l v).filter q).map (mailOf l v))) ?_ ?_
  · simp only [List.take_zero, List.foldl_nil, List.filter_nil, List.map_nil] at h
    rw [show ((0, (tellOf l v).Rec.Next, ([] : List TMail)) : Int × Int × List TMail) = (((0 : Nat) : Int), (tellOf l v).Rec.Next, []) from rfl, h, Option.bind_some, next_eq hok ht, uids_eq ht]
    rfl
  · intro i hi
    have hub := allUids_bd hok (List.getElem_mem hi)
    rw [take_succ' hi, List.foldl_append, List.filter_append, List.map_append]
    have hf : (((allUids l v).take i).filter q).length ≤ 1048576 := Nat.le_trans (List.length_filter_le _ _) (by simp; omega)
    generalize ((allUids l v).take i).foldl (fun n u => max n (u + 1)) (tellOf l v).Rec.Next = a
    unfold S_impl_boxState_1
    simp only [dlt hi, if_true, at?_nat hi, Option.bind_some, w64_succ (show i < 9223372036854775807 by omega), w64_id (n := (allUids l v)[i] + 1) (by omega) (by omega), t3, impl_mailThere' hl hok, impl_mailItem hl, optI]
    have mx : (if (allUids l v)[i] + 1 > a then (allUids l v)[i] + 1 else a) = max a ((allUids l v)[i] + 1) := by
      by_cases h : (allUids l v)[i] + 1 > a
      · rw [if_pos h, Int.max_eq_right (by omega)]
      · rw [if_neg h, Int.max_eq_left (by omega)]
    rw [mx]
    show _ = some (Sum.inl (_, _, _ ++ ([(allUids l v)[i]].filter q).map (mailOf l v)))
    by_cases hq : (there l v && !hasB l 5 v (allUids l v)[i] && hasB l 3 v (allUids l v)[i]) = true
    · have hq' : q (allUids l v)[i] = true := hq
      rw [if_pos hq, List.filter_cons, if_pos hq']
      simp only [Bool.not_true, Bool.false_eq_true, if_false]
      have fl' : ((if (pick (isM 4 v (allUids l v)[i]) bySeq l).isSome = true then some ((pick (isM 4 v (allUids l v)[i]) bySeq l).getD item0).Rec.Flags else some ((pick (isM 3 v (allUids l v)[i]) bySeq l).getD item0).Rec.Flags) : Option Int) = some ((pick (isM 4 v (allUids l v)[i]) bySeq l).getD ((pick (isM 3 v (allUids l v)[i]) bySeq l).getD item0)).Rec.Flags := by
        cases pick (isM 4 v (allUids l v)[i]) bySeq l <;> rfl
      rw [fl', Option.bind_some, app?_ok (by simp; omega) (by simp; omega)]
      rfl
    · have hq' : q (allUids l v)[i] = false := (Bool.not_eq_true _).mp hq
      rw [if_neg hq, List.filter_cons, hq']
      simp
  · rw [List.take_length]
    unfold S_impl_boxState_1
    simp
theorem impl_stateOf {l : List TItem} (h : SzI l) : F_impl_StateOf l = some (stateOf l) := by
  have hl := h.1
  unfold F_impl_StateOf stateOf
  rw [impl_itemsOk h, Option.bind_some]
  cases hok : itemsOk l with
  | false => rfl
  | true =>
    rw [if_pos rfl, if_pos rfl, impl_numV hl, Option.bind_some]
    rw [flt_loop (l := allValids l) (byt := 72) (p := there l) (f := boxOf l) (o0 := []) (Nat.le_trans allValids_len hl) (by simp) (by omega), Option.bind_some, valids_eq hok]
    · rfl
    · intro i hi o
      have hvl := @allValids_len l
      unfold S_impl_StateOf_1
      simp only [dlt hi, if_true, at?_nat hi, Option.bind_some, w64_succ (show i < 9223372036854775807 by omega), impl_boxThere hl hok]
      by_cases ht : there l (allValids l)[i] = true
      · have ho : (optI (pick (isB 1 (allValids l)[i]) byNext l)).2 = true := by rw [(tell_spec hok ht).2.2.2.2]; rfl
        have ho1 : (optI (pick (isB 1 (allValids l)[i]) byNext l)).1 = tellOf l (allValids l)[i] := rfl
        rw [if_pos ht, if_pos ht, ho, if_pos rfl, ho1, impl_boxState hl hok ht, Option.bind_some]
      · rw [if_neg ht, if_neg ht]; simp
    · intro o
      unfold S_impl_StateOf_1; simp
/-! ### how great it is -/
end Go.Proofs.YtcehlicmghnghaaGreat.V
/- StateOf. -/
namespace Go.Proofs.YtcehlicmghnghaaGreat.V
open Go Go.RowKit
set_option maxRecDepth 100000
end Go.Proofs.YtcehlicmghnghaaGreat.V
/- Marks of disks and logs. -/
namespace Go.Proofs.YtcehlicmghnghaaGreat.V
open Go Go.RowKit
set_option maxRecDepth 100000
end Go.Proofs.YtcehlicmghnghaaGreat.V
/- Marks of logs. -/
namespace Go.Proofs.YtcehlicmghnghaaGreat.V
open Go Go.RowKit
set_option maxRecDepth 100000
end Go.Proofs.YtcehlicmghnghaaGreat.V
/- The items of a log. -/
namespace Go.Proofs.YtcehlicmghnghaaGreat.V
open Go Go.RowKit
set_option maxRecDepth 100000
structure LgN (g : TLog) : Prop where
  used : g.Used.length ≤ 1048576
  items : ∀ x ∈ g.Used, x.Items.length ≤ 1048576 ∧ ∀ y ∈ x.Items, Sz_TItem y
  tot : (g.Used.map fun x => x.Items.length).sum ≤ 1048576
theorem map_sum_le' {α : Type} {f g : α → Nat} : ∀ (l : List α), (∀ x ∈ l, f x ≤ g x) → (l.map f).sum ≤ (l.map g).sum
  | [], _ => by simp
  | x :: l, h => by
    have h1 := h x List.mem_cons_self
    have h2 := map_sum_le' l fun y hy => h y (List.mem_cons_of_mem _ hy)
    simp only [List.map_cons, List.sum_cons]; omega
theorem LgN.of {g : TLog} {n : Nat} (h : Sz_TLog g) (ht : szN_TLog g ≤ n) (hn : n ≤ 1048576) : LgN g := by
  refine ⟨h.sUsed.1, fun x hx => (h.sUsed.2 x hx).sItems, ?_⟩
  have h1 : (g.Used.map fun x => x.Items.length).sum ≤ (g.Used.map fun y => szN_TSeg y).sum := map_sum_le' _ fun x _ => by unfold szN_TSeg; omega
  unfold szN_TLog at ht
  omega
def itemsOf (g : TLog) : List TItem := g.Used.flatMap fun x => x.Items
theorem itemsTo_len {g : TLog} (h : LgN g) (i : Nat) : ((g.Used.take i).flatMap fun x => x.Items).length ≤ 1048576 := by
  rw [List.length_flatMap]
  have e : ((g.Used.take i).map fun x => x.Items.length).sum ≤ (g.Used.map fun x => x.Items.length).sum := by
    conv => rhs; rw [← List.take_append_drop i g.Used]
    rw [List.map_append, List.sum_append]; omega
  have := h.tot
  omega
theorem itemsOf_sz {g : TLog} (h : LgN g) : (itemsOf g).length ≤ 1048576 ∧ ∀ y ∈ itemsOf g, Sz_TItem y := by
  refine ⟨?_, ?_⟩
  · have := itemsTo_len h g.Used.length
    rw [List.take_length] at this
    exact this
  · intro y hy
    obtain ⟨x, hx, hy⟩ := List.mem_flatMap.1 hy
    exact (h.items x hx).2 y hy
theorem items_loop {g : TLog} (h : LgN g) {step : Int × List TItem → Option ((Int × List TItem) ⊕ List TItem)}
    (h1 : ∀ (i : Nat) (o : List TItem) (hi : i < g.Used.length), step ((i : Int), o) = (app? 96 o g.Used[i].Items).bind fun v => some (.inl (((i + 1 : Nat) : Int), v)))
    (h2 : ∀ o, step ((g.Used.length : Int), o) = some (.inr o)) : iter step (0, []) = some (itemsOf g) := by
  have := iter_range (step := step) (fun i => ((i : Int), (g.Used.take i).flatMap fun x => x.Items)) g.Used.length (r := itemsOf g) ?_ ?_
  · simpa using this
  · intro i hi
    have e : ((g.Used.take (i + 1)).flatMap fun x => x.Items) = ((g.Used.take i).flatMap fun x => x.Items) ++ g.Used[i].Items := by
      rw [List.take_succ_eq_append_getElem hi, List.flatMap_append]; simp
    have hl := itemsTo_len h (i + 1)
    rw [e, List.length_append] at hl
    rw [h1 i _ hi, app?_ok (by omega) (by omega), e]; rfl
  · rw [h2, List.take_length]; rfl
theorem spec_itemsOf {g : TLog} (h : LgN g) : F_spec_ItemsOf g = some (itemsOf g) := by
  unfold F_spec_ItemsOf
  rw [items_loop h]
  · rfl
  · intro i o hi
    have := h.used
    unfold S_spec_ItemsOf_1
    simp only [dlt hi, if_true, at?_nat hi, Option.bind_some, w64_succ (show i < 9223372036854775807 by omega)]
  · intro o; unfold S_spec_ItemsOf_1; simp
theorem impl_itemsOf {g : TLog} (h : LgN g) : F_impl_ItemsOf g = some (itemsOf g) := by
  unfold F_impl_ItemsOf
  rw [items_loop h]
  · rfl
  · intro i o hi
    have := h.used
    unfold S_impl_ItemsOf_1
    simp only [dlt hi, if_true, at?_nat hi, Option.bind_some, w64_succ (show i < 9223372036854775807 by omega)]
  · intro o; unfold S_impl_ItemsOf_1; simp
end Go.Proofs.YtcehlicmghnghaaGreat.V
/- What is needed, item by item. -/
namespace Go.Proofs.YtcehlicmghnghaaGreat.V
open Go Go.RowKit
set_option maxRecDepth 100000
/-- A list that is built one by one. -/
theorem app_loop {β : Type} {n byt : Nat} {f : Nat → β} {step : Int × List β → Option ((Int × List β) ⊕ List β)} (hl : n ≤ 1048576) (hb : byt ≤ 1000000)
    (h1 : ∀ (i : Nat) (o : List β), i < n → step ((i : Int), o) = (app? byt o [f i]).bind fun v => some (.inl (((i + 1 : Nat) : Int), v)))
    (h2 : ∀ o, step ((n : Int), o) = some (.inr o)) : iter step (0, []) = some ((List.range n).map f) := by
  refine iter_range (step := step) (fun i => ((i : Int), (List.range i).map f)) n ?_ (h2 _)
  intro i hi
  have hm : (i + 1) * byt ≤ 1048576 * 1000000 := Nat.mul_le_mul (by omega) hb
  rw [h1 i _ hi, app?_ok (by simp; omega) (by simp; omega), List.range_succ, List.map_append]
  rfl
noncomputable def needAll (l : List TItem) : List Bool := (List.range l.length).map fun i => itemsOk l && needK l i ((l[i]?).getD item0)
theorem needAll_len (l : List TItem) : (needAll l).length = l.length := by simp [needAll]
theorem spec_neededAll {l : List TItem} (h : SzI l) : F_spec_NeededAll l = some (needAll l) := by
  have hl := h.1
  unfold F_spec_NeededAll needAll
  rw [spec_itemsOk h, Option.bind_some]
  cases itemsOk l with
  | true =>
    rw [if_pos rfl, app_loop (n := l.length) (byt := 1) (f := fun i => needK l i ((l[i]?).getD item0)) hl (by omega)]
    · simp
    · intro i o hi
      unfold S_spec_NeededAll_2
      simp only [dlt hi, if_true, spec_need hl hi, Option.bind_some, w64_succ (show i < 9223372036854775807 by omega), List.getElem?_eq_getElem hi, Option.getD_some]
    · intro o
      unfold S_spec_NeededAll_2; simp
  | false =>
    rw [if_neg (by simp), app_loop (n := l.length) (byt := 1) (f := fun _ => false) hl (by omega)]
    · simp
    · intro i o hi
      unfold S_spec_NeededAll_1
      simp only [dlt hi, if_true, w64_succ (show i < 9223372036854775807 by omega)]
    · intro o
      unfold S_spec_NeededAll_1; simp
theorem impl_neededAll {l : List TItem} (h : SzI l) : F_impl_NeededAll l = some (needAll l) := by
  have hl := h.1
  unfold F_impl_NeededAll needAll
  rw [impl_itemsOk h, Option.bind_some]
  cases hok : itemsOk l with
  | true =>
    rw [if_pos rfl, app_loop (n := l.length) (byt := 1) (f := fun i => needK l i ((l[i]?).getD item0)) hl (by omega)]
    · simp
    · intro i o hi
      unfold S_impl_NeededAll_2
      simp only [dlt hi, if_true, impl_need hl hok hi, Option.bind_some, w64_succ (show i < 9223372036854775807 by omega), List.getElem?_eq_getElem hi, Option.getD_some]
    · intro o
      unfold S_impl_NeededAll_2; simp
  | false =>
    rw [if_neg (by simp), app_loop (n := l.length) (byt := 1) (f := fun _ => false) hl (by omega)]
    · simp
    · intro i o hi
      unfold S_impl_NeededAll_1
      simp only [dlt hi, if_true, w64_succ (show i < 9223372036854775807 by omega)]
    · intro o
      unfold S_impl_NeededAll_1; simp
end Go.Proofs.YtcehlicmghnghaaGreat.V
/- The text of a record; frames; sizes. -/
namespace Go.Proofs.YtcehlicmghnghaaGreat.V
open Go Go.RowKit
theorem recOk_rng {x : TRec} (h : recOk x = true) : (0 ≤ x.Valid ∧ x.Valid ≤ 10000) ∧ (0 ≤ x.Uid ∧ x.Uid ≤ 10000) ∧ (0 ≤ x.Next ∧ x.Next ≤ 10000) ∧ (0 ≤ x.Flags ∧ x.Flags ≤ 10000) ∧ 1 ≤ x.Kind ∧ x.Kind ≤ 5 := by
  unfold recOk inR at h
  grind
def short (s : List UInt8) : List UInt8 := vt s.length ++ s
def recT (x : TRec) : List UInt8 := [ofI (IntKind.u8.wrap x.Kind)] ++ vt x.Valid ++ vt x.Uid ++ vt x.Next ++ vt x.Flags ++ short x.User ++ short x.Name ++ short x.Text
def recText (x : TRec) : List UInt8 × Bool := if recOk x then (recT x, true) else ([], false)
theorem short_len {s : List UInt8} (h : s.length ≤ 1048576) : (short s).length ≤ s.length + 11 := by
  unfold short
  have := vt_len (n := s.length) (by omega)
  simp; omega
theorem spec_short {s : List UInt8} (h : s.length ≤ 1048576) : F_spec_l06Short s = some (short s) := by
  unfold F_spec_l06Short
  have := vt_len (n := s.length) (by omega)
  rw [spec_var (by omega) (by omega), Option.bind_some, cat?_ok (by omega)]
  rfl
theorem spec_recText {x : TRec} (h : RecS x) : F_spec_RecText x = some (recText x) := by
  unfold F_spec_RecText recText
  rw [spec_recOk h, Option.bind_some]
  cases hk : recOk x with
  | false => rfl
  | true =>
    obtain ⟨r1, r2, r3, r4, _⟩ := recOk_rng hk
    have l1 := vt_len (n := x.Valid) (by omega)
    have l2 := vt_len (n := x.Uid) (by omega)
    have l3 := vt_len (n := x.Next) (by omega)
    have l4 := vt_len (n := x.Flags) (by omega)
    have l5 := short_len h.user
    have l6 := short_len h.name
    have l7 := short_len h.text
    have b1 := h.user
    have b2 := h.name
    have b3 := h.text
    simp only [if_true]
    rw [spec_var (by omega) (by omega), Option.bind_some, cat?_ok (by simp; omega), Option.bind_some,
      spec_var (by omega) (by omega), Option.bind_some, cat?_ok (by simp; omega), Option.bind_some,
      spec_var (by omega) (by omega), Option.bind_some, cat?_ok (by simp; omega), Option.bind_some,
      spec_var (by omega) (by omega), Option.bind_some, cat?_ok (by simp; omega), Option.bind_some,
      spec_short h.user, Option.bind_some, cat?_ok (by simp; omega), Option.bind_some,
      spec_short h.name, Option.bind_some, cat?_ok (by simp; omega), Option.bind_some,
      spec_short h.text, Option.bind_some, cat?_ok (by simp; omega), Option.bind_some]
    rfl
theorem at?_lit {α : Type} {l : List α} {i : Int} {x : α} (h0 : 0 ≤ i) (h : l[i.toNat]? = some x) : at? l i = some x := by
  unfold at?
  have := (List.getElem?_eq_some_iff.1 h).1
  rw [if_pos ⟨h0, by omega⟩]
  exact h
theorem impl_recText {x : TRec} (h : RecS x) : F_impl_RecText x = some (recText x) := by
  unfold F_impl_RecText recText
  rw [impl_recOk h, Option.bind_some]
  cases hk : recOk x with
  | false => rfl
  | true =>
    obtain ⟨r1, r2, r3, r4, _⟩ := recOk_rng hk
    have l1 := vt_len (n := x.Valid) (by omega)
    have l2 := vt_len (n := x.Uid) (by omega)
    have l3 := vt_len (n := x.Next) (by omega)
    have l4 := vt_len (n := x.Flags) (by omega)
    have b1 := h.user
    have b2 := h.name
    have b3 := h.text
    have l5 := vt_len (n := x.User.length) (by omega)
    have l6 := vt_len (n := x.Name.length) (by omega)
    have l7 := vt_len (n := x.Text.length) (by omega)
    simp only [if_true]
    have s1 : ∀ (i : Nat) (n : Int) (out : List UInt8), [x.Valid, x.Uid, x.Next, x.Flags][i]? = some n → out.length ≤ 1000 → S_impl_RecText_1 x (out, (i : Int)) = some (.inl (out ++ vt n, ((i + 1 : Nat) : Int))) := by
      intro i n out hi ho
      have hl := (List.getElem?_eq_some_iff.1 hi).1
      simp at hl
      have hn : 0 ≤ n ∧ n ≤ 10000 := by
        rcases i with _ | _ | _ | _ | i <;> simp at hi <;> first | omega | skip
      have := vt_len (n := n) (by omega)
      unfold S_impl_RecText_1; dsimp only
      rw [if_pos (by simp; omega), at?_lit (by simp) (by simpa using hi), Option.bind_some, impl_var (by omega) (by omega), Option.bind_some, cat?_ok (by omega), Option.bind_some, w64_succ (by omega)]
    have s2 : ∀ (i : Nat) (s out : List UInt8), [x.User, x.Name, x.Text][i]? = some s → out.length ≤ 10000000 → S_impl_RecText_2 x (out, (i : Int)) = some (.inl (out ++ short s, ((i + 1 : Nat) : Int))) := by
      intro i s out hi ho
      have hl := (List.getElem?_eq_some_iff.1 hi).1
      simp at hl
      have hn : s.length ≤ 1048576 := by
        rcases i with _ | _ | _ | i <;> simp at hi <;> first | (subst hi; omega) | skip
      have := vt_len (n := s.length) (by omega)
      unfold S_impl_RecText_2; dsimp only
      rw [if_pos (by simp; omega), at?_lit (by simp) (by simpa using hi), Option.bind_some, impl_var (by omega) (by omega), Option.bind_some, cat?_ok (by omega), Option.bind_some, cat?_ok (by simp; omega), Option.bind_some, w64_succ (by omega)]
      rfl
    have z : (0 : Int) = ((0 : Nat) : Int) := rfl
    rw [z, iter_next (s1 0 x.Valid _ rfl (by simp)), iter_next (s1 1 x.Uid _ rfl (by simp; omega)), iter_next (s1 2 x.Next _ rfl (by simp; omega)), iter_next (s1 3 x.Flags _ rfl (by simp; omega)),
      iter_done (r := _) (by unfold S_impl_RecText_1; rw [if_neg (by simp)]), Option.bind_some]
    have l8 : (short x.User).length ≤ x.User.length + 11 := short_len h.user
    have l9 : (short x.Name).length ≤ x.Name.length + 11 := short_len h.name
    rw [iter_next (s2 0 x.User _ rfl (by simp; omega)), iter_next (s2 1 x.Name _ rfl (by simp; omega)), iter_next (s2 2 x.Text _ rfl (by simp; omega)),
      iter_done (r := _) (by unfold S_impl_RecText_2; rw [if_neg (by simp)]), Option.bind_some]
    rfl
end Go.Proofs.YtcehlicmghnghaaGreat.V
/- Frames; the size of a record. -/
namespace Go.Proofs.YtcehlicmghnghaaGreat.V
open Go Go.RowKit
def frameOk (f : TFrame) : Bool := inR f.Gen 1 1000000000 && inR f.Seq 1 1000000000 && inR f.Body.length 1 180
theorem spec_frameOk (f : TFrame) : F_spec_FrameOk f = some (frameOk f) := by
  unfold F_spec_FrameOk frameOk
  simp only [spec_in, Option.bind_some]
  cases inR f.Gen 1 1000000000 <;> cases inR f.Seq 1 1000000000 <;> simp
theorem impl_frameOk (f : TFrame) : F_impl_FrameOk f = some (frameOk f) := by
  unfold F_impl_FrameOk frameOk
  simp only [impl_in, Option.bind_some]
  cases inR f.Gen 1 1000000000 <;> cases inR f.Seq 1 1000000000 <;> simp
theorem frameOk_rng {f : TFrame} (h : frameOk f = true) : (1 ≤ f.Gen ∧ f.Gen ≤ 1000000000) ∧ (1 ≤ f.Seq ∧ f.Seq ≤ 1000000000) ∧ 1 ≤ f.Body.length ∧ f.Body.length ≤ 180 := by
  unfold frameOk inR at h
  simp only [Bool.and_eq_true, decide_eq_true_eq] at h
  omega
def frameT (f : TFrame) : List UInt8 := vt f.Gen ++ vt f.Seq ++ vt f.Body.length ++ f.Body
def frameText (f : TFrame) : List UInt8 × Bool := if frameOk f then (frameT f ++ sealL (frameT f), true) else ([], false)
theorem frameT_len {f : TFrame} (h : frameOk f = true) : (frameT f).length ≤ 213 := by
  obtain ⟨h1, h2, h3, h4⟩ := frameOk_rng h
  have l1 := vt_len (n := f.Gen) (by omega)
  have l2 := vt_len (n := f.Seq) (by omega)
  have l3 := vt_len (n := f.Body.length) (by omega)
  unfold frameT
  simp; omega
theorem spec_frameText (f : TFrame) : F_spec_FrameText f = some (frameText f) := by
  unfold F_spec_FrameText frameText
  rw [spec_frameOk, Option.bind_some]
  cases hk : frameOk f with
  | false => rfl
  | true =>
    obtain ⟨h1, h2, h3, h4⟩ := frameOk_rng hk
    have l1 := vt_len (n := f.Gen) (by omega)
    have l2 := vt_len (n := f.Seq) (by omega)
    have l3 := vt_len (n := f.Body.length) (by omega)
    have lt := frameT_len hk
    simp only [if_true]
    rw [spec_var (by omega) (by omega), Option.bind_some, spec_var (by omega) (by omega), Option.bind_some, cat?_ok (by omega), Option.bind_some, spec_var (by omega) (by omega), Option.bind_some, cat?_ok (by simp; omega), Option.bind_some, cat?_ok (by simp; omega), Option.bind_some]
    rw [show vt f.Gen ++ vt f.Seq ++ vt f.Body.length ++ f.Body = frameT f from rfl, spec_sealed (by omega), Option.bind_some]
    unfold sealed
    rw [if_neg (by omega)]
theorem impl_frameText (f : TFrame) : F_impl_FrameText f = some (frameText f) := by
  unfold F_impl_FrameText frameText
  rw [impl_frameOk, Option.bind_some]
  cases hk : frameOk f with
  | false => rfl
  | true =>
    obtain ⟨h1, h2, h3, h4⟩ := frameOk_rng hk
    have l1 := vt_len (n := f.Gen) (by omega)
    have l2 := vt_len (n := f.Seq) (by omega)
    have l3 := vt_len (n := f.Body.length) (by omega)
    have lt := frameT_len hk
    simp only [if_true]
    rw [impl_var (by omega) (by omega), Option.bind_some, impl_var (by omega) (by omega), Option.bind_some, cat?_ok (by omega), Option.bind_some, impl_var (by omega) (by omega), Option.bind_some, cat?_ok (by simp; omega), Option.bind_some, cat?_ok (by simp; omega), Option.bind_some]
    rw [show vt f.Gen ++ vt f.Seq ++ vt f.Body.length ++ f.Body = frameT f from rfl, impl_sealed (by omega), Option.bind_some]
    unfold sealed
    rw [if_neg (by omega)]
def frame0 : TFrame := { Gen := 0, Seq := 0, Body := [] }
def itemFrame (x : TItem) (gen : Int) : TFrame × Bool := if (recText x.Rec).2 && frameOk { Gen := gen, Seq := x.Seq, Body := (recText x.Rec).1 } then ({ Gen := gen, Seq := x.Seq, Body := (recText x.Rec).1 }, true) else (frame0, false)
theorem spec_itemFrame {x : TItem} (h : RecS x.Rec) (gen : Int) : F_spec_ItemFrame x gen = some (itemFrame x gen) := by
  unfold F_spec_ItemFrame itemFrame
  simp only [spec_recText h, Option.bind_some, spec_frameOk]
  cases (recText x.Rec).2 <;> cases frameOk { Gen := gen, Seq := x.Seq, Body := (recText x.Rec).1 } <;> rfl
theorem impl_itemFrame {x : TItem} (h : RecS x.Rec) (gen : Int) : F_impl_ItemFrame x gen = some (itemFrame x gen) := by
  unfold F_impl_ItemFrame itemFrame
  simp only [impl_recText h, Option.bind_some, impl_frameOk]
  cases (recText x.Rec).2 <;> cases frameOk { Gen := gen, Seq := x.Seq, Body := (recText x.Rec).1 } <;> rfl
def frameSize (f : TFrame) : Int := ((frameText f).1.length : Int)
theorem spec_frameSize (f : TFrame) : F_spec_FrameSize f = some (frameSize f) := by unfold F_spec_FrameSize; rw [spec_frameText]; rfl
theorem impl_frameSize (f : TFrame) : F_impl_FrameSize f = some (frameSize f) := by unfold F_impl_FrameSize; rw [impl_frameText]; rfl
end Go.Proofs.YtcehlicmghnghaaGreat.V
/- What lives, segment by segment. -/
namespace Go.Proofs.YtcehlicmghnghaaGreat.V
open Go Go.RowKit
set_option maxRecDepth 100000
def freed (s : TStore) (no : Int) : Bool := s.Freed.any fun y => y == no
theorem spec_freed {s : TStore} (h : s.Freed.length ≤ 1048576) (no : Int) : F_spec_l12Freed s no = some (freed s no) := by
  unfold F_spec_l12Freed
  have := any_loop (l := s.Freed) (k := s.Freed.length) (by omega) (q := fun y => y == no) (step := S_spec_l12Freed_1 s no) (bad := .inl true) (good := .inr ()) (by
    intro i hi _
    unfold S_spec_l12Freed_1
    simp only [dlt hi, if_true, at?_nat hi, Option.bind_some, w64_succ (show i < 9223372036854775807 by omega)]) (by unfold S_spec_l12Freed_1; simp)
  rw [this, List.take_length]
  unfold freed
  cases s.Freed.any fun y => y == no <;> rfl
theorem impl_freed {s : TStore} (h : s.Freed.length ≤ 1048576) (no : Int) : F_impl_isFreed s no = some (freed s no) := by
  have h1 : F_slices_Index_int s.Freed no = some (idxI (s.Freed.findIdx? fun y => no == y)) := by
    unfold F_slices_Index_int
    rw [idx_loop (l := s.Freed) (q := fun y => no == y)]
    · cases s.Freed.findIdx? fun y => no == y <;> rfl
    · intro i hi
      unfold S_slices_Index_int_1
      simp only [dlt hi, if_true, at?_nat hi, Option.bind_some, w64_succ (show i < 9223372036854775807 by omega)]
    · unfold S_slices_Index_int_1; simp
  have e : freed s no = s.Freed.any fun y => no == y := by
    unfold freed
    congr 1
    funext y
    rw [Bool.eq_iff_iff, beq_iff_eq, beq_iff_eq]
    exact eq_comm
  unfold F_impl_isFreed F_slices_Contains_int
  rw [h1, Option.bind_some, idx_any, e]; rfl
def segI (s : TStore) (x : TSeg) : List TItem := if freed s x.No then [] else x.Items
def off (s : TStore) (i : Nat) : Nat := ((s.Log.Used.take i).flatMap (segI s)).length
def kept (s : TStore) : List TItem := s.Log.Used.flatMap (segI s)
structure StN (s : TStore) : Prop where
  used : s.Log.Used.length ≤ 1048576
  freed : s.Freed.length ≤ 1048576
  items : ∀ x ∈ s.Log.Used, x.Items.length ≤ 1048576 ∧ ∀ y ∈ x.Items, Sz_TItem y
  tot : (s.Log.Used.map fun x => x.Items.length).sum ≤ 1048576
theorem sum_take_le (l : List Nat) (i : Nat) : (l.take i).sum ≤ l.sum := by
  conv => rhs; rw [← List.take_append_drop i l]
  rw [List.sum_append]; omega
theorem map_sum_le {α : Type} {f g : α → Nat} : ∀ (l : List α), (∀ x ∈ l, f x ≤ g x) → (l.map f).sum ≤ (l.map g).sum
  | [], _ => by simp
  | x :: l, h => by
    have h1 := h x List.mem_cons_self
    have h2 := map_sum_le l fun y hy => h y (List.mem_cons_of_mem _ hy)
    simp only [List.map_cons, List.sum_cons]; omega
theorem StN.of {s : TStore} {n : Nat} (h : Sz_TStore s) (ht : szN_TStore s ≤ n) (hn : n ≤ 1048576) : StN s := by
  refine ⟨h.sLog.sUsed.1, h.sFreed, fun x hx => (h.sLog.sUsed.2 x hx).sItems, ?_⟩
  have h1 : (s.Log.Used.map fun x => x.Items.length).sum ≤ (s.Log.Used.map fun y => szN_TSeg y).sum := map_sum_le _ fun x _ => by unfold szN_TSeg; omega
  unfold szN_TStore szN_TLog at ht
  omega
theorem segI_len (s : TStore) (x : TSeg) : (segI s x).length ≤ x.Items.length := by unfold segI; split <;> simp
theorem off_le {s : TStore} (h : StN s) (i : Nat) : off s i ≤ 1048576 := by
  unfold off
  rw [List.length_flatMap]
  have h1 : ((s.Log.Used.take i).map fun a => (segI s a).length).sum ≤ ((s.Log.Used.take i).map fun x => x.Items.length).sum := map_sum_le _ fun x _ => segI_len s x
  have h2 := sum_take_le (s.Log.Used.map fun x => x.Items.length) i
  rw [← List.map_take] at h2
  have := h.tot
  omega
theorem off_succ {s : TStore} {i : Nat} (hi : i < s.Log.Used.length) : off s (i + 1) = off s i + (segI s s.Log.Used[i]).length := by
  unfold off
  rw [List.take_succ_eq_append_getElem hi, List.flatMap_append, List.length_append]
  simp
theorem off_end (s : TStore) : off s s.Log.Used.length = (kept s).length := by unfold off kept; rw [List.take_length]
theorem off_mono (s : TStore) {i j : Nat} (h : i ≤ j) : off s i ≤ off s j := by
  unfold off
  obtain ⟨d, rfl⟩ : ∃ d, j = i + d := ⟨j - i, by omega⟩
  rw [List.take_add, List.flatMap_append, List.length_append]; omega
theorem kept_sz {s : TStore} (h : StN s) : SzI (kept s) := by
  refine ⟨by rw [← off_end]; exact off_le h _, ?_⟩
  intro y hy
  unfold kept at hy
  rw [List.mem_flatMap] at hy
  obtain ⟨x, hx, hy⟩ := hy
  unfold segI at hy
  split at hy
  · cases hy
  · exact (h.items x hx).2 y hy
theorem kept_loop {s : TStore} (h : StN s) {step : Int × List TItem → Option ((Int × List TItem) ⊕ List TItem)}
    (h1 : ∀ (i : Nat) (o : List TItem) (hi : i < s.Log.Used.length), step ((i : Int), o) = if freed s s.Log.Used[i].No then some (.inl (((i + 1 : Nat) : Int), o)) else (app? 96 o s.Log.Used[i].Items).bind fun v => some (.inl (((i + 1 : Nat) : Int), v)))
    (h2 : ∀ o, step ((s.Log.Used.length : Int), o) = some (.inr o)) : iter step (0, []) = some (kept s) := by
  have := iter_range (step := step) (fun i => ((i : Int), (s.Log.Used.take i).flatMap (segI s))) s.Log.Used.length (r := kept s) ?_ ?_
  · simpa using this
  · intro i hi
    have ho := off_le h (i + 1)
    rw [off_succ hi] at ho
    unfold off at ho
    rw [h1 i _ hi]
    have e : (s.Log.Used.take (i + 1)).flatMap (segI s) = (s.Log.Used.take i).flatMap (segI s) ++ segI s s.Log.Used[i] := by
      rw [List.take_succ_eq_append_getElem hi, List.flatMap_append]; simp
    rw [e]
    cases hf : freed s s.Log.Used[i].No with
    | true =>
      have e2 : segI s s.Log.Used[i] = [] := by simp [segI, hf]
      rw [e2]; simp
    | false =>
      have e2 : segI s s.Log.Used[i] = s.Log.Used[i].Items := by simp [segI, hf]
      rw [e2] at ho ⊢
      rw [if_neg (by simp), app?_ok (by omega) (by omega)]; rfl
  · rw [h2, List.take_length]; rfl
theorem spec_kept {s : TStore} (h : StN s) : F_spec_l12Kept s = some (kept s) := by
  unfold F_spec_l12Kept
  rw [kept_loop h]
  · rfl
  · intro i o hi
    have := h.used
    unfold S_spec_l12Kept_1
    simp only [dlt hi, if_true, at?_nat hi, Option.bind_some, spec_freed h.freed, w64_succ (show i < 9223372036854775807 by omega)]
  · intro o; unfold S_spec_l12Kept_1; simp
theorem impl_kept {s : TStore} (h : StN s) : F_impl_keptItems s = some (kept s) := by
  unfold F_impl_keptItems
  rw [kept_loop h]
  · rfl
  · intro i o hi
    have := h.used
    unfold S_impl_keptItems_1
    simp only [dlt hi, if_true, at?_nat hi, Option.bind_some, impl_freed h.freed, w64_succ (show i < 9223372036854775807 by omega)]
  · intro o; unfold S_impl_keptItems_1; simp
/-! ### sizes -/
theorem frameSize_rng (f : TFrame) : 0 ≤ frameSize f ∧ frameSize f ≤ 217 := by
  unfold frameSize frameText
  cases h : frameOk f with
  | true =>
    have := frameT_len h
    have := sealL_len (frameT f)
    simp; omega
  | false => simp
noncomputable def sizeI (x : TSeg) (k : Nat) : Int := frameSize (itemFrame ((x.Items[k]?).getD item0) x.Gen).1
noncomputable def liveN (need : List Bool) (o : Nat) (x : TSeg) : Nat → Int
  | 0 => 0
  | k + 1 => liveN need o x k + if (need[o + k]?).getD false then sizeI x k else 0
theorem liveN_rng (need : List Bool) (o : Nat) (x : TSeg) : ∀ k, 0 ≤ liveN need o x k ∧ liveN need o x k ≤ 217 * (k : Int)
  | 0 => by simp [liveN]
  | k + 1 => by
    have h1 := liveN_rng need o x k
    have h2 : 0 ≤ sizeI x k ∧ sizeI x k ≤ 217 := frameSize_rng _
    unfold liveN
    split <;> omega
noncomputable def live (s : TStore) (i : Nat) : Int := match s.Log.Used[i]? with
  | some x => if freed s x.No then 0 else liveN (needAll (kept s)) (off s i) x x.Items.length
  | none => 0
theorem live_rng {s : TStore} (h : StN s) (i : Nat) : 0 ≤ live s i ∧ live s i ≤ 217 * 1048576 := by
  unfold live
  split
  · rename_i x hx
    split
    · omega
    · have h1 := liveN_rng (needAll (kept s)) (off s i) x x.Items.length
      have h2 := (h.items x (List.mem_of_getElem? hx)).1
      omega
  · omega
theorem spec_sizes {s : TStore} (h : StN s) : F_spec_l13Sizes s = some ((List.range s.Log.Used.length).map (live s)) := by
  have hu := h.used
  have hk := kept_sz h
  unfold F_spec_l13Sizes
  rw [spec_kept h, Option.bind_some, spec_neededAll hk, Option.bind_some]
  have key : iter (S_spec_l13Sizes_1 s (needAll (kept s))) (0, 0, []) = some ((List.range s.Log.Used.length).map (live s)) := by
    have := iter_range (step := S_spec_l13Sizes_1 s (needAll (kept s))) (fun i => ((off s i : Int), (i : Int), (List.range i).map (live s))) s.Log.Used.length (r := (List.range s.Log.Used.length).map (live s)) ?_ ?_
    · simpa [off] using this
    · intro i hi
      have hl : live s i = if freed s s.Log.Used[i].No then 0 else liveN (needAll (kept s)) (off s i) s.Log.Used[i] s.Log.Used[i].Items.length := by unfold live; rw [List.getElem?_eq_getElem hi]
      have ho := off_succ hi
      have hx := h.items _ (List.getElem_mem hi)
      have inner : freed s s.Log.Used[i].No = false → iter (S_spec_l13Sizes_2 s (needAll (kept s)) ((off s i : Int), (i : Int), (List.range i).map (live s))) ((off s i : Int), 0, 0) = some ((off s (i + 1) : Int), live s i) := by
        intro hf
        have ho' : off s (i + 1) = off s i + s.Log.Used[i].Items.length := by rw [ho]; unfold segI; rw [hf]; simp
        have hm : off s (i + 1) ≤ (needAll (kept s)).length := by rw [needAll_len, ← off_end]; exact off_mono s (by omega)
        have := iter_range (step := S_spec_l13Sizes_2 s (needAll (kept s)) ((off s i : Int), (i : Int), (List.range i).map (live s))) (fun k => (((off s i + k : Nat) : Int), liveN (needAll (kept s)) (off s i) s.Log.Used[i] k, (k : Int))) s.Log.Used[i].Items.length (r := ((off s (i + 1) : Int), live s i)) ?_ ?_
        · simpa [liveN] using this
        · intro k hk1
          have h0 := off_le h i
          have hb : off s i + k < (needAll (kept s)).length := by omega
          have hr := liveN_rng (needAll (kept s)) (off s i) s.Log.Used[i] k
          have hr2 := frameSize_rng (itemFrame s.Log.Used[i].Items[k] s.Log.Used[i].Gen).1
          unfold S_spec_l13Sizes_2
          simp only [at?_nat hi, Option.bind_some, dlt hk1, if_true, at?_nat hb, at?_nat hk1, spec_itemFrame (RecS.of (hx.2 _ (List.getElem_mem hk1)).sRec), spec_frameSize, w64_succ (show off s i + k < 9223372036854775807 by omega), w64_succ (show k < 9223372036854775807 by omega)]
          rw [liveN, List.getElem?_eq_getElem hb, Option.getD_some]
          cases (needAll (kept s))[off s i + k] with
          | true =>
            simp only [if_true, Option.bind_some]
            rw [w64_id (by omega) (by omega)]
            unfold sizeI
            rw [List.getElem?_eq_getElem hk1]
            rfl
          | false => simp [Nat.add_assoc]
        · unfold S_spec_l13Sizes_2
          simp only [at?_nat hi, Option.bind_some]
          rw [if_neg (by simp), hl, hf, ho']
          rfl
      unfold S_spec_l13Sizes_1
      simp only [dlt hi, if_true, at?_nat hi, Option.bind_some, spec_freed h.freed, w64_succ (show i < 9223372036854775807 by omega)]
      rw [List.range_succ, List.map_append]
      cases hf : freed s s.Log.Used[i].No with
      | true =>
        rw [if_pos rfl, app?_ok (by simp; omega) (by simp; omega), ho]
        simp [hl, hf, segI]
      | false =>
        rw [if_neg (by simp), inner hf, Option.bind_some, app?_ok (by simp; omega) (by simp; omega)]
        rfl
    · unfold S_spec_l13Sizes_1
      simp
  rw [key]; rfl
/-! ### as the program has it -/
theorem impl_off {s : TStore} (h : StN s) {i : Nat} (hi : i ≤ s.Log.Used.length) : iter (S_impl_liveOf_1 s (s.Log.Used.take i)) (0, 0) = some (off s i : Int) := by
  have hu := h.used
  have hlen : (s.Log.Used.take i).length = i := by simp; omega
  have := iter_range (step := S_impl_liveOf_1 s (s.Log.Used.take i)) (fun j => ((off s j : Int), (j : Int))) i (r := (off s i : Int)) ?_ ?_
  · simpa [off] using this
  · intro j hj
    have hj1 : j < (s.Log.Used.take i).length := by omega
    have hj2 : j < s.Log.Used.length := by omega
    have e : (s.Log.Used.take i)[j] = s.Log.Used[j] := by simp
    have h1 := off_le h j
    have h2 := (h.items _ (List.getElem_mem hj2)).1
    unfold S_impl_liveOf_1
    simp only [dlt hj1, if_true, at?_nat hj1, e, Option.bind_some, impl_freed h.freed, w64_succ (show j < 9223372036854775807 by omega), off_succ hj2]
    unfold segI
    cases freed s s.Log.Used[j].No with
    | true => simp
    | false =>
      simp only [Bool.false_eq_true, if_false]
      rw [w64_id (by omega) (by omega)]
      simp
  · unfold S_impl_liveOf_1
    rw [hlen]; simp
def pl (need : List Bool) (o : Nat) (k : Nat) : Bool := (need[o + k]?).getD false
theorem impl_list {s : TStore} (h : StN s) {i : Nat} (hi : i < s.Log.Used.length) (hf : freed s s.Log.Used[i].No = false) : F_impl_liveOf s (i : Int) = some (((List.range s.Log.Used[i].Items.length).filter (pl (needAll (kept s)) (off s i))).map fun (k : Nat) => (k : Int)) := by
  have hu := h.used
  have hk := kept_sz h
  have hx := h.items _ (List.getElem_mem hi)
  have ho' : off s (i + 1) = off s i + s.Log.Used[i].Items.length := by rw [off_succ hi]; unfold segI; rw [hf]; simp
  have hm : off s (i + 1) ≤ (needAll (kept s)).length := by rw [needAll_len, ← off_end]; exact off_mono s (by omega)
  unfold F_impl_liveOf
  rw [sub?_take (Nat.le_of_lt hi), Option.bind_some, impl_off h (Nat.le_of_lt hi), Option.bind_some, impl_kept h, Option.bind_some, impl_neededAll hk, Option.bind_some, at?_nat hi, Option.bind_some]
  have := iter_range (step := S_impl_liveOf_2 (off s i : Int) (needAll (kept s)) s.Log.Used[i]) (fun k => ((k : Int), ((List.range k).filter (pl (needAll (kept s)) (off s i))).map fun (k : Nat) => (k : Int))) s.Log.Used[i].Items.length (r := ((List.range s.Log.Used[i].Items.length).filter (pl (needAll (kept s)) (off s i))).map fun (k : Nat) => (k : Int)) ?_ ?_
  · rw [show (((0 : Nat) : Int), ((List.range 0).filter (pl (needAll (kept s)) (off s i))).map fun (k : Nat) => (k : Int)) = ((0 : Int), ([] : List Int)) from rfl] at this
    rw [this]; rfl
  · intro k hk1
    have h0 := off_le h i
    have hb : off s i + k < (needAll (kept s)).length := by omega
    have hfl := List.length_filter_le (pl (needAll (kept s)) (off s i)) (List.range k)
    rw [List.length_range] at hfl
    unfold S_impl_liveOf_2
    have e1 : w64 ((off s i : Int) + (k : Int)) = ((off s i + k : Nat) : Int) := by rw [w64_id (by omega) (by omega)]; omega
    simp only [dlt hk1, if_true, e1, at?_nat hb, Option.bind_some, w64_succ (show k < 9223372036854775807 by omega), List.range_succ, List.filter_append, List.map_append]
    have e2 : List.filter (pl (needAll (kept s)) (off s i)) [k] = if (needAll (kept s))[off s i + k] then [k] else [] := by
      simp only [List.filter_cons, List.filter_nil, pl, List.getElem?_eq_getElem hb, Option.getD_some]
    rw [e2]
    cases (needAll (kept s))[off s i + k] with
    | true =>
      rw [if_pos rfl, app?_ok (by simp; omega) (by simp; omega)]; rfl
    | false => simp
  · unfold S_impl_liveOf_2
    simp
theorem sum_bd : ∀ (l : List Int), (∀ x ∈ l, 0 ≤ x ∧ x ≤ 217) → 0 ≤ l.sum ∧ l.sum ≤ 217 * (l.length : Int)
  | [], _ => by simp
  | x :: l, h => by
    have h1 := h x List.mem_cons_self
    have h2 := sum_bd l fun y hy => h y (List.mem_cons_of_mem _ hy)
    simp only [List.sum_cons, List.length_cons]; omega
theorem live_sum (need : List Bool) (o : Nat) (x : TSeg) : ∀ n, (((List.range n).filter (pl need o)).map (sizeI x)).sum = liveN need o x n
  | 0 => rfl
  | n + 1 => by
    rw [List.range_succ, List.filter_append, List.map_append, List.sum_append, live_sum need o x n, liveN]
    congr 1
    show _ = if pl need o n = true then sizeI x n else 0
    by_cases hq : pl need o n = true
    · rw [if_pos hq, List.filter_cons, if_pos hq]; simp
    · rw [if_neg hq, List.filter_cons, if_neg hq]; simp
def segAt (s : TStore) (x : Int) : Bool := inR x 0 ((s.Log.Used.length : Int) - 1) && match s.Log.Used[x.toNat]? with
  | some y => !freed s y.No
  | none => false
theorem impl_segAt {s : TStore} (h : StN s) (x : Int) : F_impl_segAt s x = some (segAt s x) := by
  have hu := h.used
  unfold F_impl_segAt segAt
  rw [impl_in, Option.bind_some, w64_id (by omega) (by omega)]
  cases hr : inR x 0 ((s.Log.Used.length : Int) - 1) with
  | false => rfl
  | true =>
    unfold inR at hr
    simp only [Bool.and_eq_true, decide_eq_true_eq] at hr
    obtain ⟨n, rfl⟩ : ∃ n : Nat, x = n := ⟨x.toNat, by omega⟩
    have hn : n < s.Log.Used.length := by omega
    simp [at?_nat hn, impl_freed h.freed, hn]
noncomputable def liveV (s : TStore) (x : Int) : Int := if inR x 0 ((s.Log.Used.length : Int) - 1) then live s x.toNat else 0
theorem impl_liveOf {s : TStore} (h : StN s) (x : Int) : F_impl_LiveOf s x = some (liveV s x) := by
  have hu := h.used
  unfold F_impl_LiveOf liveV
  rw [impl_segAt h, Option.bind_some]
  unfold segAt
  cases hr : inR x 0 ((s.Log.Used.length : Int) - 1) with
  | false => rfl
  | true =>
    unfold inR at hr
    simp only [Bool.and_eq_true, decide_eq_true_eq] at hr
    obtain ⟨n, rfl⟩ : ∃ n : Nat, x = n := ⟨x.toNat, by omega⟩
    have hn : n < s.Log.Used.length := by omega
    have hx := h.items _ (List.getElem_mem hn)
    rw [Int.toNat_natCast, List.getElem?_eq_getElem hn]
    unfold live
    rw [List.getElem?_eq_getElem hn]
    dsimp only
    by_cases hf : freed s s.Log.Used[n].No = true
    · simp [hf]
    · have hf := Bool.eq_false_iff.2 hf
      simp only [hf, Bool.true_and, Bool.not_false, if_true, Bool.false_eq_true, if_false]
      rw [at?_nat hn, Option.bind_some, impl_list h hn hf, Option.bind_some, ← live_sum]
      generalize hL : (List.range s.Log.Used[n].Items.length).filter (pl (needAll (kept s)) (off s n)) = L
      have hLm : ∀ k ∈ L, k < s.Log.Used[n].Items.length := by
        intro k hk
        rw [← hL] at hk
        exact List.mem_range.1 (List.mem_filter.1 hk).1
      have hLl : L.length ≤ s.Log.Used[n].Items.length := by
        rw [← hL]
        have := List.length_filter_le (pl (needAll (kept s)) (off s n)) (List.range s.Log.Used[n].Items.length)
        simpa using this
      have := iter_range (step := S_impl_LiveOf_1 s.Log.Used[n] (L.map fun (k : Nat) => (k : Int))) (fun j => (((L.take j).map (sizeI s.Log.Used[n])).sum, (j : Int))) L.length (r := (L.map (sizeI s.Log.Used[n])).sum) ?_ ?_
      · rw [show ((((L.take 0).map (sizeI s.Log.Used[n])).sum, ((0 : Nat) : Int)) : Int × Int) = (0, 0) from rfl] at this
        rw [this]; rfl
      · intro j hj
        have hj1 : j < (L.map fun (k : Nat) => (k : Int)).length := by simpa using hj
        have hkl := hLm L[j] (List.getElem_mem hj)
        have hb := sum_bd ((L.take j).map (sizeI s.Log.Used[n])) (by
          intro y hy
          obtain ⟨k, _, rfl⟩ := List.mem_map.1 hy
          exact frameSize_rng _)
        rw [List.length_map, List.length_take] at hb
        have hr2 := frameSize_rng (itemFrame s.Log.Used[n].Items[L[j]] s.Log.Used[n].Gen).1
        have e : (L.map fun (k : Nat) => (k : Int))[j] = ((L[j] : Nat) : Int) := by simp
        unfold S_impl_LiveOf_1
        simp only [dlt hj1, if_true, at?_nat hj1, Option.bind_some, e, at?_nat hkl, impl_itemFrame (RecS.of (hx.2 _ (List.getElem_mem hkl)).sRec), impl_frameSize, w64_succ (show j < 9223372036854775807 by omega)]
        rw [w64_id (by omega) (by omega), List.take_succ_eq_append_getElem hj, List.map_append, List.sum_append]
        have e3 : (List.map (sizeI s.Log.Used[n]) [L[j]]).sum = frameSize (itemFrame s.Log.Used[n].Items[L[j]] s.Log.Used[n].Gen).1 := by
          simp [sizeI, List.getElem?_eq_getElem hkl]
        rw [e3]
      · unfold S_impl_LiveOf_1
        rw [List.take_length]
        simp
end Go.Proofs.YtcehlicmghnghaaGreat.V
/- StateNow. -/
namespace Go.Proofs.YtcehlicmghnghaaGreat.V
open Go Go.RowKit
set_option maxRecDepth 100000
theorem stN_lgN {s : TStore} (h : Sz_TStore s) (ht : szN_TStore s ≤ 1048576) : LgN s.Log := by
  refine LgN.of (n := 1048576) h.sLog ?_ (by omega)
  unfold szN_TStore at ht
  omega
def nowOf (s : TStore) : TState := stateOf (itemsOf s.Log)
theorem spec_now {s : TStore} (h : LgN s.Log) : F_spec_StateNow s = some (nowOf s) := by
  have hi := itemsOf_sz h
  unfold F_spec_StateNow nowOf
  rw [spec_itemsOf h, Option.bind_some, spec_stateOf hi, Option.bind_some]
theorem impl_now {s : TStore} (h : LgN s.Log) : F_impl_StateNow s = some (nowOf s) := by
  have hi := itemsOf_sz h
  unfold F_impl_StateNow nowOf
  rw [impl_itemsOf h, Option.bind_some, impl_stateOf hi, Option.bind_some]
end Go.Proofs.YtcehlicmghnghaaGreat.V
/- What is gained by cleaning; which segment gains most. -/
namespace Go.Proofs.YtcehlicmghnghaaGreat.V
open Go Go.RowKit
set_option maxRecDepth 100000
noncomputable def sumTo (s : TStore) : Nat → Int
  | 0 => 0
  | i + 1 => sumTo s i + live s i
theorem sumTo_rng {s : TStore} (h : StN s) : ∀ i : Nat, 0 ≤ sumTo s i ∧ sumTo s i ≤ 227540992 * (i : Int)
  | 0 => by simp [sumTo]
  | i + 1 => by
    have h1 := sumTo_rng h i
    have h2 := live_rng h i
    unfold sumTo
    omega
noncomputable def liveBytes (s : TStore) : Int := sumTo s s.Log.Used.length
theorem spec_liveBytes {s : TStore} (h : StN s) : F_spec_LiveBytes s = some (liveBytes s) := by
  have hu := h.used
  unfold F_spec_LiveBytes
  rw [spec_sizes h, Option.bind_some]
  have := iter_range (step := S_spec_LiveBytes_1 ((List.range s.Log.Used.length).map (live s))) (fun i => (sumTo s i, (i : Int))) s.Log.Used.length (r := liveBytes s) ?_ ?_
  · rw [show ((sumTo s 0, ((0 : Nat) : Int)) : Int × Int) = (0, 0) from rfl] at this
    rw [this]; rfl
  · intro i hi
    have hm : i < ((List.range s.Log.Used.length).map (live s)).length := by simpa using hi
    have em : ((List.range s.Log.Used.length).map (live s))[i] = live s i := by simp
    have h1 := sumTo_rng h i
    have h2 := live_rng h i
    unfold S_spec_LiveBytes_1
    simp only [dlt hm, if_true, at?_nat hm, em, Option.bind_some, w64_succ (show i < 9223372036854775807 by omega)]
    rw [w64_id (by omega) (by omega)]; rfl
  · unfold S_spec_LiveBytes_1
    simp [liveBytes]
theorem impl_liveBytes {s : TStore} (h : StN s) : F_impl_LiveBytes s = some (liveBytes s) := by
  have hu := h.used
  unfold F_impl_LiveBytes
  have := iter_range (step := S_impl_LiveBytes_1 s) (fun i => (sumTo s i, (i : Int))) s.Log.Used.length (r := liveBytes s) ?_ ?_
  · rw [show ((sumTo s 0, ((0 : Nat) : Int)) : Int × Int) = (0, 0) from rfl] at this
    rw [this]; rfl
  · intro i hi
    have h1 := sumTo_rng h i
    have h2 := live_rng h i
    have hv : liveV s (i : Int) = live s i := by
      unfold liveV
      rw [if_pos (by unfold inR; simp; omega)]; rfl
    unfold S_impl_LiveBytes_1
    simp only [dlt hi, if_true, impl_liveOf h, hv, Option.bind_some, w64_succ (show i < 9223372036854775807 by omega)]
    rw [w64_id (by omega) (by omega)]; rfl
  · unfold S_impl_LiveBytes_1
    simp [liveBytes]
end Go.Proofs.YtcehlicmghnghaaGreat.V
/- RecSize. -/
namespace Go.Proofs.YtcehlicmghnghaaGreat.V
open Go Go.RowKit
set_option maxRecDepth 100000
def recSize (x : TRec) : Int := if (itemFrame { Seq := 1000000000, Rec := x } 1000000000).2 then frameSize (itemFrame { Seq := 1000000000, Rec := x } 1000000000).1 else 0
theorem spec_recSize {x : TRec} (h : RecS x) : F_spec_RecSize x = some (recSize x) := by
  unfold F_spec_RecSize recSize
  rw [spec_itemFrame (x := { Seq := 1000000000, Rec := x }) h, Option.bind_some]
  simp only [spec_frameSize, Option.bind_some]
  cases (itemFrame { Seq := 1000000000, Rec := x } 1000000000).2 <;> rfl
theorem impl_recSize {x : TRec} (h : RecS x) : F_impl_RecSize x = some (recSize x) := by
  unfold F_impl_RecSize recSize
  rw [impl_itemFrame (x := { Seq := 1000000000, Rec := x }) h, Option.bind_some]
  simp only [impl_frameSize, Option.bind_some]
  cases (itemFrame { Seq := 1000000000, Rec := x } 1000000000).2 <;> rfl
/-! ### the law -/
end Go.Proofs.YtcehlicmghnghaaGreat.V
/- Roomy. -/
namespace Go.Proofs.YtcehlicmghnghaaGreat.V
open Go Go.RowKit
set_option maxRecDepth 100000
theorem pure_FnExactRoomy {x : TStore} {y : TRec} (w : wf_TStore x) (w' : wf_TRec y) : F_laws_FnExactRoomy x y = some true := by
  obtain ⟨r, h1, h2, h3, h4⟩ := p_laws_szStore w (n := 1048576) (by omega) (by omega)
  unfold F_laws_FnExactRoomy
  rw [h1, Option.bind_some]
  by_cases hr : r < 0
  · rw [if_pos (by simpa using hr)]
  obtain ⟨hs, ht⟩ := h4 (by omega)
  rw [if_neg (by simpa using hr)]
  obtain ⟨q, g1, g2, g3, g4⟩ := p_laws_szRec w' (n := r) (by omega) (by omega)
  rw [g1, Option.bind_some]
  by_cases hq : q < 0
  · rw [if_pos (by simpa using hq)]
  rw [if_neg (by simpa using hq)]
  have hrec : RecS y := RecS.of (g4 (by omega)).1
  have hg := stN_lgN hs (by omega)
  have hn : StN x := StN.of (n := 1048576) hs (by omega) (by omega)
  have e1 : F_spec_Roomy x y = some (decide ((w64 ((w64 (liveBytes x + recSize y)) + (w64 (40 * ((nowOf x).Boxes.length : Int))))) ≤ (w64 (80 * (w64 (x.Log.Segs - 5)))))) := by
    unfold F_spec_Roomy
    rw [spec_now hg, Option.bind_some, spec_liveBytes hn, Option.bind_some, spec_recSize hrec, Option.bind_some]
  have e2 : F_impl_Roomy x y = some (decide ((w64 ((w64 (liveBytes x + recSize y)) + (w64 (40 * ((nowOf x).Boxes.length : Int))))) ≤ (w64 (80 * (w64 (x.Log.Segs - 5)))))) := by
    unfold F_impl_Roomy
    rw [impl_liveBytes hn, Option.bind_some, impl_recSize hrec, Option.bind_some, impl_now hg, Option.bind_some]
  simp [p_laws_toStore hs, p_laws_eqStore hs, e1, e2, F_laws_toRec]
end Go.Proofs.YtcehlicmghnghaaGreat.V
