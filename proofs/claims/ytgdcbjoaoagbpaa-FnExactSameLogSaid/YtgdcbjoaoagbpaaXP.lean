/- The pure part. -/
import Derived.Test.YtgdcbjoaoagbpaaXT
/- Loops that count, numbers, words: plain lists and numbers. -/
namespace Go.Proofs.Ytgdcbjoaoagbpaa.V
open Go Go.RowKit

/-! ### loops that count -/
theorem iter_range {σ ρ : Type} {step : σ → Option (σ ⊕ ρ)} (st : Nat → σ) (n : Nat) {r : ρ} (hs : ∀ i, i < n → step (st i) = some (.inl (st (i + 1)))) (he : step (st n) = some (.inr r)) : iter step (st 0) = some r := by
  have key : ∀ d i, i + d = n → iter step (st i) = some r := by
    intro d
    induction d with
    | zero => intro i hi; have : i = n := by omega
              subst this; exact iter_done he
    | succ d ih => intro i hi; rw [iter_next (hs i (by omega))]; exact ih (i + 1) (by omega)
  exact key n 0 (by omega)

/-! ### numbers -/
theorem w64_id {n : Int} (h : -9223372036854775808 ≤ n) (h' : n < 9223372036854775808) : w64 n = n := by
  unfold w64 IntKind.wrap
  simp [IntKind.bits, IntKind.signed]
  omega
theorem w64_succ {n : Nat} (h : n < 9223372036854775807) : w64 ((n : Int) + 1) = ((n + 1 : Nat) : Int) := by rw [w64_id (by omega) (by omega)]; omega
theorem at?_nat {α : Type} {l : List α} {i : Nat} (h : i < l.length) : at? l (i : Int) = some l[i] := by
  unfold at?
  rw [if_pos ⟨by omega, by omega⟩]
  simp [h]


/-! ### numbers as words -/




end Go.Proofs.Ytgdcbjoaoagbpaa.V
/- Sums, words, what a record must be. -/
namespace Go.Proofs.Ytgdcbjoaoagbpaa.V
open Go Go.RowKit

/-! ### sums -/

/-! ### words -/
end Go.Proofs.Ytgdcbjoaoagbpaa.V
/- What a record must be, and its text; frames. -/
namespace Go.Proofs.Ytgdcbjoaoagbpaa.V
open Go Go.RowKit



end Go.Proofs.Ytgdcbjoaoagbpaa.V
/- What the statements' own functions need: loops over lists. -/
namespace Go.Proofs.Ytgdcbjoaoagbpaa.V
open Go Go.RowKit

theorem iter_ex {σ ρ : Type} {step : σ → Option (σ ⊕ ρ)} (n : Nat) (I : Nat → σ → Prop) (Q : ρ → Prop) (h : ∀ i s, i < n → I i s → (∃ s', step s = some (.inl s') ∧ I (i + 1) s') ∨ ∃ r, step s = some (.inr r) ∧ Q r) (he : ∀ s, I n s → ∃ r, step s = some (.inr r) ∧ Q r) : ∀ s, I 0 s → ∃ r, iter step s = some r ∧ Q r := by
  have key : ∀ d i s, i + d = n → I i s → ∃ r, iter step s = some r ∧ Q r := by
    intro d
    induction d with
    | zero =>
      intro i s hi hs
      have : i = n := by omega
      subst this
      obtain ⟨r, h1, h2⟩ := he s hs
      exact ⟨r, iter_done h1, h2⟩
    | succ d ih =>
      intro i s hi hs
      rcases h i s (by omega) hs with ⟨s', h1, h2⟩ | ⟨r, h1, h2⟩
      · obtain ⟨r, h3, h4⟩ := ih (i + 1) s' (by omega) h2
        exact ⟨r, by rw [iter_next h1]; exact h3, h4⟩
      · exact ⟨r, iter_done h1, h2⟩
  exact fun s hs => key n 0 s (by omega) hs

theorem set'_nat {α : Type} {l : List α} {i : Nat} {x : α} : set' l (i : Int) x = l.set i x := by simp [set']
theorem dlt {i : Nat} {n : Nat} (h : i < n) : decide ((i : Int) < (n : Int)) = true := by simpa using h

/-- Copied one by one. -/
theorem to_loop {α : Type} {l : List α} {z : α} {step : Int × List α → Option ((Int × List α) ⊕ List α)} (hl : l.length < 9223372036854775807)
    (h1 : ∀ (i : Nat) (h : i < l.length) (m : List α), m.length = l.length → step ((i : Int), m) = some (.inl (((i + 1 : Nat) : Int), m.set i l[i])))
    (h2 : ∀ m : List α, step ((l.length : Int), m) = some (.inr m)) : iter step (0, List.replicate l.length z) = some l := by
  have := iter_range (step := step) (fun i => ((i : Int), l.take i ++ List.replicate (l.length - i) z)) l.length (r := l) ?_ ?_
  · simpa using this
  · intro i hi
    rw [h1 i hi _ (by simp; omega)]
    have e : (l.take i ++ List.replicate (l.length - i) z).set i l[i] = l.take (i + 1) ++ List.replicate (l.length - (i + 1)) z := by
      have e1 : l.length - i = (l.length - (i + 1)) + 1 := by omega
      have e2 : (l.take i).length = i := by simp; omega
      rw [e1, List.replicate_succ, List.set_append_right _ _ (by omega), e2, Nat.sub_self, List.set_cons_zero, List.take_succ_eq_append_getElem hi, List.append_assoc]
      rfl
    rw [e]
  · simp [h2]
theorem mk?_ok {α : Type} {byt : Nat} {z : α} {n : Nat} (h : n ≤ 1099511627776) (h2 : n * byt ≤ 140737488355328) : mk? byt z (n : Int) = some (List.replicate n z) := by
  unfold mk?
  have h3 : ((n * byt : Nat) : Int) ≤ 140737488355328 := by omega
  rw [if_pos ⟨by omega, by rw [Int.mul_comm]; rw [Int.natCast_mul] at h3; exact h3, by omega⟩]; simp
/-- A scan that ends where something is found. -/
theorem any_loop {α ρ : Type} {l : List α} {k : Nat} (hk : k ≤ l.length) {q : α → Bool} {step : Int → Option (Int ⊕ ρ)} {bad good : ρ} (h1 : ∀ (i : Nat) (h : i < l.length), i < k → step (i : Int) = if q l[i] then some (.inr bad) else some (.inl ((i + 1 : Nat) : Int))) (h2 : step (k : Int) = some (.inr good)) : iter step 0 = some (if (l.take k).any q then bad else good) := by
  have key : ∀ d i, i + d = k → iter step (i : Int) = some (if ((l.take k).drop i).any q then bad else good) := by
    intro d
    induction d with
    | zero => intro i hi; have : i = k := by omega
              subst this; rw [iter_done h2, List.drop_eq_nil_of_le (by simp; omega)]; simp
    | succ d ih =>
      intro i hi
      have hd : (l.take k).drop i = l[i] :: (l.take k).drop (i + 1) := by
        rw [List.drop_eq_getElem_cons (by simp; omega)]; simp
      rw [hd, List.any_cons]
      have hs := h1 i (by omega) (by omega)
      cases hq : q l[i] with
      | true => rw [hq] at hs; rw [iter_done hs]; simp
      | false => rw [hq] at hs; rw [iter_next hs, ih (i + 1) (by omega)]; simp
  simpa using key k 0 (by omega)
end Go.Proofs.Ytgdcbjoaoagbpaa.V
/- The functions that the statements are made of. -/
namespace Go.Proofs.Ytgdcbjoaoagbpaa.V
open Go Go.RowKit
set_option maxRecDepth 100000
def szN_TWrite (x : TWrite) : Nat := x.Text.length
structure Sz_TWrite (x : TWrite) : Prop where
  sText : x.Text.length ≤ 1048576
def szN_TDisk (x : TDisk) : Nat := x.Sectors.length + (x.Sectors.map fun y => y.length).sum + x.Cache.length + (x.Cache.map fun y => szN_TWrite y).sum
structure Sz_TDisk (x : TDisk) : Prop where
  sSectors : x.Sectors.length ≤ 1048576 ∧ ∀ y ∈ x.Sectors, y.length ≤ 1048576
  sCache : x.Cache.length ≤ 1048576 ∧ ∀ y ∈ x.Cache, Sz_TWrite y
def szN_TRec (x : TRec) : Nat := x.User.length + x.Name.length + x.Text.length
structure Sz_TRec (x : TRec) : Prop where
  sUser : x.User.length ≤ 1048576
  sName : x.Name.length ≤ 1048576
  sText : x.Text.length ≤ 1048576
def szN_TItem (x : TItem) : Nat := szN_TRec x.Rec
structure Sz_TItem (x : TItem) : Prop where
  sRec : Sz_TRec x.Rec
def szN_TSeg (x : TSeg) : Nat := x.Items.length + (x.Items.map fun y => szN_TItem y).sum
structure Sz_TSeg (x : TSeg) : Prop where
  sItems : x.Items.length ≤ 1048576 ∧ ∀ y ∈ x.Items, Sz_TItem y
def szN_TLog (x : TLog) : Nat := szN_TDisk x.Disk + x.Used.length + (x.Used.map fun y => szN_TSeg y).sum
structure Sz_TLog (x : TLog) : Prop where
  sDisk : Sz_TDisk x.Disk
  sUsed : x.Used.length ≤ 1048576 ∧ ∀ y ∈ x.Used, Sz_TSeg y

/-! ### the words that mark -/
theorem p_laws_szStringS {x : List (List UInt8)} {n : Int} (w : (x.length ≤ maxLen ∧ ∀ a ∈ x, a.length ≤ maxLen)) (h0 : 0 ≤ n) (h1 : n ≤ 1048576) : ∃ r, F_laws_szStringS x n = some r ∧ r ≤ n ∧ -1 ≤ r ∧ (0 ≤ r → (x.length ≤ 1048576 ∧ ∀ y ∈ x, y.length ≤ 1048576) ∧ r + ((x.length + (x.map fun y => y.length).sum : Nat) : Int) ≤ n) := by
  unfold F_laws_szStringS
  have hw : (x.length : Int) ≤ 9223372036854775807 := by have := w.1; unfold maxLen at this; omega
  have e0 : w64 (n - (x.length : Int)) = n - x.length := w64_id (by omega) (by omega)
  rw [e0]
  by_cases c0 : n - (x.length : Int) < 0
  · rw [if_pos (by simpa using c0)]; exact ⟨-1, rfl, by omega, by omega, fun h => absurd h (by omega)⟩
  rw [if_neg (by simpa using c0)]
  have hl : x.length < 9223372036854775807 := by omega
  have key := iter_ex (step := S_laws_szStringS_1 x) x.length (fun i st => ∃ m : Int, st = (m, (i : Int)) ∧ 0 ≤ m ∧ m + ((((x.take i).map fun y => y.length).sum : Nat) : Int) ≤ n - x.length ∧ ∀ (j : Nat) y, j < i → x[j]? = some y → y.length ≤ 1048576) (fun o : Int ⊕ Int => match o with | .inl r => r = -1 | .inr r => r + x.length + (((x.map fun y => y.length).sum : Nat) : Int) ≤ n ∧ 0 ≤ r ∧ ∀ y ∈ x, y.length ≤ 1048576) ?_ ?_ (n - x.length, 0) ⟨_, rfl, by omega, by simp, by simp⟩
  · obtain ⟨r, h2, h3⟩ := key
    rw [h2]
    cases r with
    | inl r => simp only at h3; subst h3; exact ⟨-1, rfl, by omega, by omega, fun h => absurd h (by omega)⟩
    | inr r => exact ⟨r, rfl, by have := h3.1; omega, by have := h3.2.1; omega, fun _ => ⟨⟨by have := h3.1; omega, h3.2.2⟩, by have := h3.1; omega⟩⟩
  · rintro i _ hi ⟨m, rfl, hm0, hm1, hj⟩
    have hsum : ((x.take (i + 1)).map fun y => y.length).sum = ((x.take i).map fun y => y.length).sum + ((x[i]).length) := by rw [List.take_succ_eq_append_getElem hi, List.map_append, List.sum_append]; simp
    unfold S_laws_szStringS_1
    simp only [dlt hi, if_true, at?_nat hi, Option.bind_some, w64_succ (show i < 9223372036854775807 by omega)]
    have hs : (x[i].length : Int) ≤ 9223372036854775807 := by have := w.2 _ (List.getElem_mem hi); unfold maxLen at this; omega
    have e1 : w64 (m - (x[i].length : Int)) = m - x[i].length := w64_id (by omega) (by omega)
    simp only [e1]; generalize hr : m - (x[i].length : Int) = r
    have h3 : r ≤ m := by omega
    have h5 : 0 ≤ r → x[i].length ≤ 1048576 ∧ r + ((x[i].length : Nat) : Int) ≤ m := by omega
    by_cases c1 : r < 0
    · exact .inr ⟨.inl (-1), by simp [c1], rfl⟩
    have h6 := h5 (by omega)
    refine .inl ⟨(r, ((i + 1 : Nat) : Int)), by simp [c1], r, rfl, by omega, by rw [hsum]; have := h6.2; omega, ?_⟩
    intro j y hj1 hj2
    by_cases e : j = i
    · subst e; rw [List.getElem?_eq_getElem hi] at hj2; cases hj2; exact h6.1
    · exact hj j y (by omega) hj2
  · rintro _ ⟨m, rfl, hm0, hm1, hj⟩
    rw [List.take_length] at hm1
    refine ⟨.inr m, by unfold S_laws_szStringS_1; simp, by show m + _ + _ ≤ n; omega, hm0, fun y hy => ?_⟩
    obtain ⟨j, hj2⟩ := List.getElem?_of_mem hy
    exact hj j y (List.getElem?_eq_some_iff.1 hj2).1 hj2
theorem p_laws_szWrite {x : TWrite} {n : Int} (w : wf_TWrite x) (h0 : 0 ≤ n) (h1 : n ≤ 1048576) : ∃ r, F_laws_szWrite x n = some r ∧ r ≤ n ∧ -1 ≤ r ∧ (0 ≤ r → (Sz_TWrite x) ∧ r + ((szN_TWrite x : Nat) : Int) ≤ n) := by
  unfold F_laws_szWrite
  have hw1 : (x.Text.length : Int) ≤ 9223372036854775807 := by have := w.2.1; unfold maxLen at this; omega
  have e1 : w64 (n - (x.Text.length : Int)) = n - x.Text.length := w64_id (by omega) (by omega)
  simp only [e1]
  generalize hr1 : n - (x.Text.length : Int) = r1
  by_cases c1 : r1 < 0
  · rw [if_pos (by simpa using c1)]; exact ⟨-1, rfl, by omega, by omega, fun h => absurd h (by omega)⟩
  rw [if_neg (by simpa using c1)]
  exact ⟨_, rfl, by omega, by omega, fun _ => ⟨⟨by omega⟩, by unfold szN_TWrite; omega⟩⟩
theorem p_laws_szWriteS {x : List TWrite} {n : Int} (w : (x.length ≤ maxLen ∧ ∀ a ∈ x, wf_TWrite a)) (h0 : 0 ≤ n) (h1 : n ≤ 1048576) : ∃ r, F_laws_szWriteS x n = some r ∧ r ≤ n ∧ -1 ≤ r ∧ (0 ≤ r → (x.length ≤ 1048576 ∧ ∀ y ∈ x, Sz_TWrite y) ∧ r + ((x.length + (x.map fun y => szN_TWrite y).sum : Nat) : Int) ≤ n) := by
  unfold F_laws_szWriteS
  have hw : (x.length : Int) ≤ 9223372036854775807 := by have := w.1; unfold maxLen at this; omega
  have e0 : w64 (n - (x.length : Int)) = n - x.length := w64_id (by omega) (by omega)
  rw [e0]
  by_cases c0 : n - (x.length : Int) < 0
  · rw [if_pos (by simpa using c0)]; exact ⟨-1, rfl, by omega, by omega, fun h => absurd h (by omega)⟩
  rw [if_neg (by simpa using c0)]
  have hl : x.length < 9223372036854775807 := by omega
  have key := iter_ex (step := S_laws_szWriteS_1 x) x.length (fun i st => ∃ m : Int, st = (m, (i : Int)) ∧ 0 ≤ m ∧ m + ((((x.take i).map fun y => szN_TWrite y).sum : Nat) : Int) ≤ n - x.length ∧ ∀ (j : Nat) y, j < i → x[j]? = some y → Sz_TWrite y) (fun o : Int ⊕ Int => match o with | .inl r => r = -1 | .inr r => r + x.length + (((x.map fun y => szN_TWrite y).sum : Nat) : Int) ≤ n ∧ 0 ≤ r ∧ ∀ y ∈ x, Sz_TWrite y) ?_ ?_ (n - x.length, 0) ⟨_, rfl, by omega, by simp, by simp⟩
  · obtain ⟨r, h2, h3⟩ := key
    rw [h2]
    cases r with
    | inl r => simp only at h3; subst h3; exact ⟨-1, rfl, by omega, by omega, fun h => absurd h (by omega)⟩
    | inr r => exact ⟨r, rfl, by have := h3.1; omega, by have := h3.2.1; omega, fun _ => ⟨⟨by have := h3.1; omega, h3.2.2⟩, by have := h3.1; omega⟩⟩
  · rintro i _ hi ⟨m, rfl, hm0, hm1, hj⟩
    have hsum : ((x.take (i + 1)).map fun y => szN_TWrite y).sum = ((x.take i).map fun y => szN_TWrite y).sum + (szN_TWrite (x[i])) := by rw [List.take_succ_eq_append_getElem hi, List.map_append, List.sum_append]; simp
    unfold S_laws_szWriteS_1
    simp only [dlt hi, if_true, at?_nat hi, Option.bind_some, w64_succ (show i < 9223372036854775807 by omega)]
    obtain ⟨r, h2, h3, h4, h5⟩ := p_laws_szWrite (x := x[i]) (n := m) (w.2 _ (List.getElem_mem hi)) hm0 (by omega)
    simp only [h2, Option.bind_some]
    by_cases c1 : r < 0
    · exact .inr ⟨.inl (-1), by simp [c1], rfl⟩
    have h6 := h5 (by omega)
    refine .inl ⟨(r, ((i + 1 : Nat) : Int)), by simp [c1], r, rfl, by omega, by rw [hsum]; have := h6.2; omega, ?_⟩
    intro j y hj1 hj2
    by_cases e : j = i
    · subst e; rw [List.getElem?_eq_getElem hi] at hj2; cases hj2; exact h6.1
    · exact hj j y (by omega) hj2
  · rintro _ ⟨m, rfl, hm0, hm1, hj⟩
    rw [List.take_length] at hm1
    refine ⟨.inr m, by unfold S_laws_szWriteS_1; simp, by show m + _ + _ ≤ n; omega, hm0, fun y hy => ?_⟩
    obtain ⟨j, hj2⟩ := List.getElem?_of_mem hy
    exact hj j y (List.getElem?_eq_some_iff.1 hj2).1 hj2
theorem p_laws_szDisk {x : TDisk} {n : Int} (w : wf_TDisk x) (h0 : 0 ≤ n) (h1 : n ≤ 1048576) : ∃ r, F_laws_szDisk x n = some r ∧ r ≤ n ∧ -1 ≤ r ∧ (0 ≤ r → (Sz_TDisk x) ∧ r + ((szN_TDisk x : Nat) : Int) ≤ n) := by
  unfold F_laws_szDisk
  obtain ⟨r1, f1, g1, b1, q1⟩ := p_laws_szStringS (x := x.Sectors) (n := n) w.1 (by omega) (by omega)
  simp only [f1, Option.bind_some]
  by_cases c1 : r1 < 0
  · rw [if_pos (by simpa using c1)]; exact ⟨-1, rfl, by omega, by omega, fun h => absurd h (by omega)⟩
  rw [if_neg (by simpa using c1)]
  have a1 := (q1 (by omega)).2
  obtain ⟨r2, f2, g2, b2, q2⟩ := p_laws_szWriteS (x := x.Cache) (n := r1) w.2.1 (by omega) (by omega)
  simp only [f2, Option.bind_some]
  by_cases c2 : r2 < 0
  · rw [if_pos (by simpa using c2)]; exact ⟨-1, rfl, by omega, by omega, fun h => absurd h (by omega)⟩
  rw [if_neg (by simpa using c2)]
  have a2 := (q2 (by omega)).2
  exact ⟨_, rfl, by omega, by omega, fun _ => ⟨⟨(q1 (by omega)).1, (q2 (by omega)).1⟩, by unfold szN_TDisk; omega⟩⟩
theorem p_laws_szRec {x : TRec} {n : Int} (w : wf_TRec x) (h0 : 0 ≤ n) (h1 : n ≤ 1048576) : ∃ r, F_laws_szRec x n = some r ∧ r ≤ n ∧ -1 ≤ r ∧ (0 ≤ r → (Sz_TRec x) ∧ r + ((szN_TRec x : Nat) : Int) ≤ n) := by
  unfold F_laws_szRec
  have hw1 : (x.User.length : Int) ≤ 9223372036854775807 := by have := w.2.2.2.2.2.1; unfold maxLen at this; omega
  have e1 : w64 (n - (x.User.length : Int)) = n - x.User.length := w64_id (by omega) (by omega)
  simp only [e1]
  generalize hr1 : n - (x.User.length : Int) = r1
  by_cases c1 : r1 < 0
  · rw [if_pos (by simpa using c1)]; exact ⟨-1, rfl, by omega, by omega, fun h => absurd h (by omega)⟩
  rw [if_neg (by simpa using c1)]
  have hw2 : (x.Name.length : Int) ≤ 9223372036854775807 := by have := w.2.2.2.2.2.2.1; unfold maxLen at this; omega
  have e2 : w64 (r1 - (x.Name.length : Int)) = r1 - x.Name.length := w64_id (by omega) (by omega)
  simp only [e2]
  generalize hr2 : r1 - (x.Name.length : Int) = r2
  by_cases c2 : r2 < 0
  · rw [if_pos (by simpa using c2)]; exact ⟨-1, rfl, by omega, by omega, fun h => absurd h (by omega)⟩
  rw [if_neg (by simpa using c2)]
  have hw3 : (x.Text.length : Int) ≤ 9223372036854775807 := by have := w.2.2.2.2.2.2.2.1; unfold maxLen at this; omega
  have e3 : w64 (r2 - (x.Text.length : Int)) = r2 - x.Text.length := w64_id (by omega) (by omega)
  simp only [e3]
  generalize hr3 : r2 - (x.Text.length : Int) = r3
  by_cases c3 : r3 < 0
  · rw [if_pos (by simpa using c3)]; exact ⟨-1, rfl, by omega, by omega, fun h => absurd h (by omega)⟩
  rw [if_neg (by simpa using c3)]
  exact ⟨_, rfl, by omega, by omega, fun _ => ⟨⟨by omega, by omega, by omega⟩, by unfold szN_TRec; omega⟩⟩
theorem p_laws_szItem {x : TItem} {n : Int} (w : wf_TItem x) (h0 : 0 ≤ n) (h1 : n ≤ 1048576) : ∃ r, F_laws_szItem x n = some r ∧ r ≤ n ∧ -1 ≤ r ∧ (0 ≤ r → (Sz_TItem x) ∧ r + ((szN_TItem x : Nat) : Int) ≤ n) := by
  unfold F_laws_szItem
  obtain ⟨r1, f1, g1, b1, q1⟩ := p_laws_szRec (x := x.Rec) (n := n) w.2.1 (by omega) (by omega)
  simp only [f1, Option.bind_some]
  by_cases c1 : r1 < 0
  · rw [if_pos (by simpa using c1)]; exact ⟨-1, rfl, by omega, by omega, fun h => absurd h (by omega)⟩
  rw [if_neg (by simpa using c1)]
  have a1 := (q1 (by omega)).2
  exact ⟨_, rfl, by omega, by omega, fun _ => ⟨⟨(q1 (by omega)).1⟩, by unfold szN_TItem; omega⟩⟩
theorem p_laws_szItemS {x : List TItem} {n : Int} (w : (x.length ≤ maxLen ∧ ∀ a ∈ x, wf_TItem a)) (h0 : 0 ≤ n) (h1 : n ≤ 1048576) : ∃ r, F_laws_szItemS x n = some r ∧ r ≤ n ∧ -1 ≤ r ∧ (0 ≤ r → (x.length ≤ 1048576 ∧ ∀ y ∈ x, Sz_TItem y) ∧ r + ((x.length + (x.map fun y => szN_TItem y).sum : Nat) : Int) ≤ n) := by
  unfold F_laws_szItemS
  have hw : (x.length : Int) ≤ 9223372036854775807 := by have := w.1; unfold maxLen at this; omega
  have e0 : w64 (n - (x.length : Int)) = n - x.length := w64_id (by omega) (by omega)
  rw [e0]
  by_cases c0 : n - (x.length : Int) < 0
  · rw [if_pos (by simpa using c0)]; exact ⟨-1, rfl, by omega, by omega, fun h => absurd h (by omega)⟩
  rw [if_neg (by simpa using c0)]
  have hl : x.length < 9223372036854775807 := by omega
  have key := iter_ex (step := S_laws_szItemS_1 x) x.length (fun i st => ∃ m : Int, st = (m, (i : Int)) ∧ 0 ≤ m ∧ m + ((((x.take i).map fun y => szN_TItem y).sum : Nat) : Int) ≤ n - x.length ∧ ∀ (j : Nat) y, j < i → x[j]? = some y → Sz_TItem y) (fun o : Int ⊕ Int => match o with | .inl r => r = -1 | .inr r => r + x.length + (((x.map fun y => szN_TItem y).sum : Nat) : Int) ≤ n ∧ 0 ≤ r ∧ ∀ y ∈ x, Sz_TItem y) ?_ ?_ (n - x.length, 0) ⟨_, rfl, by omega, by simp, by simp⟩
  · obtain ⟨r, h2, h3⟩ := key
    rw [h2]
    cases r with
    | inl r => simp only at h3; subst h3; exact ⟨-1, rfl, by omega, by omega, fun h => absurd h (by omega)⟩
    | inr r => exact ⟨r, rfl, by have := h3.1; omega, by have := h3.2.1; omega, fun _ => ⟨⟨by have := h3.1; omega, h3.2.2⟩, by have := h3.1; omega⟩⟩
  · rintro i _ hi ⟨m, rfl, hm0, hm1, hj⟩
    have hsum : ((x.take (i + 1)).map fun y => szN_TItem y).sum = ((x.take i).map fun y => szN_TItem y).sum + (szN_TItem (x[i])) := by rw [List.take_succ_eq_append_getElem hi, List.map_append, List.sum_append]; simp
    unfold S_laws_szItemS_1
    simp only [dlt hi, if_true, at?_nat hi, Option.bind_some, w64_succ (show i < 9223372036854775807 by omega)]
    obtain ⟨r, h2, h3, h4, h5⟩ := p_laws_szItem (x := x[i]) (n := m) (w.2 _ (List.getElem_mem hi)) hm0 (by omega)
    simp only [h2, Option.bind_some]
    by_cases c1 : r < 0
    · exact .inr ⟨.inl (-1), by simp [c1], rfl⟩
    have h6 := h5 (by omega)
    refine .inl ⟨(r, ((i + 1 : Nat) : Int)), by simp [c1], r, rfl, by omega, by rw [hsum]; have := h6.2; omega, ?_⟩
    intro j y hj1 hj2
    by_cases e : j = i
    · subst e; rw [List.getElem?_eq_getElem hi] at hj2; cases hj2; exact h6.1
    · exact hj j y (by omega) hj2
  · rintro _ ⟨m, rfl, hm0, hm1, hj⟩
    rw [List.take_length] at hm1
    refine ⟨.inr m, by unfold S_laws_szItemS_1; simp, by show m + _ + _ ≤ n; omega, hm0, fun y hy => ?_⟩
    obtain ⟨j, hj2⟩ := List.getElem?_of_mem hy
    exact hj j y (List.getElem?_eq_some_iff.1 hj2).1 hj2
theorem p_laws_szSeg {x : TSeg} {n : Int} (w : wf_TSeg x) (h0 : 0 ≤ n) (h1 : n ≤ 1048576) : ∃ r, F_laws_szSeg x n = some r ∧ r ≤ n ∧ -1 ≤ r ∧ (0 ≤ r → (Sz_TSeg x) ∧ r + ((szN_TSeg x : Nat) : Int) ≤ n) := by
  unfold F_laws_szSeg
  obtain ⟨r1, f1, g1, b1, q1⟩ := p_laws_szItemS (x := x.Items) (n := n) w.2.2.2.1 (by omega) (by omega)
  simp only [f1, Option.bind_some]
  by_cases c1 : r1 < 0
  · rw [if_pos (by simpa using c1)]; exact ⟨-1, rfl, by omega, by omega, fun h => absurd h (by omega)⟩
  rw [if_neg (by simpa using c1)]
  have a1 := (q1 (by omega)).2
  exact ⟨_, rfl, by omega, by omega, fun _ => ⟨⟨(q1 (by omega)).1⟩, by unfold szN_TSeg; omega⟩⟩
theorem p_laws_szSegS {x : List TSeg} {n : Int} (w : (x.length ≤ maxLen ∧ ∀ a ∈ x, wf_TSeg a)) (h0 : 0 ≤ n) (h1 : n ≤ 1048576) : ∃ r, F_laws_szSegS x n = some r ∧ r ≤ n ∧ -1 ≤ r ∧ (0 ≤ r → (x.length ≤ 1048576 ∧ ∀ y ∈ x, Sz_TSeg y) ∧ r + ((x.length + (x.map fun y => szN_TSeg y).sum : Nat) : Int) ≤ n) := by
  unfold F_laws_szSegS
  have hw : (x.length : Int) ≤ 9223372036854775807 := by have := w.1; unfold maxLen at this; omega
  have e0 : w64 (n - (x.length : Int)) = n - x.length := w64_id (by omega) (by omega)
  rw [e0]
  by_cases c0 : n - (x.length : Int) < 0
  · rw [if_pos (by simpa using c0)]; exact ⟨-1, rfl, by omega, by omega, fun h => absurd h (by omega)⟩
  rw [if_neg (by simpa using c0)]
  have hl : x.length < 9223372036854775807 := by omega
  have key := iter_ex (step := S_laws_szSegS_1 x) x.length (fun i st => ∃ m : Int, st = (m, (i : Int)) ∧ 0 ≤ m ∧ m + ((((x.take i).map fun y => szN_TSeg y).sum : Nat) : Int) ≤ n - x.length ∧ ∀ (j : Nat) y, j < i → x[j]? = some y → Sz_TSeg y) (fun o : Int ⊕ Int => match o with | .inl r => r = -1 | .inr r => r + x.length + (((x.map fun y => szN_TSeg y).sum : Nat) : Int) ≤ n ∧ 0 ≤ r ∧ ∀ y ∈ x, Sz_TSeg y) ?_ ?_ (n - x.length, 0) ⟨_, rfl, by omega, by simp, by simp⟩
  · obtain ⟨r, h2, h3⟩ := key
    rw [h2]
    cases r with
    | inl r => simp only at h3; subst h3; exact ⟨-1, rfl, by omega, by omega, fun h => absurd h (by omega)⟩
    | inr r => exact ⟨r, rfl, by have := h3.1; omega, by have := h3.2.1; omega, fun _ => ⟨⟨by have := h3.1; omega, h3.2.2⟩, by have := h3.1; omega⟩⟩
  · rintro i _ hi ⟨m, rfl, hm0, hm1, hj⟩
    have hsum : ((x.take (i + 1)).map fun y => szN_TSeg y).sum = ((x.take i).map fun y => szN_TSeg y).sum + (szN_TSeg (x[i])) := by rw [List.take_succ_eq_append_getElem hi, List.map_append, List.sum_append]; simp
    unfold S_laws_szSegS_1
    simp only [dlt hi, if_true, at?_nat hi, Option.bind_some, w64_succ (show i < 9223372036854775807 by omega)]
    obtain ⟨r, h2, h3, h4, h5⟩ := p_laws_szSeg (x := x[i]) (n := m) (w.2 _ (List.getElem_mem hi)) hm0 (by omega)
    simp only [h2, Option.bind_some]
    by_cases c1 : r < 0
    · exact .inr ⟨.inl (-1), by simp [c1], rfl⟩
    have h6 := h5 (by omega)
    refine .inl ⟨(r, ((i + 1 : Nat) : Int)), by simp [c1], r, rfl, by omega, by rw [hsum]; have := h6.2; omega, ?_⟩
    intro j y hj1 hj2
    by_cases e : j = i
    · subst e; rw [List.getElem?_eq_getElem hi] at hj2; cases hj2; exact h6.1
    · exact hj j y (by omega) hj2
  · rintro _ ⟨m, rfl, hm0, hm1, hj⟩
    rw [List.take_length] at hm1
    refine ⟨.inr m, by unfold S_laws_szSegS_1; simp, by show m + _ + _ ≤ n; omega, hm0, fun y hy => ?_⟩
    obtain ⟨j, hj2⟩ := List.getElem?_of_mem hy
    exact hj j y (List.getElem?_eq_some_iff.1 hj2).1 hj2
theorem p_laws_szLog {x : TLog} {n : Int} (w : wf_TLog x) (h0 : 0 ≤ n) (h1 : n ≤ 1048576) : ∃ r, F_laws_szLog x n = some r ∧ r ≤ n ∧ -1 ≤ r ∧ (0 ≤ r → (Sz_TLog x) ∧ r + ((szN_TLog x : Nat) : Int) ≤ n) := by
  unfold F_laws_szLog
  obtain ⟨r1, f1, g1, b1, q1⟩ := p_laws_szDisk (x := x.Disk) (n := n) w.1 (by omega) (by omega)
  simp only [f1, Option.bind_some]
  by_cases c1 : r1 < 0
  · rw [if_pos (by simpa using c1)]; exact ⟨-1, rfl, by omega, by omega, fun h => absurd h (by omega)⟩
  rw [if_neg (by simpa using c1)]
  have a1 := (q1 (by omega)).2
  obtain ⟨r2, f2, g2, b2, q2⟩ := p_laws_szSegS (x := x.Used) (n := r1) w.2.2.1 (by omega) (by omega)
  simp only [f2, Option.bind_some]
  by_cases c2 : r2 < 0
  · rw [if_pos (by simpa using c2)]; exact ⟨-1, rfl, by omega, by omega, fun h => absurd h (by omega)⟩
  rw [if_neg (by simpa using c2)]
  have a2 := (q2 (by omega)).2
  exact ⟨_, rfl, by omega, by omega, fun _ => ⟨⟨(q1 (by omega)).1, (q2 (by omega)).1⟩, by unfold szN_TLog; omega⟩⟩
theorem p_laws_toStringS {x : List (List UInt8)} (h : x.length ≤ 1048576 ∧ ∀ y ∈ x, y.length ≤ 1048576) : F_laws_toStringS x = some x := by
  unfold F_laws_toStringS
  have hl := h.1
  rw [mk?_ok (by omega) (by omega), Option.bind_some, to_loop (step := S_laws_toStringS_1 x) (by omega)]
  · rfl
  · intro i hi m hm
    unfold S_laws_toStringS_1
    simp only [dlt hi, if_true, at?_nat hi, at?_nat (show i < m.length by omega), Option.bind_some, set'_nat, w64_succ (show i < 9223372036854775807 by omega)]
  · intro m
    unfold S_laws_toStringS_1
    simp
theorem p_laws_toWrite {x : TWrite} (h : Sz_TWrite x) : F_laws_toWrite x = some x := by
  unfold F_laws_toWrite
  rfl
theorem p_laws_toWriteS {x : List TWrite} (h : x.length ≤ 1048576 ∧ ∀ y ∈ x, Sz_TWrite y) : F_laws_toWriteS x = some x := by
  unfold F_laws_toWriteS
  have hl := h.1
  rw [mk?_ok (by omega) (by omega), Option.bind_some, to_loop (step := S_laws_toWriteS_1 x) (by omega)]
  · rfl
  · intro i hi m hm
    unfold S_laws_toWriteS_1
    have he := p_laws_toWrite (x := x[i]) (h.2 _ (List.getElem_mem hi))
    simp only [dlt hi, if_true, at?_nat hi, at?_nat (show i < m.length by omega), Option.bind_some, set'_nat, w64_succ (show i < 9223372036854775807 by omega), he]
  · intro m
    unfold S_laws_toWriteS_1
    simp
theorem p_laws_toDisk {x : TDisk} (h : Sz_TDisk x) : F_laws_toDisk x = some x := by
  unfold F_laws_toDisk
  simp only [p_laws_toStringS (x := x.Sectors) h.sSectors, p_laws_toWriteS (x := x.Cache) h.sCache, Option.bind_some]
theorem p_laws_toRec {x : TRec} (h : Sz_TRec x) : F_laws_toRec x = some x := by
  unfold F_laws_toRec
  rfl
theorem p_laws_toItem {x : TItem} (h : Sz_TItem x) : F_laws_toItem x = some x := by
  unfold F_laws_toItem
  simp only [p_laws_toRec (x := x.Rec) h.sRec, Option.bind_some]
theorem p_laws_toItemS {x : List TItem} (h : x.length ≤ 1048576 ∧ ∀ y ∈ x, Sz_TItem y) : F_laws_toItemS x = some x := by
  unfold F_laws_toItemS
  have hl := h.1
  rw [mk?_ok (by omega) (by omega), Option.bind_some, to_loop (step := S_laws_toItemS_1 x) (by omega)]
  · rfl
  · intro i hi m hm
    unfold S_laws_toItemS_1
    have he := p_laws_toItem (x := x[i]) (h.2 _ (List.getElem_mem hi))
    simp only [dlt hi, if_true, at?_nat hi, at?_nat (show i < m.length by omega), Option.bind_some, set'_nat, w64_succ (show i < 9223372036854775807 by omega), he]
  · intro m
    unfold S_laws_toItemS_1
    simp
theorem p_laws_toSeg {x : TSeg} (h : Sz_TSeg x) : F_laws_toSeg x = some x := by
  unfold F_laws_toSeg
  simp only [p_laws_toItemS (x := x.Items) h.sItems, Option.bind_some]
theorem p_laws_toSegS {x : List TSeg} (h : x.length ≤ 1048576 ∧ ∀ y ∈ x, Sz_TSeg y) : F_laws_toSegS x = some x := by
  unfold F_laws_toSegS
  have hl := h.1
  rw [mk?_ok (by omega) (by omega), Option.bind_some, to_loop (step := S_laws_toSegS_1 x) (by omega)]
  · rfl
  · intro i hi m hm
    unfold S_laws_toSegS_1
    have he := p_laws_toSeg (x := x[i]) (h.2 _ (List.getElem_mem hi))
    simp only [dlt hi, if_true, at?_nat hi, at?_nat (show i < m.length by omega), Option.bind_some, set'_nat, w64_succ (show i < 9223372036854775807 by omega), he]
  · intro m
    unfold S_laws_toSegS_1
    simp
theorem p_laws_toLog {x : TLog} (h : Sz_TLog x) : F_laws_toLog x = some x := by
  unfold F_laws_toLog
  simp only [p_laws_toDisk (x := x.Disk) h.sDisk, p_laws_toSegS (x := x.Used) h.sUsed, Option.bind_some]
theorem p_laws_eqStringS {x : List (List UInt8)} (h : x.length ≤ 1048576 ∧ ∀ y ∈ x, y.length ≤ 1048576) : F_laws_eqStringS x x = some true := by
  unfold F_laws_eqStringS
  have hl := h.1
  have key : iter (S_laws_eqStringS_1 x x) 0 = some (.inr ()) := by
    refine iter_range (fun i => (i : Int)) x.length ?_ ?_
    · intro i hi
      unfold S_laws_eqStringS_1
      simp only [dlt hi, if_true, at?_nat hi, Option.bind_some, w64_succ (show i < 9223372036854775807 by omega)]
      try simp
    · unfold S_laws_eqStringS_1
      simp
  rw [key]
  simp
theorem p_laws_eqWrite {x : TWrite} (h : Sz_TWrite x) : F_laws_eqWrite x x = some true := by
  unfold F_laws_eqWrite
  simp []
theorem p_laws_eqWriteS {x : List TWrite} (h : x.length ≤ 1048576 ∧ ∀ y ∈ x, Sz_TWrite y) : F_laws_eqWriteS x x = some true := by
  unfold F_laws_eqWriteS
  have hl := h.1
  have key : iter (S_laws_eqWriteS_1 x x) 0 = some (.inr ()) := by
    refine iter_range (fun i => (i : Int)) x.length ?_ ?_
    · intro i hi
      unfold S_laws_eqWriteS_1
      have he := p_laws_eqWrite (x := x[i]) (h.2 _ (List.getElem_mem hi))
      simp only [dlt hi, if_true, at?_nat hi, Option.bind_some, w64_succ (show i < 9223372036854775807 by omega), he]
      try simp
    · unfold S_laws_eqWriteS_1
      simp
  rw [key]
  simp
theorem p_laws_eqDisk {x : TDisk} (h : Sz_TDisk x) : F_laws_eqDisk x x = some true := by
  unfold F_laws_eqDisk
  simp [p_laws_eqStringS (x := x.Sectors) h.sSectors, p_laws_eqWriteS (x := x.Cache) h.sCache]
theorem p_laws_eqRec {x : TRec} (h : Sz_TRec x) : F_laws_eqRec x x = some true := by
  unfold F_laws_eqRec
  simp []
theorem p_laws_eqItem {x : TItem} (h : Sz_TItem x) : F_laws_eqItem x x = some true := by
  unfold F_laws_eqItem
  simp [p_laws_eqRec (x := x.Rec) h.sRec]
theorem p_laws_eqItemS {x : List TItem} (h : x.length ≤ 1048576 ∧ ∀ y ∈ x, Sz_TItem y) : F_laws_eqItemS x x = some true := by
  unfold F_laws_eqItemS
  have hl := h.1
  have key : iter (S_laws_eqItemS_1 x x) 0 = some (.inr ()) := by
    refine iter_range (fun i => (i : Int)) x.length ?_ ?_
    · intro i hi
      unfold S_laws_eqItemS_1
      have he := p_laws_eqItem (x := x[i]) (h.2 _ (List.getElem_mem hi))
      simp only [dlt hi, if_true, at?_nat hi, Option.bind_some, w64_succ (show i < 9223372036854775807 by omega), he]
      try simp
    · unfold S_laws_eqItemS_1
      simp
  rw [key]
  simp
theorem p_laws_eqSeg {x : TSeg} (h : Sz_TSeg x) : F_laws_eqSeg x x = some true := by
  unfold F_laws_eqSeg
  simp [p_laws_eqItemS (x := x.Items) h.sItems]
theorem p_laws_eqSegS {x : List TSeg} (h : x.length ≤ 1048576 ∧ ∀ y ∈ x, Sz_TSeg y) : F_laws_eqSegS x x = some true := by
  unfold F_laws_eqSegS
  have hl := h.1
  have key : iter (S_laws_eqSegS_1 x x) 0 = some (.inr ()) := by
    refine iter_range (fun i => (i : Int)) x.length ?_ ?_
    · intro i hi
      unfold S_laws_eqSegS_1
      have he := p_laws_eqSeg (x := x[i]) (h.2 _ (List.getElem_mem hi))
      simp only [dlt hi, if_true, at?_nat hi, Option.bind_some, w64_succ (show i < 9223372036854775807 by omega), he]
      try simp
    · unfold S_laws_eqSegS_1
      simp
  rw [key]
  simp
theorem p_laws_eqLog {x : TLog} (h : Sz_TLog x) : F_laws_eqLog x x = some true := by
  unfold F_laws_eqLog
  simp [p_laws_eqDisk (x := x.Disk) h.sDisk, p_laws_eqSegS (x := x.Used) h.sUsed]
end Go.Proofs.Ytgdcbjoaoagbpaa.V
/- Items: what they must be, and the latest of them. -/
namespace Go.Proofs.Ytgdcbjoaoagbpaa.V
open Go Go.RowKit
set_option maxRecDepth 100000

def itemEq (a b : TItem) : Bool := (a.Seq == b.Seq && (a.Rec.Kind == b.Rec.Kind && (a.Rec.Valid == b.Rec.Valid && (a.Rec.Uid == b.Rec.Uid && (a.Rec.Next == b.Rec.Next && (a.Rec.Flags == b.Rec.Flags && (a.Rec.User == b.Rec.User && (a.Rec.Name == b.Rec.Name && (a.Rec.Text == b.Rec.Text && true)))))))))

/-! ### the latest -/
end Go.Proofs.Ytgdcbjoaoagbpaa.V
/- Logs compared. -/
namespace Go.Proofs.Ytgdcbjoaoagbpaa.V
open Go Go.RowKit
set_option maxRecDepth 100000

theorem all2_loop {α β ρ : Type} {l : List α} {m : List β} (hl : l.length = m.length) {q : α → β → Bool} {step : Int → Option (Int ⊕ ρ)} {bad good : ρ} (h1 : ∀ (i : Nat) (h : i < l.length) (h' : i < m.length), step (i : Int) = if q l[i] m[i] then some (.inl ((i + 1 : Nat) : Int)) else some (.inr bad)) (h2 : step (l.length : Int) = some (.inr good)) : iter step 0 = some (if (l.zip m).all (fun p => q p.1 p.2) then good else bad) := by
  have hz : (l.zip m).length = l.length := by simp [hl]
  have h := any_loop (l := l.zip m) (k := l.length) (by omega) (q := fun p => !q p.1 p.2) (step := step) (bad := bad) (good := good) (by
    intro i h _
    rw [h1 i (by omega) (by omega), List.getElem_zip]
    cases q l[i] m[i] <;> rfl) h2
  rw [h]
  have e : (l.zip m).take l.length = l.zip m := by rw [← hz, List.take_length]
  rw [e]
  have e2 : (l.zip m).any (fun p => !q p.1 p.2) = !((l.zip m).all fun p => q p.1 p.2) := by
    rw [List.all_eq_not_any_not, Bool.not_not]
  rw [e2]
  cases (l.zip m).all fun p => q p.1 p.2 <;> rfl
def itemsEq (l m : List TItem) : Bool := (l.length == m.length) && (l.zip m).all fun p => itemEq p.1 p.2
def segEq (a b : TSeg) : Bool := a.No == b.No && (a.Gen == b.Gen && (a.End == b.End && itemsEq a.Items b.Items))
def usedEq (l m : List TSeg) : Bool := (l.length == m.length) && (l.zip m).all fun p => segEq p.1 p.2
def sameLog (a b : TLog) : Bool := usedEq a.Used b.Used && (a.NextGen == b.NextGen && (a.NextSeq == b.NextSeq && a.NextValid == b.NextValid))
def SegN (x : TSeg) : Prop := x.Items.length ≤ 1048576
theorem spec_l09Same {a b : TSeg} (ha : SegN a) : F_spec_l09Same a b = some (segEq a b) := by
  unfold SegN at ha
  unfold F_spec_l09Same segEq itemsEq
  by_cases c1 : a.No = b.No
  · by_cases c2 : a.Gen = b.Gen
    · by_cases c3 : a.End = b.End
      · by_cases c4 : a.Items.length = b.Items.length
        · have h := all2_loop c4 (q := itemEq) (step := S_spec_l09Same_1 a b) (bad := .inl false) (good := .inr ()) (by
            intro i h h'
            unfold S_spec_l09Same_1
            simp only [dlt h, if_true, at?_nat h, at?_nat h', Option.bind_some, w64_succ (show i < 9223372036854775807 by omega)]
            show (if (!itemEq a.Items[i] b.Items[i]) = true then _ else _) = _
            cases itemEq a.Items[i] b.Items[i] <;> rfl) (by unfold S_spec_l09Same_1; simp)
          simp only [c1, c2, c3, c4, bne_self_eq_false, Bool.false_eq_true, if_false, Option.bind_some, h, beq_self_eq_true, Bool.true_and]
          cases (a.Items.zip b.Items).all fun p => itemEq p.1 p.2 <;> rfl
        · have c4' : ¬ ((a.Items.length : Int) = b.Items.length) := by omega
          simp [c1, c2, c3, c4, c4']
      · simp [c1, c2, c3]
    · simp [c1, c2]
  · simp [c1]
theorem impl_sameSeg {a b : TSeg} (ha : SegN a) : F_impl_sameSeg a b = some (segEq a b) := by
  unfold SegN at ha
  have he : F_slices_Equal_Item a.Items b.Items = some (itemsEq a.Items b.Items) := by
    unfold F_slices_Equal_Item itemsEq
    by_cases c4 : a.Items.length = b.Items.length
    · have h := all2_loop c4 (q := itemEq) (step := S_slices_Equal_Item_1 a.Items b.Items) (bad := .inl false) (good := .inr ()) (by
        intro i h h'
        unfold S_slices_Equal_Item_1
        simp only [dlt h, if_true, at?_nat h, at?_nat h', Option.bind_some, w64_succ (show i < 9223372036854775807 by omega)]
        show (if (!itemEq a.Items[i] b.Items[i]) = true then _ else _) = _
        cases itemEq a.Items[i] b.Items[i] <;> rfl) (by unfold S_slices_Equal_Item_1; simp)
      simp only [c4, bne_self_eq_false, Bool.false_eq_true, if_false, h, beq_self_eq_true, Bool.true_and, Option.bind_some]
      cases (a.Items.zip b.Items).all fun p => itemEq p.1 p.2 <;> rfl
    · rw [if_pos (by simp; omega)]
      simp [c4]
  unfold F_impl_sameSeg segEq
  rw [he]
  by_cases c1 : a.No = b.No <;> by_cases c2 : a.Gen = b.Gen <;> by_cases c3 : a.End = b.End <;> simp [c1, c2, c3]
theorem spec_sameLog {a b : TLog} (hl : a.Used.length ≤ 1048576) (h : ∀ x ∈ a.Used, SegN x) : F_spec_SameLog a b = some (sameLog a b) := by
  unfold F_spec_SameLog sameLog usedEq
  by_cases c1 : a.Used.length = b.Used.length
  · have h := all2_loop c1 (q := segEq) (step := S_spec_SameLog_1 a b) (bad := .inl false) (good := .inr ()) (by
      intro i h1 h1'
      unfold S_spec_SameLog_1
      simp only [dlt h1, if_true, at?_nat h1, at?_nat h1', Option.bind_some, spec_l09Same (h _ (List.getElem_mem h1)), w64_succ (show i < 9223372036854775807 by omega)]) (by unfold S_spec_SameLog_1; simp)
    by_cases c2 : a.NextGen = b.NextGen <;> by_cases c3 : a.NextSeq = b.NextSeq <;> by_cases c4 : a.NextValid = b.NextValid <;> simp [c1, c2, c3, c4, h]
    cases (a.Used.zip b.Used).all fun p => segEq p.1 p.2 <;> rfl
  · have c1' : ¬ ((a.Used.length : Int) = b.Used.length) := by omega
    simp [c1, c1']
theorem impl_sameLog {a b : TLog} (hl : a.Used.length ≤ 1048576) (h : ∀ x ∈ a.Used, SegN x) : F_impl_SameLog a b = some (sameLog a b) := by
  have he : F_slices_EqualFunc_Seg_sameSeg a.Used b.Used = some (usedEq a.Used b.Used) := by
    unfold F_slices_EqualFunc_Seg_sameSeg usedEq
    by_cases c1 : a.Used.length = b.Used.length
    · have h := all2_loop c1 (q := segEq) (step := S_slices_EqualFunc_Seg_sameSeg_1 a.Used b.Used) (bad := .inl false) (good := .inr ()) (by
        intro i h1 h1'
        unfold S_slices_EqualFunc_Seg_sameSeg_1
        simp only [dlt h1, if_true, at?_nat h1, at?_nat h1', Option.bind_some, impl_sameSeg (h _ (List.getElem_mem h1)), w64_succ (show i < 9223372036854775807 by omega)]) (by unfold S_slices_EqualFunc_Seg_sameSeg_1; simp)
      simp only [c1, bne_self_eq_false, Bool.false_eq_true, if_false, h, beq_self_eq_true, Bool.true_and, Option.bind_some]
      cases (a.Used.zip b.Used).all fun p => segEq p.1 p.2 <;> rfl
    · rw [if_pos (by simp; omega)]
      simp [c1]
  unfold F_impl_SameLog sameLog
  rw [he]
  cases usedEq a.Used b.Used <;> by_cases c2 : a.NextGen = b.NextGen <;> by_cases c3 : a.NextSeq = b.NextSeq <;> by_cases c4 : a.NextValid = b.NextValid <;> simp [c2, c3, c4]
theorem pure_FnExactSameLog {a b : TLog} (wa : wf_TLog a) (wb : wf_TLog b) : F_laws_FnExactSameLog a b = some true := by
  obtain ⟨r, h1, h2, h3, h4⟩ := p_laws_szLog wa (n := 1048576) (by omega) (by omega)
  unfold F_laws_FnExactSameLog
  rw [h1, Option.bind_some]
  by_cases hr : r < 0
  · rw [if_pos (by simpa using hr)]
  have ha := (h4 (by omega)).1
  obtain ⟨r', g1, g2, g3, g4⟩ := p_laws_szLog wb (n := r) (by omega) (by omega)
  rw [if_neg (by simpa using hr), g1, Option.bind_some]
  by_cases hr' : r' < 0
  · rw [if_pos (by simpa using hr')]
  have hb := (g4 (by omega)).1
  rw [if_neg (by simpa using hr')]
  have hs : ∀ x ∈ a.Used, SegN x := fun x hx => (ha.sUsed.2 x hx).sItems.1
  simp [p_laws_toLog ha, p_laws_toLog hb, p_laws_eqLog ha, p_laws_eqLog hb, spec_sameLog ha.sUsed.1 hs, impl_sameLog ha.sUsed.1 hs]
end Go.Proofs.Ytgdcbjoaoagbpaa.V
