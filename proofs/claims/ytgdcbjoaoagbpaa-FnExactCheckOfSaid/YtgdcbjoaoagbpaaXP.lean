/- The pure part. -/
import Derived.Test.YtgdcbjoaoagbpaaXT
/- Loops that count, numbers, words: plain lists and numbers. -/
namespace Go.Proofs.Ytgdcbjoaoagbpaa.V
open Go Go.RowKit

/-! ### loops that count -/
theorem iter_range {σ ρ : Type} {step : σ → Option (σ ⊕ ρ)} (st : Nat → σ) (n : Nat) {r : ρ} (hs : ∀ i, i < n → step (st i) = some (.inl (st (i + 1)))) (he : step (st n) = some (.inr r)) : iter step (st 0) = some r := by
  have key : ∀ d i, i + d = n → iter step (st i) = some r := by
    intro d
    induction d with
    | zero => intro i hi; have : i = n := by omega
              subst this; exact iter_done he
    | succ d ih => intro i hi; rw [iter_next (hs i (by omega))]; exact ih (i + 1) (by omega)
  exact key n 0 (by omega)

/-! ### numbers -/
theorem w64_id {n : Int} (h : -9223372036854775808 ≤ n) (h' : n < 9223372036854775808) : w64 n = n := by
  unfold w64 IntKind.wrap
  simp [IntKind.bits, IntKind.signed]
  omega
theorem w64_succ {n : Nat} (h : n < 9223372036854775807) : w64 ((n : Int) + 1) = ((n + 1 : Nat) : Int) := by rw [w64_id (by omega) (by omega)]; omega
theorem at?_nat {α : Type} {l : List α} {i : Nat} (h : i < l.length) : at? l (i : Int) = some l[i] := by
  unfold at?
  rw [if_pos ⟨by omega, by omega⟩]
  simp [h]
theorem cat?_ok {s t : List UInt8} (h : s.length + t.length ≤ 4611686018427387904) : cat? s t = some (s ++ t) := by unfold cat?; rw [if_pos h]
theorem app?_ok {α : Type} {byt : Nat} {l m : List α} (h : l.length + m.length ≤ 1099511627776) (h2 : (l.length + m.length) * byt ≤ 140737488355328) : app? byt l m = some (l ++ m) := by unfold app?; rw [if_pos ⟨h, h2⟩]


/-! ### numbers as words -/




end Go.Proofs.Ytgdcbjoaoagbpaa.V
/- Sums, words, what a record must be. -/
namespace Go.Proofs.Ytgdcbjoaoagbpaa.V
open Go Go.RowKit

/-! ### sums -/

/-! ### words -/
end Go.Proofs.Ytgdcbjoaoagbpaa.V
/- What the statements' own functions need: loops over lists. -/
namespace Go.Proofs.Ytgdcbjoaoagbpaa.V
open Go Go.RowKit

theorem iter_ex {σ ρ : Type} {step : σ → Option (σ ⊕ ρ)} (n : Nat) (I : Nat → σ → Prop) (Q : ρ → Prop) (h : ∀ i s, i < n → I i s → (∃ s', step s = some (.inl s') ∧ I (i + 1) s') ∨ ∃ r, step s = some (.inr r) ∧ Q r) (he : ∀ s, I n s → ∃ r, step s = some (.inr r) ∧ Q r) : ∀ s, I 0 s → ∃ r, iter step s = some r ∧ Q r := by
  have key : ∀ d i s, i + d = n → I i s → ∃ r, iter step s = some r ∧ Q r := by
    intro d
    induction d with
    | zero =>
      intro i s hi hs
      have : i = n := by omega
      subst this
      obtain ⟨r, h1, h2⟩ := he s hs
      exact ⟨r, iter_done h1, h2⟩
    | succ d ih =>
      intro i s hi hs
      rcases h i s (by omega) hs with ⟨s', h1, h2⟩ | ⟨r, h1, h2⟩
      · obtain ⟨r, h3, h4⟩ := ih (i + 1) s' (by omega) h2
        exact ⟨r, by rw [iter_next h1]; exact h3, h4⟩
      · exact ⟨r, iter_done h1, h2⟩
  exact fun s hs => key n 0 s (by omega) hs

theorem set'_nat {α : Type} {l : List α} {i : Nat} {x : α} : set' l (i : Int) x = l.set i x := by simp [set']
theorem at?_set {α : Type} {l : List α} {i : Nat} {x : α} (h : i < l.length) : at? (l.set i x) (i : Int) = some x := by
  rw [at?_nat (by simpa using h)]; simp
theorem dlt {i : Nat} {n : Nat} (h : i < n) : decide ((i : Int) < (n : Int)) = true := by simpa using h

/-- Copied one by one. -/
theorem to_loop {α : Type} {l : List α} {z : α} {step : Int × List α → Option ((Int × List α) ⊕ List α)} (hl : l.length < 9223372036854775807)
    (h1 : ∀ (i : Nat) (h : i < l.length) (m : List α), m.length = l.length → step ((i : Int), m) = some (.inl (((i + 1 : Nat) : Int), m.set i l[i])))
    (h2 : ∀ m : List α, step ((l.length : Int), m) = some (.inr m)) : iter step (0, List.replicate l.length z) = some l := by
  have := iter_range (step := step) (fun i => ((i : Int), l.take i ++ List.replicate (l.length - i) z)) l.length (r := l) ?_ ?_
  · simpa using this
  · intro i hi
    rw [h1 i hi _ (by simp; omega)]
    have e : (l.take i ++ List.replicate (l.length - i) z).set i l[i] = l.take (i + 1) ++ List.replicate (l.length - (i + 1)) z := by
      have e1 : l.length - i = (l.length - (i + 1)) + 1 := by omega
      have e2 : (l.take i).length = i := by simp; omega
      rw [e1, List.replicate_succ, List.set_append_right _ _ (by omega), e2, Nat.sub_self, List.set_cons_zero, List.take_succ_eq_append_getElem hi, List.append_assoc]
      rfl
    rw [e]
  · simp [h2]
/-- Marked one by one: what stands at a place tells the place. -/
theorem mark_loop {α : Type} {l : List α} {k m0 : Nat} {g : Nat → α → α} {step : Int × Int × List α → Option ((Int × Int × List α) ⊕ (Int × List α))}
    (h1 : ∀ (i m : Nat) (l' : List α) (h : i < l'.length), i < l.length → m = m0 + k * i → step ((m : Int), (i : Int), l') = some (.inl (((m + k : Nat) : Int), ((i + 1 : Nat) : Int), l'.set i (g m l'[i]))))
    (h2 : ∀ (m : Nat) (l' : List α), l'.length = l.length → step ((m : Int), (l.length : Int), l') = some (.inr ((m : Int), l'))) :
    iter step ((m0 : Int), 0, l) = some (((m0 + k * l.length : Nat) : Int), l.mapIdx fun i x => g (m0 + k * i) x) := by
  have := iter_range (step := step) (fun i => (((m0 + k * i : Nat) : Int), (i : Int), (l.take i).mapIdx (fun i x => g (m0 + k * i) x) ++ l.drop i)) l.length (r := (((m0 + k * l.length : Nat) : Int), l.mapIdx fun i x => g (m0 + k * i) x)) ?_ ?_
  · simpa using this
  · intro i hi
    have hlen : i < ((l.take i).mapIdx (fun i x => g (m0 + k * i) x) ++ l.drop i).length := by simp; omega
    rw [h1 i _ _ hlen hi rfl]
    have e0 : ((l.take i).mapIdx (fun i x => g (m0 + k * i) x)).length = i := by simp; omega
    have e1 : ((l.take i).mapIdx (fun i x => g (m0 + k * i) x) ++ l.drop i)[i] = l[i] := by
      rw [List.getElem_append_right (by omega)]
      simp [e0]
    have e : ((l.take i).mapIdx (fun i x => g (m0 + k * i) x) ++ l.drop i).set i (g (m0 + k * i) l[i]) = (l.take (i + 1)).mapIdx (fun i x => g (m0 + k * i) x) ++ l.drop (i + 1) := by
      rw [List.set_append_right _ _ (by omega), e0, Nat.sub_self, List.drop_eq_getElem_cons hi, List.set_cons_zero, List.take_succ_eq_append_getElem hi, List.mapIdx_append]
      have : (l.take i).length = i := by simp; omega
      simp [this]
    rw [e1, e, Nat.mul_succ, Nat.add_assoc]
  · rw [h2 _ _ (by simp)]
    simp
theorem held_loop {α : Type} {l : List α} {k m0 : Nat} {ρ : Type} {r : Int → ρ} {g : Nat → α → α} {step : Int × Int → Option ((Int × Int) ⊕ ρ)}
    (h1 : ∀ (i m : Nat) (h : i < l.length), m = m0 + k * i → step ((m : Int), (i : Int)) = some (.inl (((m + k : Nat) : Int), ((i + 1 : Nat) : Int))))
    (h2 : ∀ (m : Nat), step ((m : Int), (l.length : Int)) = some (.inr (r (m : Int)))) :
    iter step ((m0 : Int), 0) = some (r ((m0 + k * l.length : Nat) : Int)) := by
  refine iter_range (step := step) (fun i => (((m0 + k * i : Nat) : Int), (i : Int))) l.length (r := r ((m0 + k * l.length : Nat) : Int)) ?_ ?_
  · intro i hi
    rw [h1 i _ hi rfl, Nat.mul_succ, Nat.add_assoc]
  · exact h2 _
/-! ### marks of what holds lists -/
def mkL {α : Type} (mk1 : Nat → α → α) (cn1 : α → Nat) : Nat → List α → List α
  | _, [] => []
  | m, x :: l => mk1 m x :: mkL mk1 cn1 (m + cn1 x) l
def cnL {α : Type} (cn1 : α → Nat) (l : List α) : Nat := (l.map cn1).sum
theorem mkL_len {α : Type} {mk1 : Nat → α → α} {cn1 : α → Nat} : ∀ (l : List α) (m : Nat), (mkL mk1 cn1 m l).length = l.length
  | [], _ => rfl
  | x :: l, m => by simp [mkL, mkL_len l]
theorem mkL_append {α : Type} {mk1 : Nat → α → α} {cn1 : α → Nat} : ∀ (a b : List α) (m : Nat), mkL mk1 cn1 m (a ++ b) = mkL mk1 cn1 m a ++ mkL mk1 cn1 (m + cnL cn1 a) b
  | [], b, m => by simp [mkL, cnL]
  | x :: a, b, m => by
    have h := mkL_append (mk1 := mk1) (cn1 := cn1) a b (m + cn1 x)
    simp only [List.cons_append, mkL, h, cnL, List.map_cons, List.sum_cons, Nat.add_assoc]
theorem cnL_le {α : Type} {cn1 : α → Nat} {B : Nat} : ∀ (l : List α), (∀ x ∈ l, cn1 x ≤ B) → cnL cn1 l ≤ B * l.length
  | [], _ => by simp [cnL]
  | x :: l, h => by
    have h1 := h x List.mem_cons_self
    have h2 := cnL_le l fun y hy => h y (List.mem_cons_of_mem _ hy)
    simp only [cnL, List.map_cons, List.sum_cons, List.length_cons, Nat.mul_succ] at h2 ⊢
    omega
theorem mark_loop2 {α : Type} {l : List α} {m0 B : Nat} {mk1 : Nat → α → α} {cn1 : α → Nat} {step : Int × Int × List α → Option ((Int × Int × List α) ⊕ (Int × List α))}
    (hB : ∀ x ∈ l, cn1 x ≤ B)
    (h1 : ∀ (i m : Nat) (l' : List α) (x : α) (h : i < l'.length), i < l.length → x ∈ l → l'[i] = x → m ≤ m0 + B * i → step ((m : Int), (i : Int), l') = some (.inl (((m + cn1 x : Nat) : Int), ((i + 1 : Nat) : Int), l'.set i (mk1 m x))))
    (h2 : ∀ (m : Nat) (l' : List α), l'.length = l.length → step ((m : Int), (l.length : Int), l') = some (.inr ((m : Int), l'))) :
    iter step ((m0 : Int), 0, l) = some (((m0 + cnL cn1 l : Nat) : Int), mkL mk1 cn1 m0 l) := by
  have := iter_range (step := step) (fun i => (((m0 + cnL cn1 (l.take i) : Nat) : Int), (i : Int), mkL mk1 cn1 m0 (l.take i) ++ l.drop i)) l.length (r := (((m0 + cnL cn1 l : Nat) : Int), mkL mk1 cn1 m0 l)) ?_ ?_
  · simpa [cnL, mkL] using this
  · intro i hi
    have e0 : (mkL mk1 cn1 m0 (l.take i)).length = i := by rw [mkL_len]; simp; omega
    have hlen : i < (mkL mk1 cn1 m0 (l.take i) ++ l.drop i).length := by simp [e0]; omega
    have e1 : (mkL mk1 cn1 m0 (l.take i) ++ l.drop i)[i] = l[i] := by
      rw [List.getElem_append_right (by omega)]
      simp [e0]
    have hc := cnL_le (cn1 := cn1) (B := B) (l.take i) fun x hx => hB x (List.mem_of_mem_take hx)
    have hc2 : cnL cn1 (l.take i) ≤ B * i := by
      have : (l.take i).length = i := by simp; omega
      rw [this] at hc; exact hc
    rw [h1 i _ _ l[i] hlen hi (List.getElem_mem hi) e1 (by omega)]
    have e2 : cnL cn1 (l.take (i + 1)) = cnL cn1 (l.take i) + cn1 l[i] := by
      unfold cnL
      rw [List.take_succ_eq_append_getElem hi, List.map_append, List.sum_append]; simp
    have e3 : (mkL mk1 cn1 m0 (l.take i) ++ l.drop i).set i (mk1 (m0 + cnL cn1 (l.take i)) l[i]) = mkL mk1 cn1 m0 (l.take (i + 1)) ++ l.drop (i + 1) := by
      rw [List.set_append_right _ _ (by omega), e0, Nat.sub_self, List.drop_eq_getElem_cons hi, List.set_cons_zero, List.take_succ_eq_append_getElem hi, mkL_append, List.append_assoc]
      rfl
    rw [e3, e2, Nat.add_assoc]
  · rw [h2 _ _ (by rw [List.length_append, mkL_len]; simp)]
    simp
theorem mk?_ok {α : Type} {byt : Nat} {z : α} {n : Nat} (h : n ≤ 1099511627776) (h2 : n * byt ≤ 140737488355328) : mk? byt z (n : Int) = some (List.replicate n z) := by
  unfold mk?
  have h3 : ((n * byt : Nat) : Int) ≤ 140737488355328 := by omega
  rw [if_pos ⟨by omega, by rw [Int.mul_comm]; rw [Int.natCast_mul] at h3; exact h3, by omega⟩]; simp
end Go.Proofs.Ytgdcbjoaoagbpaa.V
/- The functions that the statements are made of. -/
namespace Go.Proofs.Ytgdcbjoaoagbpaa.V
open Go Go.RowKit
set_option maxRecDepth 100000
def szN_TWrite (x : TWrite) : Nat := x.Text.length
structure Sz_TWrite (x : TWrite) : Prop where
  sText : x.Text.length ≤ 1048576
def szN_TDisk (x : TDisk) : Nat := x.Sectors.length + (x.Sectors.map fun y => y.length).sum + x.Cache.length + (x.Cache.map fun y => szN_TWrite y).sum
structure Sz_TDisk (x : TDisk) : Prop where
  sSectors : x.Sectors.length ≤ 1048576 ∧ ∀ y ∈ x.Sectors, y.length ≤ 1048576
  sCache : x.Cache.length ≤ 1048576 ∧ ∀ y ∈ x.Cache, Sz_TWrite y
def szN_TRec (x : TRec) : Nat := x.User.length + x.Name.length + x.Text.length
structure Sz_TRec (x : TRec) : Prop where
  sUser : x.User.length ≤ 1048576
  sName : x.Name.length ≤ 1048576
  sText : x.Text.length ≤ 1048576
def szN_TItem (x : TItem) : Nat := szN_TRec x.Rec
structure Sz_TItem (x : TItem) : Prop where
  sRec : Sz_TRec x.Rec
def szN_TSeg (x : TSeg) : Nat := x.Items.length + (x.Items.map fun y => szN_TItem y).sum
structure Sz_TSeg (x : TSeg) : Prop where
  sItems : x.Items.length ≤ 1048576 ∧ ∀ y ∈ x.Items, Sz_TItem y
def szN_TLog (x : TLog) : Nat := szN_TDisk x.Disk + x.Used.length + (x.Used.map fun y => szN_TSeg y).sum
structure Sz_TLog (x : TLog) : Prop where
  sDisk : Sz_TDisk x.Disk
  sUsed : x.Used.length ≤ 1048576 ∧ ∀ y ∈ x.Used, Sz_TSeg y
structure Sz_TCheck (x : TCheck) : Prop where
  sRefs : x.Refs.length ≤ 1048576

/-! ### the words that mark -/
theorem mt_loop : ∀ (d n : Nat) (out : List UInt8), n < 10 ^ d → n < 4611686018427387904 → out.length + d ≤ 1000 → ∃ o, iter S_laws_markText_1 ((n : Int), out) = some o ∧ o.length ≤ 1000
  | 0, n, out, h, _, h2 => by
    have : n = 0 := by simp at h; omega
    subst this
    exact ⟨out, iter_done (by unfold S_laws_markText_1; simp), by omega⟩
  | d + 1, n, out, h, h1, h2 => by
    by_cases h0 : n = 0
    · subst h0; exact ⟨out, iter_done (by unfold S_laws_markText_1; simp), by omega⟩
    · have hs : S_laws_markText_1 ((n : Int), out) = some (.inl (((n / 10 : Nat) : Int), [ofI (IntKind.u8.wrap (w64 (48 + Int.tmod (n : Int) 10)))] ++ out)) := by
        unfold S_laws_markText_1
        have e2 : w64 (Int.tdiv (n : Int) 10) = ((n / 10 : Nat) : Int) := by
          rw [Int.tdiv_eq_ediv_of_nonneg (by omega), w64_id (by omega) (by omega)]; omega
        simp only [show decide ((n : Int) > 0) = true from by simp; omega, if_true, e2]
        rw [cat?_ok (by simp; omega)]
        rfl
      obtain ⟨o, h3, h4⟩ := mt_loop d (n / 10) ([ofI (IntKind.u8.wrap (w64 (48 + Int.tmod (n : Int) 10)))] ++ out) (by rw [Nat.pow_succ] at h; exact Nat.div_lt_of_lt_mul (by rw [Nat.mul_comm]; exact h)) (by omega) (by simp; omega)
      exact ⟨o, by rw [iter_next hs]; exact h3, h4⟩
noncomputable def mt (n : Nat) : List UInt8 := (F_laws_markText (n : Int)).getD []
theorem p_laws_markText {n : Nat} (h : n < 4611686018427387904) : F_laws_markText (n : Int) = some (mt n) := by
  have : ∃ o, F_laws_markText (n : Int) = some o := by
    unfold F_laws_markText
    by_cases h0 : n = 0
    · subst h0; exact ⟨_, by simp; rfl⟩
    · rw [if_neg (by simp; omega)]
      obtain ⟨o, h1, h2⟩ := mt_loop 19 n [] (Nat.lt_trans h (by decide)) h (by simp)
      rw [h1]
      simp only [Option.bind_some]
      rw [cat?_ok (by simp; omega)]
      exact ⟨_, rfl⟩
  obtain ⟨o, ho⟩ := this
  unfold mt
  rw [ho]; rfl
theorem p_laws_szStringS {x : List (List UInt8)} {n : Int} (w : (x.length ≤ maxLen ∧ ∀ a ∈ x, a.length ≤ maxLen)) (h0 : 0 ≤ n) (h1 : n ≤ 1048576) : ∃ r, F_laws_szStringS x n = some r ∧ r ≤ n ∧ -1 ≤ r ∧ (0 ≤ r → (x.length ≤ 1048576 ∧ ∀ y ∈ x, y.length ≤ 1048576) ∧ r + ((x.length + (x.map fun y => y.length).sum : Nat) : Int) ≤ n) := by
  unfold F_laws_szStringS
  have hw : (x.length : Int) ≤ 9223372036854775807 := by have := w.1; unfold maxLen at this; omega
  have e0 : w64 (n - (x.length : Int)) = n - x.length := w64_id (by omega) (by omega)
  rw [e0]
  by_cases c0 : n - (x.length : Int) < 0
  · rw [if_pos (by simpa using c0)]; exact ⟨-1, rfl, by omega, by omega, fun h => absurd h (by omega)⟩
  rw [if_neg (by simpa using c0)]
  have hl : x.length < 9223372036854775807 := by omega
  have key := iter_ex (step := S_laws_szStringS_1 x) x.length (fun i st => ∃ m : Int, st = (m, (i : Int)) ∧ 0 ≤ m ∧ m + ((((x.take i).map fun y => y.length).sum : Nat) : Int) ≤ n - x.length ∧ ∀ (j : Nat) y, j < i → x[j]? = some y → y.length ≤ 1048576) (fun o : Int ⊕ Int => match o with | .inl r => r = -1 | .inr r => r + x.length + (((x.map fun y => y.length).sum : Nat) : Int) ≤ n ∧ 0 ≤ r ∧ ∀ y ∈ x, y.length ≤ 1048576) ?_ ?_ (n - x.length, 0) ⟨_, rfl, by omega, by simp, by simp⟩
  · obtain ⟨r, h2, h3⟩ := key
    rw [h2]
    cases r with
    | inl r => simp only at h3; subst h3; exact ⟨-1, rfl, by omega, by omega, fun h => absurd h (by omega)⟩
    | inr r => exact ⟨r, rfl, by have := h3.1; omega, by have := h3.2.1; omega, fun _ => ⟨⟨by have := h3.1; omega, h3.2.2⟩, by have := h3.1; omega⟩⟩
  · rintro i _ hi ⟨m, rfl, hm0, hm1, hj⟩
    have hsum : ((x.take (i + 1)).map fun y => y.length).sum = ((x.take i).map fun y => y.length).sum + ((x[i]).length) := by rw [List.take_succ_eq_append_getElem hi, List.map_append, List.sum_append]; simp
    unfold S_laws_szStringS_1
    simp only [dlt hi, if_true, at?_nat hi, Option.bind_some, w64_succ (show i < 9223372036854775807 by omega)]
    have hs : (x[i].length : Int) ≤ 9223372036854775807 := by have := w.2 _ (List.getElem_mem hi); unfold maxLen at this; omega
    have e1 : w64 (m - (x[i].length : Int)) = m - x[i].length := w64_id (by omega) (by omega)
    simp only [e1]; generalize hr : m - (x[i].length : Int) = r
    have h3 : r ≤ m := by omega
    have h5 : 0 ≤ r → x[i].length ≤ 1048576 ∧ r + ((x[i].length : Nat) : Int) ≤ m := by omega
    by_cases c1 : r < 0
    · exact .inr ⟨.inl (-1), by simp [c1], rfl⟩
    have h6 := h5 (by omega)
    refine .inl ⟨(r, ((i + 1 : Nat) : Int)), by simp [c1], r, rfl, by omega, by rw [hsum]; have := h6.2; omega, ?_⟩
    intro j y hj1 hj2
    by_cases e : j = i
    · subst e; rw [List.getElem?_eq_getElem hi] at hj2; cases hj2; exact h6.1
    · exact hj j y (by omega) hj2
  · rintro _ ⟨m, rfl, hm0, hm1, hj⟩
    rw [List.take_length] at hm1
    refine ⟨.inr m, by unfold S_laws_szStringS_1; simp, by show m + _ + _ ≤ n; omega, hm0, fun y hy => ?_⟩
    obtain ⟨j, hj2⟩ := List.getElem?_of_mem hy
    exact hj j y (List.getElem?_eq_some_iff.1 hj2).1 hj2
theorem p_laws_szWrite {x : TWrite} {n : Int} (w : wf_TWrite x) (h0 : 0 ≤ n) (h1 : n ≤ 1048576) : ∃ r, F_laws_szWrite x n = some r ∧ r ≤ n ∧ -1 ≤ r ∧ (0 ≤ r → (Sz_TWrite x) ∧ r + ((szN_TWrite x : Nat) : Int) ≤ n) := by
  unfold F_laws_szWrite
  have hw1 : (x.Text.length : Int) ≤ 9223372036854775807 := by have := w.2.1; unfold maxLen at this; omega
  have e1 : w64 (n - (x.Text.length : Int)) = n - x.Text.length := w64_id (by omega) (by omega)
  simp only [e1]
  generalize hr1 : n - (x.Text.length : Int) = r1
  by_cases c1 : r1 < 0
  · rw [if_pos (by simpa using c1)]; exact ⟨-1, rfl, by omega, by omega, fun h => absurd h (by omega)⟩
  rw [if_neg (by simpa using c1)]
  exact ⟨_, rfl, by omega, by omega, fun _ => ⟨⟨by omega⟩, by unfold szN_TWrite; omega⟩⟩
theorem p_laws_szWriteS {x : List TWrite} {n : Int} (w : (x.length ≤ maxLen ∧ ∀ a ∈ x, wf_TWrite a)) (h0 : 0 ≤ n) (h1 : n ≤ 1048576) : ∃ r, F_laws_szWriteS x n = some r ∧ r ≤ n ∧ -1 ≤ r ∧ (0 ≤ r → (x.length ≤ 1048576 ∧ ∀ y ∈ x, Sz_TWrite y) ∧ r + ((x.length + (x.map fun y => szN_TWrite y).sum : Nat) : Int) ≤ n) := by
  unfold F_laws_szWriteS
  have hw : (x.length : Int) ≤ 9223372036854775807 := by have := w.1; unfold maxLen at this; omega
  have e0 : w64 (n - (x.length : Int)) = n - x.length := w64_id (by omega) (by omega)
  rw [e0]
  by_cases c0 : n - (x.length : Int) < 0
  · rw [if_pos (by simpa using c0)]; exact ⟨-1, rfl, by omega, by omega, fun h => absurd h (by omega)⟩
  rw [if_neg (by simpa using c0)]
  have hl : x.length < 9223372036854775807 := by omega
  have key := iter_ex (step := S_laws_szWriteS_1 x) x.length (fun i st => ∃ m : Int, st = (m, (i : Int)) ∧ 0 ≤ m ∧ m + ((((x.take i).map fun y => szN_TWrite y).sum : Nat) : Int) ≤ n - x.length ∧ ∀ (j : Nat) y, j < i → x[j]? = some y → Sz_TWrite y) (fun o : Int ⊕ Int => match o with | .inl r => r = -1 | .inr r => r + x.length + (((x.map fun y => szN_TWrite y).sum : Nat) : Int) ≤ n ∧ 0 ≤ r ∧ ∀ y ∈ x, Sz_TWrite y) ?_ ?_ (n - x.length, 0) ⟨_, rfl, by omega, by simp, by simp⟩
  · obtain ⟨r, h2, h3⟩ := key
    rw [h2]
    cases r with
    | inl r => simp only at h3; subst h3; exact ⟨-1, rfl, by omega, by omega, fun h => absurd h (by omega)⟩
    | inr r => exact ⟨r, rfl, by have := h3.1; omega, by have := h3.2.1; omega, fun _ => ⟨⟨by have := h3.1; omega, h3.2.2⟩, by have := h3.1; omega⟩⟩
  · rintro i _ hi ⟨m, rfl, hm0, hm1, hj⟩
    have hsum : ((x.take (i + 1)).map fun y => szN_TWrite y).sum = ((x.take i).map fun y => szN_TWrite y).sum + (szN_TWrite (x[i])) := by rw [List.take_succ_eq_append_getElem hi, List.map_append, List.sum_append]; simp
    unfold S_laws_szWriteS_1
    simp only [dlt hi, if_true, at?_nat hi, Option.bind_some, w64_succ (show i < 9223372036854775807 by omega)]
    obtain ⟨r, h2, h3, h4, h5⟩ := p_laws_szWrite (x := x[i]) (n := m) (w.2 _ (List.getElem_mem hi)) hm0 (by omega)
    simp only [h2, Option.bind_some]
    by_cases c1 : r < 0
    · exact .inr ⟨.inl (-1), by simp [c1], rfl⟩
    have h6 := h5 (by omega)
    refine .inl ⟨(r, ((i + 1 : Nat) : Int)), by simp [c1], r, rfl, by omega, by rw [hsum]; have := h6.2; omega, ?_⟩
    intro j y hj1 hj2
    by_cases e : j = i
    · subst e; rw [List.getElem?_eq_getElem hi] at hj2; cases hj2; exact h6.1
    · exact hj j y (by omega) hj2
  · rintro _ ⟨m, rfl, hm0, hm1, hj⟩
    rw [List.take_length] at hm1
    refine ⟨.inr m, by unfold S_laws_szWriteS_1; simp, by show m + _ + _ ≤ n; omega, hm0, fun y hy => ?_⟩
    obtain ⟨j, hj2⟩ := List.getElem?_of_mem hy
    exact hj j y (List.getElem?_eq_some_iff.1 hj2).1 hj2
theorem p_laws_szDisk {x : TDisk} {n : Int} (w : wf_TDisk x) (h0 : 0 ≤ n) (h1 : n ≤ 1048576) : ∃ r, F_laws_szDisk x n = some r ∧ r ≤ n ∧ -1 ≤ r ∧ (0 ≤ r → (Sz_TDisk x) ∧ r + ((szN_TDisk x : Nat) : Int) ≤ n) := by
  unfold F_laws_szDisk
  obtain ⟨r1, f1, g1, b1, q1⟩ := p_laws_szStringS (x := x.Sectors) (n := n) w.1 (by omega) (by omega)
  simp only [f1, Option.bind_some]
  by_cases c1 : r1 < 0
  · rw [if_pos (by simpa using c1)]; exact ⟨-1, rfl, by omega, by omega, fun h => absurd h (by omega)⟩
  rw [if_neg (by simpa using c1)]
  have a1 := (q1 (by omega)).2
  obtain ⟨r2, f2, g2, b2, q2⟩ := p_laws_szWriteS (x := x.Cache) (n := r1) w.2.1 (by omega) (by omega)
  simp only [f2, Option.bind_some]
  by_cases c2 : r2 < 0
  · rw [if_pos (by simpa using c2)]; exact ⟨-1, rfl, by omega, by omega, fun h => absurd h (by omega)⟩
  rw [if_neg (by simpa using c2)]
  have a2 := (q2 (by omega)).2
  exact ⟨_, rfl, by omega, by omega, fun _ => ⟨⟨(q1 (by omega)).1, (q2 (by omega)).1⟩, by unfold szN_TDisk; omega⟩⟩
theorem p_laws_szRec {x : TRec} {n : Int} (w : wf_TRec x) (h0 : 0 ≤ n) (h1 : n ≤ 1048576) : ∃ r, F_laws_szRec x n = some r ∧ r ≤ n ∧ -1 ≤ r ∧ (0 ≤ r → (Sz_TRec x) ∧ r + ((szN_TRec x : Nat) : Int) ≤ n) := by
  unfold F_laws_szRec
  have hw1 : (x.User.length : Int) ≤ 9223372036854775807 := by have := w.2.2.2.2.2.1; unfold maxLen at this; omega
  have e1 : w64 (n - (x.User.length : Int)) = n - x.User.length := w64_id (by omega) (by omega)
  simp only [e1]
  generalize hr1 : n - (x.User.length : Int) = r1
  by_cases c1 : r1 < 0
  · rw [if_pos (by simpa using c1)]; exact ⟨-1, rfl, by omega, by omega, fun h => absurd h (by omega)⟩
  rw [if_neg (by simpa using c1)]
  have hw2 : (x.Name.length : Int) ≤ 9223372036854775807 := by have := w.2.2.2.2.2.2.1; unfold maxLen at this; omega
  have e2 : w64 (r1 - (x.Name.length : Int)) = r1 - x.Name.length := w64_id (by omega) (by omega)
  simp only [e2]
  generalize hr2 : r1 - (x.Name.length : Int) = r2
  by_cases c2 : r2 < 0
  · rw [if_pos (by simpa using c2)]; exact ⟨-1, rfl, by omega, by omega, fun h => absurd h (by omega)⟩
  rw [if_neg (by simpa using c2)]
  have hw3 : (x.Text.length : Int) ≤ 9223372036854775807 := by have := w.2.2.2.2.2.2.2.1; unfold maxLen at this; omega
  have e3 : w64 (r2 - (x.Text.length : Int)) = r2 - x.Text.length := w64_id (by omega) (by omega)
  simp only [e3]
  generalize hr3 : r2 - (x.Text.length : Int) = r3
  by_cases c3 : r3 < 0
  · rw [if_pos (by simpa using c3)]; exact ⟨-1, rfl, by omega, by omega, fun h => absurd h (by omega)⟩
  rw [if_neg (by simpa using c3)]
  exact ⟨_, rfl, by omega, by omega, fun _ => ⟨⟨by omega, by omega, by omega⟩, by unfold szN_TRec; omega⟩⟩
theorem p_laws_szItem {x : TItem} {n : Int} (w : wf_TItem x) (h0 : 0 ≤ n) (h1 : n ≤ 1048576) : ∃ r, F_laws_szItem x n = some r ∧ r ≤ n ∧ -1 ≤ r ∧ (0 ≤ r → (Sz_TItem x) ∧ r + ((szN_TItem x : Nat) : Int) ≤ n) := by
  unfold F_laws_szItem
  obtain ⟨r1, f1, g1, b1, q1⟩ := p_laws_szRec (x := x.Rec) (n := n) w.2.1 (by omega) (by omega)
  simp only [f1, Option.bind_some]
  by_cases c1 : r1 < 0
  · rw [if_pos (by simpa using c1)]; exact ⟨-1, rfl, by omega, by omega, fun h => absurd h (by omega)⟩
  rw [if_neg (by simpa using c1)]
  have a1 := (q1 (by omega)).2
  exact ⟨_, rfl, by omega, by omega, fun _ => ⟨⟨(q1 (by omega)).1⟩, by unfold szN_TItem; omega⟩⟩
theorem p_laws_szItemS {x : List TItem} {n : Int} (w : (x.length ≤ maxLen ∧ ∀ a ∈ x, wf_TItem a)) (h0 : 0 ≤ n) (h1 : n ≤ 1048576) : ∃ r, F_laws_szItemS x n = some r ∧ r ≤ n ∧ -1 ≤ r ∧ (0 ≤ r → (x.length ≤ 1048576 ∧ ∀ y ∈ x, Sz_TItem y) ∧ r + ((x.length + (x.map fun y => szN_TItem y).sum : Nat) : Int) ≤ n) := by
  unfold F_laws_szItemS
  have hw : (x.length : Int) ≤ 9223372036854775807 := by have := w.1; unfold maxLen at this; omega
  have e0 : w64 (n - (x.length : Int)) = n - x.length := w64_id (by omega) (by omega)
  rw [e0]
  by_cases c0 : n - (x.length : Int) < 0
  · rw [if_pos (by simpa using c0)]; exact ⟨-1, rfl, by omega, by omega, fun h => absurd h (by omega)⟩
  rw [if_neg (by simpa using c0)]
  have hl : x.length < 9223372036854775807 := by omega
  have key := iter_ex (step := S_laws_szItemS_1 x) x.length (fun i st => ∃ m : Int, st = (m, (i : Int)) ∧ 0 ≤ m ∧ m + ((((x.take i).map fun y => szN_TItem y).sum : Nat) : Int) ≤ n - x.length ∧ ∀ (j : Nat) y, j < i → x[j]? = some y → Sz_TItem y) (fun o : Int ⊕ Int => match o with | .inl r => r = -1 | .inr r => r + x.length + (((x.map fun y => szN_TItem y).sum : Nat) : Int) ≤ n ∧ 0 ≤ r ∧ ∀ y ∈ x, Sz_TItem y) ?_ ?_ (n - x.length, 0) ⟨_, rfl, by omega, by simp, by simp⟩
  · obtain ⟨r, h2, h3⟩ := key
    rw [h2]
    cases r with
    | inl r => simp only at h3; subst h3; exact ⟨-1, rfl, by omega, by omega, fun h => absurd h (by omega)⟩
    | inr r => exact ⟨r, rfl, by have := h3.1; omega, by have := h3.2.1; omega, fun _ => ⟨⟨by have := h3.1; omega, h3.2.2⟩, by have := h3.1; omega⟩⟩
  · rintro i _ hi ⟨m, rfl, hm0, hm1, hj⟩
    have hsum : ((x.take (i + 1)).map fun y => szN_TItem y).sum = ((x.take i).map fun y => szN_TItem y).sum + (szN_TItem (x[i])) := by rw [List.take_succ_eq_append_getElem hi, List.map_append, List.sum_append]; simp
    unfold S_laws_szItemS_1
    simp only [dlt hi, if_true, at?_nat hi, Option.bind_some, w64_succ (show i < 9223372036854775807 by omega)]
    obtain ⟨r, h2, h3, h4, h5⟩ := p_laws_szItem (x := x[i]) (n := m) (w.2 _ (List.getElem_mem hi)) hm0 (by omega)
    simp only [h2, Option.bind_some]
    by_cases c1 : r < 0
    · exact .inr ⟨.inl (-1), by simp [c1], rfl⟩
    have h6 := h5 (by omega)
    refine .inl ⟨(r, ((i + 1 : Nat) : Int)), by simp [c1], r, rfl, by omega, by rw [hsum]; have := h6.2; omega, ?_⟩
    intro j y hj1 hj2
    by_cases e : j = i
    · subst e; rw [List.getElem?_eq_getElem hi] at hj2; cases hj2; exact h6.1
    · exact hj j y (by omega) hj2
  · rintro _ ⟨m, rfl, hm0, hm1, hj⟩
    rw [List.take_length] at hm1
    refine ⟨.inr m, by unfold S_laws_szItemS_1; simp, by show m + _ + _ ≤ n; omega, hm0, fun y hy => ?_⟩
    obtain ⟨j, hj2⟩ := List.getElem?_of_mem hy
    exact hj j y (List.getElem?_eq_some_iff.1 hj2).1 hj2
theorem p_laws_szSeg {x : TSeg} {n : Int} (w : wf_TSeg x) (h0 : 0 ≤ n) (h1 : n ≤ 1048576) : ∃ r, F_laws_szSeg x n = some r ∧ r ≤ n ∧ -1 ≤ r ∧ (0 ≤ r → (Sz_TSeg x) ∧ r + ((szN_TSeg x : Nat) : Int) ≤ n) := by
  unfold F_laws_szSeg
  obtain ⟨r1, f1, g1, b1, q1⟩ := p_laws_szItemS (x := x.Items) (n := n) w.2.2.2.1 (by omega) (by omega)
  simp only [f1, Option.bind_some]
  by_cases c1 : r1 < 0
  · rw [if_pos (by simpa using c1)]; exact ⟨-1, rfl, by omega, by omega, fun h => absurd h (by omega)⟩
  rw [if_neg (by simpa using c1)]
  have a1 := (q1 (by omega)).2
  exact ⟨_, rfl, by omega, by omega, fun _ => ⟨⟨(q1 (by omega)).1⟩, by unfold szN_TSeg; omega⟩⟩
theorem p_laws_szSegS {x : List TSeg} {n : Int} (w : (x.length ≤ maxLen ∧ ∀ a ∈ x, wf_TSeg a)) (h0 : 0 ≤ n) (h1 : n ≤ 1048576) : ∃ r, F_laws_szSegS x n = some r ∧ r ≤ n ∧ -1 ≤ r ∧ (0 ≤ r → (x.length ≤ 1048576 ∧ ∀ y ∈ x, Sz_TSeg y) ∧ r + ((x.length + (x.map fun y => szN_TSeg y).sum : Nat) : Int) ≤ n) := by
  unfold F_laws_szSegS
  have hw : (x.length : Int) ≤ 9223372036854775807 := by have := w.1; unfold maxLen at this; omega
  have e0 : w64 (n - (x.length : Int)) = n - x.length := w64_id (by omega) (by omega)
  rw [e0]
  by_cases c0 : n - (x.length : Int) < 0
  · rw [if_pos (by simpa using c0)]; exact ⟨-1, rfl, by omega, by omega, fun h => absurd h (by omega)⟩
  rw [if_neg (by simpa using c0)]
  have hl : x.length < 9223372036854775807 := by omega
  have key := iter_ex (step := S_laws_szSegS_1 x) x.length (fun i st => ∃ m : Int, st = (m, (i : Int)) ∧ 0 ≤ m ∧ m + ((((x.take i).map fun y => szN_TSeg y).sum : Nat) : Int) ≤ n - x.length ∧ ∀ (j : Nat) y, j < i → x[j]? = some y → Sz_TSeg y) (fun o : Int ⊕ Int => match o with | .inl r => r = -1 | .inr r => r + x.length + (((x.map fun y => szN_TSeg y).sum : Nat) : Int) ≤ n ∧ 0 ≤ r ∧ ∀ y ∈ x, Sz_TSeg y) ?_ ?_ (n - x.length, 0) ⟨_, rfl, by omega, by simp, by simp⟩
  · obtain ⟨r, h2, h3⟩ := key
    rw [h2]
    cases r with
    | inl r => simp only at h3; subst h3; exact ⟨-1, rfl, by omega, by omega, fun h => absurd h (by omega)⟩
    | inr r => exact ⟨r, rfl, by have := h3.1; omega, by have := h3.2.1; omega, fun _ => ⟨⟨by have := h3.1; omega, h3.2.2⟩, by have := h3.1; omega⟩⟩
  · rintro i _ hi ⟨m, rfl, hm0, hm1, hj⟩
    have hsum : ((x.take (i + 1)).map fun y => szN_TSeg y).sum = ((x.take i).map fun y => szN_TSeg y).sum + (szN_TSeg (x[i])) := by rw [List.take_succ_eq_append_getElem hi, List.map_append, List.sum_append]; simp
    unfold S_laws_szSegS_1
    simp only [dlt hi, if_true, at?_nat hi, Option.bind_some, w64_succ (show i < 9223372036854775807 by omega)]
    obtain ⟨r, h2, h3, h4, h5⟩ := p_laws_szSeg (x := x[i]) (n := m) (w.2 _ (List.getElem_mem hi)) hm0 (by omega)
    simp only [h2, Option.bind_some]
    by_cases c1 : r < 0
    · exact .inr ⟨.inl (-1), by simp [c1], rfl⟩
    have h6 := h5 (by omega)
    refine .inl ⟨(r, ((i + 1 : Nat) : Int)), by simp [c1], r, rfl, by omega, by rw [hsum]; have := h6.2; omega, ?_⟩
    intro j y hj1 hj2
    by_cases e : j = i
    · subst e; rw [List.getElem?_eq_getElem hi] at hj2; cases hj2; exact h6.1
    · exact hj j y (by omega) hj2
  · rintro _ ⟨m, rfl, hm0, hm1, hj⟩
    rw [List.take_length] at hm1
    refine ⟨.inr m, by unfold S_laws_szSegS_1; simp, by show m + _ + _ ≤ n; omega, hm0, fun y hy => ?_⟩
    obtain ⟨j, hj2⟩ := List.getElem?_of_mem hy
    exact hj j y (List.getElem?_eq_some_iff.1 hj2).1 hj2
theorem p_laws_szLog {x : TLog} {n : Int} (w : wf_TLog x) (h0 : 0 ≤ n) (h1 : n ≤ 1048576) : ∃ r, F_laws_szLog x n = some r ∧ r ≤ n ∧ -1 ≤ r ∧ (0 ≤ r → (Sz_TLog x) ∧ r + ((szN_TLog x : Nat) : Int) ≤ n) := by
  unfold F_laws_szLog
  obtain ⟨r1, f1, g1, b1, q1⟩ := p_laws_szDisk (x := x.Disk) (n := n) w.1 (by omega) (by omega)
  simp only [f1, Option.bind_some]
  by_cases c1 : r1 < 0
  · rw [if_pos (by simpa using c1)]; exact ⟨-1, rfl, by omega, by omega, fun h => absurd h (by omega)⟩
  rw [if_neg (by simpa using c1)]
  have a1 := (q1 (by omega)).2
  obtain ⟨r2, f2, g2, b2, q2⟩ := p_laws_szSegS (x := x.Used) (n := r1) w.2.2.1 (by omega) (by omega)
  simp only [f2, Option.bind_some]
  by_cases c2 : r2 < 0
  · rw [if_pos (by simpa using c2)]; exact ⟨-1, rfl, by omega, by omega, fun h => absurd h (by omega)⟩
  rw [if_neg (by simpa using c2)]
  have a2 := (q2 (by omega)).2
  exact ⟨_, rfl, by omega, by omega, fun _ => ⟨⟨(q1 (by omega)).1, (q2 (by omega)).1⟩, by unfold szN_TLog; omega⟩⟩
theorem p_laws_toStringS {x : List (List UInt8)} (h : x.length ≤ 1048576 ∧ ∀ y ∈ x, y.length ≤ 1048576) : F_laws_toStringS x = some x := by
  unfold F_laws_toStringS
  have hl := h.1
  rw [mk?_ok (by omega) (by omega), Option.bind_some, to_loop (step := S_laws_toStringS_1 x) (by omega)]
  · rfl
  · intro i hi m hm
    unfold S_laws_toStringS_1
    simp only [dlt hi, if_true, at?_nat hi, at?_nat (show i < m.length by omega), Option.bind_some, set'_nat, w64_succ (show i < 9223372036854775807 by omega)]
  · intro m
    unfold S_laws_toStringS_1
    simp
theorem p_laws_toWrite {x : TWrite} (h : Sz_TWrite x) : F_laws_toWrite x = some x := by
  unfold F_laws_toWrite
  rfl
theorem p_laws_toWriteS {x : List TWrite} (h : x.length ≤ 1048576 ∧ ∀ y ∈ x, Sz_TWrite y) : F_laws_toWriteS x = some x := by
  unfold F_laws_toWriteS
  have hl := h.1
  rw [mk?_ok (by omega) (by omega), Option.bind_some, to_loop (step := S_laws_toWriteS_1 x) (by omega)]
  · rfl
  · intro i hi m hm
    unfold S_laws_toWriteS_1
    have he := p_laws_toWrite (x := x[i]) (h.2 _ (List.getElem_mem hi))
    simp only [dlt hi, if_true, at?_nat hi, at?_nat (show i < m.length by omega), Option.bind_some, set'_nat, w64_succ (show i < 9223372036854775807 by omega), he]
  · intro m
    unfold S_laws_toWriteS_1
    simp
theorem p_laws_toDisk {x : TDisk} (h : Sz_TDisk x) : F_laws_toDisk x = some x := by
  unfold F_laws_toDisk
  simp only [p_laws_toStringS (x := x.Sectors) h.sSectors, p_laws_toWriteS (x := x.Cache) h.sCache, Option.bind_some]
theorem p_laws_toRec {x : TRec} (h : Sz_TRec x) : F_laws_toRec x = some x := by
  unfold F_laws_toRec
  rfl
theorem p_laws_toItem {x : TItem} (h : Sz_TItem x) : F_laws_toItem x = some x := by
  unfold F_laws_toItem
  simp only [p_laws_toRec (x := x.Rec) h.sRec, Option.bind_some]
theorem p_laws_toItemS {x : List TItem} (h : x.length ≤ 1048576 ∧ ∀ y ∈ x, Sz_TItem y) : F_laws_toItemS x = some x := by
  unfold F_laws_toItemS
  have hl := h.1
  rw [mk?_ok (by omega) (by omega), Option.bind_some, to_loop (step := S_laws_toItemS_1 x) (by omega)]
  · rfl
  · intro i hi m hm
    unfold S_laws_toItemS_1
    have he := p_laws_toItem (x := x[i]) (h.2 _ (List.getElem_mem hi))
    simp only [dlt hi, if_true, at?_nat hi, at?_nat (show i < m.length by omega), Option.bind_some, set'_nat, w64_succ (show i < 9223372036854775807 by omega), he]
  · intro m
    unfold S_laws_toItemS_1
    simp
theorem p_laws_toSeg {x : TSeg} (h : Sz_TSeg x) : F_laws_toSeg x = some x := by
  unfold F_laws_toSeg
  simp only [p_laws_toItemS (x := x.Items) h.sItems, Option.bind_some]
theorem p_laws_toSegS {x : List TSeg} (h : x.length ≤ 1048576 ∧ ∀ y ∈ x, Sz_TSeg y) : F_laws_toSegS x = some x := by
  unfold F_laws_toSegS
  have hl := h.1
  rw [mk?_ok (by omega) (by omega), Option.bind_some, to_loop (step := S_laws_toSegS_1 x) (by omega)]
  · rfl
  · intro i hi m hm
    unfold S_laws_toSegS_1
    have he := p_laws_toSeg (x := x[i]) (h.2 _ (List.getElem_mem hi))
    simp only [dlt hi, if_true, at?_nat hi, at?_nat (show i < m.length by omega), Option.bind_some, set'_nat, w64_succ (show i < 9223372036854775807 by omega), he]
  · intro m
    unfold S_laws_toSegS_1
    simp
theorem p_laws_toLog {x : TLog} (h : Sz_TLog x) : F_laws_toLog x = some x := by
  unfold F_laws_toLog
  simp only [p_laws_toDisk (x := x.Disk) h.sDisk, p_laws_toSegS (x := x.Used) h.sUsed, Option.bind_some]
theorem p_laws_eqStringS {x : List (List UInt8)} (h : x.length ≤ 1048576 ∧ ∀ y ∈ x, y.length ≤ 1048576) : F_laws_eqStringS x x = some true := by
  unfold F_laws_eqStringS
  have hl := h.1
  have key : iter (S_laws_eqStringS_1 x x) 0 = some (.inr ()) := by
    refine iter_range (fun i => (i : Int)) x.length ?_ ?_
    · intro i hi
      unfold S_laws_eqStringS_1
      simp only [dlt hi, if_true, at?_nat hi, Option.bind_some, w64_succ (show i < 9223372036854775807 by omega)]
      try simp
    · unfold S_laws_eqStringS_1
      simp
  rw [key]
  simp
theorem p_laws_eqWrite {x : TWrite} (h : Sz_TWrite x) : F_laws_eqWrite x x = some true := by
  unfold F_laws_eqWrite
  simp []
theorem p_laws_eqWriteS {x : List TWrite} (h : x.length ≤ 1048576 ∧ ∀ y ∈ x, Sz_TWrite y) : F_laws_eqWriteS x x = some true := by
  unfold F_laws_eqWriteS
  have hl := h.1
  have key : iter (S_laws_eqWriteS_1 x x) 0 = some (.inr ()) := by
    refine iter_range (fun i => (i : Int)) x.length ?_ ?_
    · intro i hi
      unfold S_laws_eqWriteS_1
      have he := p_laws_eqWrite (x := x[i]) (h.2 _ (List.getElem_mem hi))
      simp only [dlt hi, if_true, at?_nat hi, Option.bind_some, w64_succ (show i < 9223372036854775807 by omega), he]
      try simp
    · unfold S_laws_eqWriteS_1
      simp
  rw [key]
  simp
theorem p_laws_eqDisk {x : TDisk} (h : Sz_TDisk x) : F_laws_eqDisk x x = some true := by
  unfold F_laws_eqDisk
  simp [p_laws_eqStringS (x := x.Sectors) h.sSectors, p_laws_eqWriteS (x := x.Cache) h.sCache]
theorem p_laws_eqRec {x : TRec} (h : Sz_TRec x) : F_laws_eqRec x x = some true := by
  unfold F_laws_eqRec
  simp []
theorem p_laws_eqItem {x : TItem} (h : Sz_TItem x) : F_laws_eqItem x x = some true := by
  unfold F_laws_eqItem
  simp [p_laws_eqRec (x := x.Rec) h.sRec]
theorem p_laws_eqItemS {x : List TItem} (h : x.length ≤ 1048576 ∧ ∀ y ∈ x, Sz_TItem y) : F_laws_eqItemS x x = some true := by
  unfold F_laws_eqItemS
  have hl := h.1
  have key : iter (S_laws_eqItemS_1 x x) 0 = some (.inr ()) := by
    refine iter_range (fun i => (i : Int)) x.length ?_ ?_
    · intro i hi
      unfold S_laws_eqItemS_1
      have he := p_laws_eqItem (x := x[i]) (h.2 _ (List.getElem_mem hi))
      simp only [dlt hi, if_true, at?_nat hi, Option.bind_some, w64_succ (show i < 9223372036854775807 by omega), he]
      try simp
    · unfold S_laws_eqItemS_1
      simp
  rw [key]
  simp
theorem p_laws_eqSeg {x : TSeg} (h : Sz_TSeg x) : F_laws_eqSeg x x = some true := by
  unfold F_laws_eqSeg
  simp [p_laws_eqItemS (x := x.Items) h.sItems]
theorem p_laws_eqSegS {x : List TSeg} (h : x.length ≤ 1048576 ∧ ∀ y ∈ x, Sz_TSeg y) : F_laws_eqSegS x x = some true := by
  unfold F_laws_eqSegS
  have hl := h.1
  have key : iter (S_laws_eqSegS_1 x x) 0 = some (.inr ()) := by
    refine iter_range (fun i => (i : Int)) x.length ?_ ?_
    · intro i hi
      unfold S_laws_eqSegS_1
      have he := p_laws_eqSeg (x := x[i]) (h.2 _ (List.getElem_mem hi))
      simp only [dlt hi, if_true, at?_nat hi, Option.bind_some, w64_succ (show i < 9223372036854775807 by omega), he]
      try simp
    · unfold S_laws_eqSegS_1
      simp
  rw [key]
  simp
theorem p_laws_eqLog {x : TLog} (h : Sz_TLog x) : F_laws_eqLog x x = some true := by
  unfold F_laws_eqLog
  simp [p_laws_eqDisk (x := x.Disk) h.sDisk, p_laws_eqSegS (x := x.Used) h.sUsed]
noncomputable def mk_laws_markItemS_w (m : Nat) (_ : TItem) : TItem := ({ Seq := ((m : Nat) : Int), Rec := ({ Kind := ((m + 1 : Nat) : Int), Valid := ((m + 2 : Nat) : Int), Uid := ((m + 3 : Nat) : Int), Next := ((m + 4 : Nat) : Int), Flags := ((m + 5 : Nat) : Int), User := mt (m + 6), Name := mt (m + 7), Text := mt (m + 8) } : TRec) } : TItem)
theorem p_laws_markItemS_w {l : List TItem} {m0 : Nat} (hl : l.length ≤ 1048576) (hm0 : m0 ≤ 1125899906842624) : F_laws_markItemS_w l (m0 : Int) = some (((m0 + 9 * l.length : Nat) : Int), l.mapIdx fun i x => mk_laws_markItemS_w (m0 + 9 * i) x) := by
  unfold F_laws_markItemS_w
  rw [mark_loop (step := S_laws_markItemS_w_1) (k := 9) (g := mk_laws_markItemS_w) (l := l) ?_ ?_]
  · rfl
  · intro i m l' h hi hm
    unfold S_laws_markItemS_w_1
    simp only [dlt h, if_true, at?_nat h, at?_set h, Option.bind_some, set'_nat, List.set_set, w64_succ (show i < 9223372036854775807 by omega), w64_succ (show m < 9223372036854775807 by omega), w64_succ (n := m + 1) (by omega), w64_succ (n := m + 2) (by omega), w64_succ (n := m + 3) (by omega), w64_succ (n := m + 4) (by omega), w64_succ (n := m + 5) (by omega), w64_succ (n := m + 6) (by omega), w64_succ (n := m + 7) (by omega), w64_succ (n := m + 8) (by omega), p_laws_markText (show m + 6 < 4611686018427387904 by omega), p_laws_markText (show m + 7 < 4611686018427387904 by omega), p_laws_markText (show m + 8 < 4611686018427387904 by omega)]
    try rfl
  · intro m l' hl'
    unfold S_laws_markItemS_w_1
    simp [hl']
noncomputable def mk_laws_markStringS_w (m : Nat) (_ : List UInt8) : List UInt8 := mt (m)
theorem p_laws_markStringS_w {l : List (List UInt8)} {m0 : Nat} (hl : l.length ≤ 1048576) (hm0 : m0 ≤ 1125899906842624) : F_laws_markStringS_w l (m0 : Int) = some (((m0 + 1 * l.length : Nat) : Int), l.mapIdx fun i x => mk_laws_markStringS_w (m0 + 1 * i) x) := by
  unfold F_laws_markStringS_w
  rw [mark_loop (step := S_laws_markStringS_w_1) (k := 1) (g := mk_laws_markStringS_w) (l := l) ?_ ?_]
  · rfl
  · intro i m l' h hi hm
    unfold S_laws_markStringS_w_1
    simp only [dlt h, if_true, at?_nat h, at?_set h, Option.bind_some, set'_nat, List.set_set, w64_succ (show i < 9223372036854775807 by omega), w64_succ (show m < 9223372036854775807 by omega), p_laws_markText (show m < 4611686018427387904 by omega)]
    try rfl
  · intro m l' hl'
    unfold S_laws_markStringS_w_1
    simp [hl']
noncomputable def mk_laws_markWriteS_w (m : Nat) (_ : TWrite) : TWrite := ({ At := ((m : Nat) : Int), Text := mt (m + 1) } : TWrite)
theorem p_laws_markWriteS_w {l : List TWrite} {m0 : Nat} (hl : l.length ≤ 1048576) (hm0 : m0 ≤ 1125899906842624) : F_laws_markWriteS_w l (m0 : Int) = some (((m0 + 2 * l.length : Nat) : Int), l.mapIdx fun i x => mk_laws_markWriteS_w (m0 + 2 * i) x) := by
  unfold F_laws_markWriteS_w
  rw [mark_loop (step := S_laws_markWriteS_w_1) (k := 2) (g := mk_laws_markWriteS_w) (l := l) ?_ ?_]
  · rfl
  · intro i m l' h hi hm
    unfold S_laws_markWriteS_w_1
    simp only [dlt h, if_true, at?_nat h, at?_set h, Option.bind_some, set'_nat, List.set_set, w64_succ (show i < 9223372036854775807 by omega), w64_succ (show m < 9223372036854775807 by omega), w64_succ (n := m + 1) (by omega), p_laws_markText (show m + 1 < 4611686018427387904 by omega)]
    try rfl
  · intro m l' hl'
    unfold S_laws_markWriteS_w_1
    simp [hl']
noncomputable def mk_laws_markSegS_w (m : Nat) (x : TSeg) : TSeg := ({ No := ((m : Nat) : Int), Gen := ((m + 1 : Nat) : Int), End := ((m + 1 + 1 : Nat) : Int), Items := (x.Items.mapIdx fun i y => mk_laws_markItemS_w (m + 1 + 1 + 1 + 9 * i) y) } : TSeg)
def cn_laws_markSegS_w (x : TSeg) : Nat := 1 + 1 + 1 + 9 * x.Items.length
theorem b_laws_markSegS_w {l : List TSeg} (hh : l.length ≤ 1048576 ∧ ∀ y ∈ l, Sz_TSeg y) : ∀ x ∈ l, cn_laws_markSegS_w x ≤ 9437187 := by
  intro x hx
  have hs := hh.2 x hx
  have q3 : x.Items.length ≤ 1048576 := hs.sItems.1
  unfold cn_laws_markSegS_w
  omega
theorem p_laws_markSegS_w {l : List TSeg} {m0 : Nat} (hh : l.length ≤ 1048576 ∧ ∀ y ∈ l, Sz_TSeg y) (hm0 : m0 ≤ 1099511627776) : F_laws_markSegS_w l (m0 : Int) = some (((m0 + cnL cn_laws_markSegS_w l : Nat) : Int), mkL mk_laws_markSegS_w cn_laws_markSegS_w m0 l) := by
  have hl := hh.1
  unfold F_laws_markSegS_w
  rw [mark_loop2 (step := S_laws_markSegS_w_1) (mk1 := mk_laws_markSegS_w) (cn1 := cn_laws_markSegS_w) (l := l) (b_laws_markSegS_w hh) ?_ ?_]
  · rfl
  · intro i m l' x h hi hx hlx hm
    have hs := hh.2 x hx
    have ec : m + cn_laws_markSegS_w x = m + 1 + 1 + 1 + 9 * x.Items.length := by unfold cn_laws_markSegS_w; omega
    have q3 : x.Items.length ≤ 1048576 := hs.sItems.1
    have u3 : guardO (fun r : Int × (List TItem) => x.Items.length = r.2.length) (F_laws_markItemS_w x.Items ((m + 1 + 1 + 1 : Nat) : Int)) = some _ := guardO_of (p_laws_markItemS_w (m0 := m + 1 + 1 + 1) q3 (by omega)) (by simp)
    unfold S_laws_markSegS_w_1
    simp only [dlt h, if_true, at?_nat h, hlx, at?_set h, Option.bind_some, set'_nat, List.set_set, w64_succ (show i < 9223372036854775807 by omega), w64_succ (n := m) (by omega), w64_succ (n := m + 1) (by omega), w64_succ (n := m + 1 + 1) (by omega), u3]
    rw [ec]
    try rfl
  · intro m l' hl'
    unfold S_laws_markSegS_w_1
    simp [hl']
theorem p_laws_eqRef {x : TRef} : F_laws_eqRef x x = some true := by
  unfold F_laws_eqRef
  simp []
theorem p_laws_eqRefS {x : List TRef} (h : x.length ≤ 1048576) : F_laws_eqRefS x x = some true := by
  unfold F_laws_eqRefS
  have hl := h
  have key : iter (S_laws_eqRefS_1 x x) 0 = some (.inr ()) := by
    refine iter_range (fun i => (i : Int)) x.length ?_ ?_
    · intro i hi
      unfold S_laws_eqRefS_1
      have he := p_laws_eqRef (x := x[i])
      simp only [dlt hi, if_true, at?_nat hi, Option.bind_some, w64_succ (show i < 9223372036854775807 by omega), he]
      try simp
    · unfold S_laws_eqRefS_1
      simp
  rw [key]
  simp
theorem p_laws_eqCheck {x : TCheck} (h : Sz_TCheck x) : F_laws_eqCheck x x = some true := by
  unfold F_laws_eqCheck
  simp [p_laws_eqRefS (x := x.Refs) h.sRefs]
noncomputable def mk_laws_markRefS_w (m : Nat) (_ : TRef) : TRef := ({ No := ((m : Nat) : Int), Gen := ((m + 1 : Nat) : Int) } : TRef)
theorem p_laws_markRefS_w {l : List TRef} {m0 : Nat} (hl : l.length ≤ 1048576) (hm0 : m0 ≤ 1125899906842624) : F_laws_markRefS_w l (m0 : Int) = some (((m0 + 2 * l.length : Nat) : Int), l.mapIdx fun i x => mk_laws_markRefS_w (m0 + 2 * i) x) := by
  unfold F_laws_markRefS_w
  rw [mark_loop (step := S_laws_markRefS_w_1) (k := 2) (g := mk_laws_markRefS_w) (l := l) ?_ ?_]
  · rfl
  · intro i m l' h hi hm
    unfold S_laws_markRefS_w_1
    simp only [dlt h, if_true, at?_nat h, at?_set h, Option.bind_some, set'_nat, List.set_set, w64_succ (show i < 9223372036854775807 by omega), w64_succ (show m < 9223372036854775807 by omega), w64_succ (n := m + 1) (by omega)]
    try rfl
  · intro m l' hl'
    unfold S_laws_markRefS_w_1
    simp [hl']
theorem p_laws_heldRefS {l : List TRef} {m0 : Nat} (hl : l.length ≤ 1048576) (hm0 : m0 ≤ 1125899906842624) : F_laws_heldRefS (l.mapIdx fun i x => mk_laws_markRefS_w (m0 + 2 * i) x) (m0 : Int) = some ((m0 + 2 * l.length : Nat) : Int) := by
  unfold F_laws_heldRefS
  rw [held_loop (step := S_laws_heldRefS_1 _) (k := 2) (r := Sum.inr) (l := l.mapIdx fun i x => mk_laws_markRefS_w (m0 + 2 * i) x) (g := mk_laws_markRefS_w) ?_ ?_]
  · simp
  · intro i m h hm
    have hi : i < l.length := by simpa using h
    unfold S_laws_heldRefS_1
    simp only [dlt h, if_true, at?_nat h, List.getElem_mapIdx, ← hm, Option.bind_some, w64_succ (show i < 9223372036854775807 by omega), w64_succ (show m < 9223372036854775807 by omega), w64_succ (n := m + 1) (by omega)]
    simp [mk_laws_markRefS_w, Int.add_assoc]
  · intro m
    unfold S_laws_heldRefS_1
    simp
end Go.Proofs.Ytgdcbjoaoagbpaa.V
/- Marks of disks and logs. -/
namespace Go.Proofs.Ytgdcbjoaoagbpaa.V
open Go Go.RowKit
set_option maxRecDepth 100000

theorem mark_disk {s : List (List UInt8)} {c : List TWrite} {m0 : Nat} (hs : s.length ≤ 1048576) (hc : c.length ≤ 1048576) (hm : m0 ≤ 1000000000000) :
    guardO (fun r : Int × List (List UInt8) × List TWrite => s.length = r.2.1.length ∧ c.length = r.2.2.length) (F_laws_markDisk_w s c (m0 : Int)) = some (((m0 + 1 * s.length + 2 * c.length : Nat) : Int), (s.mapIdx fun i x => mk_laws_markStringS_w (m0 + 1 * i) x), (c.mapIdx fun i x => mk_laws_markWriteS_w (m0 + 1 * s.length + 2 * i) x)) := by
  have m1 : guardO (fun r : Int × List (List UInt8) => s.length = r.2.length) (F_laws_markStringS_w s (m0 : Int)) = some _ := guardO_of (p_laws_markStringS_w hs (by omega)) (by simp)
  have m2 : guardO (fun r : Int × List TWrite => c.length = r.2.length) (F_laws_markWriteS_w c ((m0 + 1 * s.length : Nat) : Int)) = some _ := guardO_of (p_laws_markWriteS_w hc (by omega)) (by simp)
  refine guardO_of ?_ (by simp)
  unfold F_laws_markDisk_w
  rw [m1, Option.bind_some, m2]; rfl
end Go.Proofs.Ytgdcbjoaoagbpaa.V
/- Marks of logs. -/
namespace Go.Proofs.Ytgdcbjoaoagbpaa.V
open Go Go.RowKit
set_option maxRecDepth 100000
theorem mark_log {x : TLog} (h : Sz_TLog x) : ∃ (m : Nat) (r' : List (List UInt8) × List TWrite × List TSeg),
    guardO (fun r : Int × List (List UInt8) × List TWrite × List TSeg => x.Disk.Sectors.length = r.2.1.length ∧ x.Disk.Cache.length = r.2.2.1.length ∧ x.Used.length = r.2.2.2.length) (F_laws_markLog_w x.Disk.Sectors x.Disk.Cache x.Segs x.Used x.NextGen x.NextSeq x.Stamp x.NextValid 1) = some ((m : Int), r') := by
  have hs := h.sDisk.sSectors.1
  have hc := h.sDisk.sCache.1
  have m1 := mark_disk (s := x.Disk.Sectors) (c := x.Disk.Cache) (m0 := 1) hs hc (by omega)
  have m2 : guardO (fun r : Int × List TSeg => x.Used.length = r.2.length) (F_laws_markSegS_w x.Used ((1 + 1 * x.Disk.Sectors.length + 2 * x.Disk.Cache.length : Nat) : Int)) = some _ := guardO_of (p_laws_markSegS_w h.sUsed (by omega)) (by simp [mkL_len])
  have e : ∃ q : Int × List (List UInt8) × List TWrite × List TSeg, F_laws_markLog_w x.Disk.Sectors x.Disk.Cache x.Segs x.Used x.NextGen x.NextSeq x.Stamp x.NextValid 1 = some q ∧ (∃ m : Nat, q.1 = m) ∧ (x.Disk.Sectors.length = q.2.1.length ∧ x.Disk.Cache.length = q.2.2.1.length ∧ x.Used.length = q.2.2.2.length) := by
    unfold F_laws_markLog_w
    rw [show ((1 : Nat) : Int) = 1 from rfl] at m1
    rw [m1, Option.bind_some, m2, Option.bind_some]
    exact ⟨_, rfl, ⟨_, rfl⟩, by simp [mkL_len]⟩
  obtain ⟨q, e1, ⟨m, e2⟩, e3⟩ := e
  exact ⟨m, q.2, by rw [← e2]; exact guardO_of e1 e3⟩
end Go.Proofs.Ytgdcbjoaoagbpaa.V
/- The check of a log. -/
namespace Go.Proofs.Ytgdcbjoaoagbpaa.V
open Go Go.RowKit
set_option maxRecDepth 100000

def refOf (s : TSeg) : TRef := { No := s.No, Gen := s.Gen }
def checkOf (g : TLog) : TCheck := { Stamp := w64 (g.Stamp + 1), NextGen := g.NextGen, NextSeq := g.NextSeq, NextValid := g.NextValid, Refs := g.Used.map refOf }
theorem refs_loop {g : TLog} (h : g.Used.length ≤ 1048576) {step : Int × List TRef → Option ((Int × List TRef) ⊕ List TRef)}
    (h1 : ∀ (i : Nat) (o : List TRef) (hi : i < g.Used.length), step ((i : Int), o) = (app? 16 o [refOf g.Used[i]]).bind fun v => some (.inl (((i + 1 : Nat) : Int), v)))
    (h2 : ∀ o, step ((g.Used.length : Int), o) = some (.inr o)) : iter step (0, []) = some (g.Used.map refOf) := by
  have := iter_range (step := step) (fun i => ((i : Int), (g.Used.take i).map refOf)) g.Used.length (r := g.Used.map refOf) ?_ ?_
  · simpa using this
  · intro i hi
    rw [h1 i _ hi, app?_ok (by simp; omega) (by simp; omega), List.take_succ_eq_append_getElem hi, List.map_append]; rfl
  · rw [h2, List.take_length]
theorem spec_checkOf {g : TLog} (h : g.Used.length ≤ 1048576) : F_spec_CheckOf g = some (checkOf g) := by
  unfold F_spec_CheckOf
  rw [refs_loop h]
  · rfl
  · intro i o hi
    unfold S_spec_CheckOf_1
    simp only [dlt hi, if_true, at?_nat hi, Option.bind_some, w64_succ (show i < 9223372036854775807 by omega)]
    rfl
  · intro o; unfold S_spec_CheckOf_1; simp
theorem impl_checkOf {g : TLog} (h : g.Used.length ≤ 1048576) : F_impl_CheckOf g = some (checkOf g) := by
  unfold F_impl_CheckOf
  rw [refs_loop h]
  · rfl
  · intro i o hi
    unfold S_impl_CheckOf_1
    simp only [dlt hi, if_true, at?_nat hi, Option.bind_some, w64_succ (show i < 9223372036854775807 by omega)]
    rfl
  · intro o; unfold S_impl_CheckOf_1; simp
end Go.Proofs.Ytgdcbjoaoagbpaa.V
/- CheckOf. -/
namespace Go.Proofs.Ytgdcbjoaoagbpaa.V
open Go Go.RowKit
set_option maxRecDepth 100000
theorem pure_FnExactCheckOf {x : TLog} (w : wf_TLog x) : F_laws_FnExactCheckOf x = some true := by
  obtain ⟨r, h1, h2, h3, h4⟩ := p_laws_szLog w (n := 1048576) (by omega) (by omega)
  unfold F_laws_FnExactCheckOf
  rw [h1, Option.bind_some]
  by_cases hr : r < 0
  · rw [if_pos (by simpa using hr)]
  obtain ⟨hs, ht⟩ := h4 (by omega)
  have hu := hs.sUsed.1
  have nn : ∀ n : Nat, ¬ ((n : Int) < 0) := fun n => by omega
  obtain ⟨m, r', mm⟩ := mark_log hs
  have g1 := spec_checkOf hu
  have g2 := impl_checkOf hu
  have h3 : (checkOf x).Refs.length ≤ 1048576 := by unfold checkOf; rw [List.length_map]; exact hu
  generalize checkOf x = c at g1 g2 h3
  obtain ⟨c1, c2, c3, c4, l⟩ := c
  dsimp only at h3
  have q : ∀ {l' : List TRef}, l'.length = l.length → Sz_TCheck { Stamp := c1, NextGen := c2, NextSeq := c3, NextValid := c4, Refs := l' } := fun h => ⟨by dsimp only; omega⟩
  have m1 : guardO (fun r : Int × List TRef => l.length = r.2.length) (F_laws_markRefS_w l 1) = some _ := guardO_of (p_laws_markRefS_w (m0 := 1) (by omega) (by omega)) (by simp)
  have m2 : guardO (fun r : Int × List TRef => l.length = r.2.length) (F_laws_markCheck_w c1 c2 c3 c4 l 1) = some (((1 + 2 * l.length : Nat) : Int), l.mapIdx fun i x => mk_laws_markRefS_w (1 + 2 * i) x) := guardO_of (by unfold F_laws_markCheck_w; rw [m1]; rfl) (by simp)
  have m3 : F_laws_heldRefS (l.mapIdx fun i x => mk_laws_markRefS_w (1 + 2 * i) x) 1 = some _ := p_laws_heldRefS (l := l) (m0 := 1) (by omega) (by omega)
  rw [if_neg (by simpa using hr)]
  simp only [p_laws_toLog hs, p_laws_eqLog hs, g1, g2, p_laws_eqCheck (q rfl), F_laws_heldCheck, mm, m2, m3, Option.bind_some, if_true, nn, decide_false, Bool.false_eq_true, if_false, beq_self_eq_true, Bool.not_true, bne_self_eq_false]
end Go.Proofs.Ytgdcbjoaoagbpaa.V
