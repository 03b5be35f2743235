/- The pure part. -/
import Derived.Test.YtldndhdohlfpgaaXT
/- Loops that count, numbers, words: plain lists and numbers. -/
namespace Go.Proofs.Ytldndhdohlfpgaa.V
open Go Go.RowKit
/-! ### loops that count -/
theorem iter_range {σ ρ : Type} {step : σ → Option (σ ⊕ ρ)} (st : Nat → σ) (n : Nat) {r : ρ} (hs : ∀ i, i < n → step (st i) = some (.inl (st (i + 1)))) (he : step (st n) = some (.inr r)) : iter step (st 0) = some r := by
  have key : ∀ d i, i + d = n → iter step (st i) = some r := by
    intro d
    induction d with
    | zero => intro i hi; have : i = n := by omega
              subst this; exact iter_done he
    | succ d ih => intro i hi; rw [iter_next (hs i (by omega))]; exact ih (i + 1) (by omega)
  exact key n 0 (by omega)
/-! ### numbers -/
theorem w64_id {n : Int} (h : -9223372036854775808 ≤ n) (h' : n < 9223372036854775808) : w64 n = n := by
  unfold w64 IntKind.wrap
  simp [IntKind.bits, IntKind.signed]
  omega
theorem w64_succ {n : Nat} (h : n < 9223372036854775807) : w64 ((n : Int) + 1) = ((n + 1 : Nat) : Int) := by rw [w64_id (by omega) (by omega)]; omega
theorem at?_nat {α : Type} {l : List α} {i : Nat} (h : i < l.length) : at? l (i : Int) = some l[i] := by
  unfold at?
  rw [if_pos ⟨by omega, by omega⟩]
  simp [h]
theorem bt?_nat {s : List UInt8} {i : Nat} (h : i < s.length) : bt? s (i : Int) = some s[i] := by
  unfold bt?
  rw [if_pos (by omega)]
  simp [h]
theorem app?_ok {α : Type} {byt : Nat} {l m : List α} (h : l.length + m.length ≤ 1099511627776) (h2 : (l.length + m.length) * byt ≤ 140737488355328) : app? byt l m = some (l ++ m) := by unfold app?; rw [if_pos ⟨h, h2⟩]
/-! ### numbers as words -/
end Go.Proofs.Ytldndhdohlfpgaa.V
/- Sums, words, what a record must be. -/
namespace Go.Proofs.Ytldndhdohlfpgaa.V
open Go Go.RowKit
/-! ### sums -/
/-! ### words -/
def inR (n lo hi : Int) : Bool := decide (lo ≤ n) && decide (n ≤ hi)
theorem spec_in (n lo hi : Int) : F_spec_l01In n lo hi = some (inR n lo hi) := by
  unfold F_spec_l01In inR
  by_cases h : lo ≤ n <;> simp [h]
theorem impl_in (n lo hi : Int) : F_impl_in n lo hi = some (inR n lo hi) := by
  unfold F_impl_in inR
  by_cases h : lo ≤ n <;> simp [h]
def lowB (c : UInt8) : Bool := decide (97 ≤ c.toNat) && decide (c.toNat ≤ 122)
def wordOk (s : List UInt8) : Bool := s.all lowB && inR s.length 1 8
theorem iter_all {σ ρ : Type} {step : σ → Option (σ ⊕ ρ)} (st : Nat → σ) (n : Nat) (p : Nat → Bool) {bad good : ρ} (h1 : ∀ i, i < n → p i = true → step (st i) = some (.inl (st (i + 1)))) (h2 : ∀ i, i < n → p i = false → step (st i) = some (.inr bad)) (he : step (st n) = some (.inr good)) :
    iter step (st 0) = some (if (List.range n).all p then good else bad) := by
  have key : ∀ d i, i + d = n → iter step (st i) = some (if ((List.range n).drop i).all p then good else bad) := by
    intro d
    induction d with
    | zero =>
      intro i hi
      have : i = n := by omega
      subst this
      rw [iter_done he, List.drop_eq_nil_of_le (by simp)]; simp
    | succ d ih =>
      intro i hi
      have hd : (List.range n).drop i = i :: (List.range n).drop (i + 1) := by
        rw [List.drop_eq_getElem_cons (by simp; omega)]; simp
      rw [hd]
      cases hp : p i with
      | true => rw [iter_next (h1 i (by omega) hp), ih (i + 1) (by omega)]; simp [hp]
      | false => rw [iter_done (h2 i (by omega) hp)]; simp [hp]
  simpa using key n 0 (by omega)
theorem all_range {α : Type} (l : List α) (p : α → Bool) : (List.range l.length).all (fun i => match l[i]? with | some x => p x | none => true) = l.all p := by
  rw [Bool.eq_iff_iff, List.all_eq_true, List.all_eq_true]
  constructor
  · intro h x hx
    obtain ⟨i, hi⟩ := List.getElem?_of_mem hx
    have := h i (List.mem_range.2 (List.getElem?_eq_some_iff.1 hi).1)
    simpa [hi] using this
  · intro h i hi
    have hi' := List.mem_range.1 hi
    rw [List.getElem?_eq_getElem hi']
    exact h _ (List.getElem_mem hi')
theorem spec_word {s : List UInt8} (hs : s.length < 9223372036854775807) : F_spec_WordOk s = some (wordOk s) := by
  have hl : iter (S_spec_WordOk_1 s) 0 = some (if s.all lowB then .inr () else .inl false) := by
    rw [← all_range]
    refine iter_all (fun i => (i : Int)) s.length _ ?_ ?_ ?_
    · intro i hi hp
      rw [List.getElem?_eq_getElem hi] at hp
      simp only [lowB, Bool.and_eq_true, decide_eq_true_eq] at hp
      unfold S_spec_WordOk_1
      simp only [show decide ((i : Int) < (s.length : Int)) = true from by simp; omega, if_true, bt?_nat hi, Option.bind_some]
      rw [if_neg (by simp; omega), if_neg (by simp; omega)]
      simp [w64_succ (show i < 9223372036854775807 by omega)]
    · intro i hi hp
      rw [List.getElem?_eq_getElem hi] at hp
      simp only [lowB, Bool.and_eq_false_iff, decide_eq_false_iff_not] at hp
      unfold S_spec_WordOk_1
      simp only [show decide ((i : Int) < (s.length : Int)) = true from by simp; omega, if_true, bt?_nat hi, Option.bind_some]
      by_cases h : (s[i]).toNat < 97
      · rw [if_pos (by simp; omega)]; rfl
      · rw [if_neg (by simp; omega), if_pos (by simp; omega)]; rfl
    · unfold S_spec_WordOk_1
      simp
  unfold F_spec_WordOk
  rw [hl]
  unfold wordOk
  cases s.all lowB <;> simp [spec_in]
theorem impl_word {s : List UInt8} (hs : s.length < 9223372036854775807) : F_impl_WordOk s = some (wordOk s) := by
  have hl : iter (S_impl_WordOk_1 s) 0 = some (if s.all lowB then .inr () else .inl false) := by
    rw [← all_range]
    refine iter_all (fun i => (i : Int)) s.length _ ?_ ?_ ?_
    · intro i hi hp
      rw [List.getElem?_eq_getElem hi] at hp
      simp only [lowB, Bool.and_eq_true, decide_eq_true_eq] at hp
      unfold S_impl_WordOk_1
      simp only [show decide ((i : Int) < (s.length : Int)) = true from by simp; omega, if_true, bt?_nat hi, Option.bind_some]
      rw [if_neg (by simp; omega), if_neg (by simp; omega)]
      simp [w64_succ (show i < 9223372036854775807 by omega)]
    · intro i hi hp
      rw [List.getElem?_eq_getElem hi] at hp
      simp only [lowB, Bool.and_eq_false_iff, decide_eq_false_iff_not] at hp
      unfold S_impl_WordOk_1
      simp only [show decide ((i : Int) < (s.length : Int)) = true from by simp; omega, if_true, bt?_nat hi, Option.bind_some]
      by_cases h : (s[i]).toNat < 97
      · rw [if_pos (by simp; omega)]; rfl
      · rw [if_neg (by simp; omega), if_pos (by simp; omega)]; rfl
    · unfold S_impl_WordOk_1
      simp
  unfold F_impl_WordOk
  rw [impl_in, Option.bind_some, hl]
  unfold wordOk
  cases s.all lowB <;> cases inR (s.length : Int) 1 8 <;> simp
end Go.Proofs.Ytldndhdohlfpgaa.V
/- What the statements' own functions need: loops over lists. -/
namespace Go.Proofs.Ytldndhdohlfpgaa.V
open Go Go.RowKit
theorem dlt {i : Nat} {n : Nat} (h : i < n) : decide ((i : Int) < (n : Int)) = true := by simpa using h
/-! ### marks of what holds lists -/
/-- A scan that ends where something is found. -/
theorem any_loop {α ρ : Type} {l : List α} {k : Nat} (hk : k ≤ l.length) {q : α → Bool} {step : Int → Option (Int ⊕ ρ)} {bad good : ρ} (h1 : ∀ (i : Nat) (h : i < l.length), i < k → step (i : Int) = if q l[i] then some (.inr bad) else some (.inl ((i + 1 : Nat) : Int))) (h2 : step (k : Int) = some (.inr good)) : iter step 0 = some (if (l.take k).any q then bad else good) := by
  have key : ∀ d i, i + d = k → iter step (i : Int) = some (if ((l.take k).drop i).any q then bad else good) := by
    intro d
    induction d with
    | zero => intro i hi; have : i = k := by omega
              subst this; rw [iter_done h2, List.drop_eq_nil_of_le (by simp; omega)]; simp
    | succ d ih =>
      intro i hi
      have hd : (l.take k).drop i = l[i] :: (l.take k).drop (i + 1) := by
        rw [List.drop_eq_getElem_cons (by simp; omega)]; simp
      rw [hd, List.any_cons]
      have hs := h1 i (by omega) (by omega)
      cases hq : q l[i] with
      | true => rw [hq] at hs; rw [iter_done hs]; simp
      | false => rw [hq] at hs; rw [iter_next hs, ih (i + 1) (by omega)]; simp
  simpa using key k 0 (by omega)
theorem idx_loop {α : Type} {l : List α} {q : α → Bool} {step : Int → Option (Int ⊕ (Int ⊕ Unit))} (h1 : ∀ (i : Nat) (h : i < l.length), step (i : Int) = if q l[i] then some (.inr (.inl (i : Int))) else some (.inl ((i + 1 : Nat) : Int))) (h2 : step (l.length : Int) = some (.inr (.inr ()))) : iter step 0 = some (match l.findIdx? q with | some i => .inl (i : Int) | none => .inr ()) := by
  have key : ∀ d i, i + d = l.length → iter step (i : Int) = some (match (l.drop i).findIdx? q with | some j => .inl ((i + j : Nat) : Int) | none => .inr ()) := by
    intro d
    induction d with
    | zero => intro i hi; have : i = l.length := by omega
              subst this; rw [iter_done h2, List.drop_eq_nil_of_le (by simp)]; simp
    | succ d ih =>
      intro i hi
      have hs := h1 i (by omega)
      rw [List.drop_eq_getElem_cons (by omega), List.findIdx?_cons]
      cases hq : q l[i] with
      | true => rw [hq] at hs; rw [iter_done hs]; simp
      | false =>
        rw [hq] at hs; rw [iter_next hs, ih (i + 1) (by omega)]
        cases (l.drop (i + 1)).findIdx? q with
        | none => simp
        | some j => simp; omega
  have := key l.length 0 (by omega)
  simp only [List.drop_zero, Nat.zero_add] at this
  exact this
def idxI : Option Nat → Int
  | some i => i
  | none => -1
theorem idx_any {α : Type} {l : List α} {q : α → Bool} : decide (idxI (l.findIdx? q) ≥ 0) = l.any q := by
  rw [← List.findIdx?_isSome]
  cases l.findIdx? q <;> simp [idxI]
theorem sub?_take {α : Type} {l : List α} {i : Nat} (h : i ≤ l.length) : sub? l 0 (i : Int) = some (l.take i) := by
  unfold sub?
  simp
  omega
end Go.Proofs.Ytldndhdohlfpgaa.V
/- The functions that the statements are made of. -/
namespace Go.Proofs.Ytldndhdohlfpgaa.V
open Go Go.RowKit
set_option maxRecDepth 100000
structure Sz_TRec (x : TRec) : Prop where
  sUser : x.User.length ≤ 1048576
  sName : x.Name.length ≤ 1048576
  sText : x.Text.length ≤ 1048576
structure Sz_TItem (x : TItem) : Prop where
  sRec : Sz_TRec x.Rec
structure Sz_TMail (x : TMail) : Prop where
  sText : x.Text.length ≤ 1048576
structure Sz_TBox (x : TBox) : Prop where
  sUser : x.User.length ≤ 1048576
  sName : x.Name.length ≤ 1048576
  sMails : x.Mails.length ≤ 1048576 ∧ ∀ y ∈ x.Mails, Sz_TMail y
theorem p_slices_IndexFunc_Item_ItemsOk_1 {x0 : List TItem} {x1 : TItem} {q : TItem → Bool} (hl : x0.length ≤ 9223372036854775806) (hq : ∀ y ∈ x0, F_impl_ItemsOk_1_w y x1 = some (q y)) : F_slices_IndexFunc_Item_ItemsOk_1 x0 x1 = some (idxI (x0.findIdx? q)) := by
  unfold F_slices_IndexFunc_Item_ItemsOk_1
  rw [idx_loop (l := x0) (q := q) ?_ ?_]
  · cases x0.findIdx? q <;> rfl
  · intro i hi
    unfold S_slices_IndexFunc_Item_ItemsOk_1_1
    simp only [dlt hi, if_true, at?_nat hi, Option.bind_some, hq _ (List.getElem_mem hi), w64_succ (show i < 9223372036854775807 by omega)]
  · unfold S_slices_IndexFunc_Item_ItemsOk_1_1
    simp
theorem p_slices_ContainsFunc_Item_ItemsOk_1 {x0 : List TItem} {x1 : TItem} {q : TItem → Bool} (hl : x0.length ≤ 9223372036854775806) (hq : ∀ y ∈ x0, F_impl_ItemsOk_1_w y x1 = some (q y)) : F_slices_ContainsFunc_Item_ItemsOk_1 x0 x1 = some (x0.any q) := by
  unfold F_slices_ContainsFunc_Item_ItemsOk_1
  rw [p_slices_IndexFunc_Item_ItemsOk_1 hl hq, Option.bind_some, idx_any]
theorem p_slices_IndexFunc_Item_needed_1 {x0 : List TItem} {x1 : TItem} {q : TItem → Bool} (hl : x0.length ≤ 9223372036854775806) (hq : ∀ y ∈ x0, F_impl_needed_1_w y x1 = some (q y)) : F_slices_IndexFunc_Item_needed_1 x0 x1 = some (idxI (x0.findIdx? q)) := by
  unfold F_slices_IndexFunc_Item_needed_1
  rw [idx_loop (l := x0) (q := q) ?_ ?_]
  · cases x0.findIdx? q <;> rfl
  · intro i hi
    unfold S_slices_IndexFunc_Item_needed_1_1
    simp only [dlt hi, if_true, at?_nat hi, Option.bind_some, hq _ (List.getElem_mem hi), w64_succ (show i < 9223372036854775807 by omega)]
  · unfold S_slices_IndexFunc_Item_needed_1_1
    simp
theorem p_slices_ContainsFunc_Item_needed_1 {x0 : List TItem} {x1 : TItem} {q : TItem → Bool} (hl : x0.length ≤ 9223372036854775806) (hq : ∀ y ∈ x0, F_impl_needed_1_w y x1 = some (q y)) : F_slices_ContainsFunc_Item_needed_1 x0 x1 = some (x0.any q) := by
  unfold F_slices_ContainsFunc_Item_needed_1
  rw [p_slices_IndexFunc_Item_needed_1 hl hq, Option.bind_some, idx_any]
theorem p_slices_IndexFunc_Item_needed_2 {x0 : List TItem} {x1 : TRec} {q : TItem → Bool} (hl : x0.length ≤ 9223372036854775806) (hq : ∀ y ∈ x0, F_impl_needed_2_w y x1 = some (q y)) : F_slices_IndexFunc_Item_needed_2 x0 x1 = some (idxI (x0.findIdx? q)) := by
  unfold F_slices_IndexFunc_Item_needed_2
  rw [idx_loop (l := x0) (q := q) ?_ ?_]
  · cases x0.findIdx? q <;> rfl
  · intro i hi
    unfold S_slices_IndexFunc_Item_needed_2_1
    simp only [dlt hi, if_true, at?_nat hi, Option.bind_some, hq _ (List.getElem_mem hi), w64_succ (show i < 9223372036854775807 by omega)]
  · unfold S_slices_IndexFunc_Item_needed_2_1
    simp
theorem p_slices_ContainsFunc_Item_needed_2 {x0 : List TItem} {x1 : TRec} {q : TItem → Bool} (hl : x0.length ≤ 9223372036854775806) (hq : ∀ y ∈ x0, F_impl_needed_2_w y x1 = some (q y)) : F_slices_ContainsFunc_Item_needed_2 x0 x1 = some (x0.any q) := by
  unfold F_slices_ContainsFunc_Item_needed_2
  rw [p_slices_IndexFunc_Item_needed_2 hl hq, Option.bind_some, idx_any]
theorem p_slices_IndexFunc_Box_NextsOf_1 {x0 : List TBox} {x1 : TBox} {q : TBox → Bool} (hl : x0.length ≤ 9223372036854775806) (hq : ∀ y ∈ x0, F_impl_NextsOf_1_w y x1 = some (q y)) : F_slices_IndexFunc_Box_NextsOf_1 x0 x1 = some (idxI (x0.findIdx? q)) := by
  unfold F_slices_IndexFunc_Box_NextsOf_1
  rw [idx_loop (l := x0) (q := q) ?_ ?_]
  · cases x0.findIdx? q <;> rfl
  · intro i hi
    unfold S_slices_IndexFunc_Box_NextsOf_1_1
    simp only [dlt hi, if_true, at?_nat hi, Option.bind_some, hq _ (List.getElem_mem hi), w64_succ (show i < 9223372036854775807 by omega)]
  · unfold S_slices_IndexFunc_Box_NextsOf_1_1
    simp
end Go.Proofs.Ytldndhdohlfpgaa.V
/- What is drawn: numbers out of a cursor. -/
namespace Go.Proofs.Ytldndhdohlfpgaa.V
open Go Go.RowKit
set_option maxRecDepth 100000
theorem andv255 (a : Int) : 0 ≤ andv .i64 a 255 ∧ andv .i64 a 255 ≤ 255 := by
  have h : andv .i64 a 255 = w64 ((BitVec.ofInt 64 a &&& BitVec.ofInt 64 255).toNat : Int) := rfl
  have h2 : (BitVec.ofInt 64 a &&& BitVec.ofInt 64 255).toNat ≤ 255 := by
    rw [BitVec.toNat_and]
    exact Nat.le_trans Nat.and_le_right (by decide)
  rw [h, w64_id (by omega) (by omega)]
  omega
/-- Where a cursor may stand. -/
def IOk (b : List Int) (i : Int) : Prop := 0 ≤ i ∧ i ≤ (b.length : Int) ∧ (b.length : Int) ≤ 1048576
/-- Something is drawn, so or so. -/
def Dr {α : Type} (b : List Int) (o : Option (α × TL01Cur)) (P : α → Prop) : Prop := ∃ r i h, o = some (r, ⟨b, i, h⟩) ∧ P r ∧ IOk b i
theorem Dr.bind {α β : Type} {b : List Int} {o : Option (α × TL01Cur)} {P : α → Prop} {f : α × TL01Cur → Option (β × TL01Cur)} {Q : β → Prop} (h : Dr b o P) (g : ∀ r i h, P r → IOk b i → Dr b (f (r, ⟨b, i, h⟩)) Q) : Dr b (o.bind f) Q := by
  obtain ⟨r, i, h', rfl, hp, hi⟩ := h
  exact g r i h' hp hi
theorem Dr.ret {α : Type} {b : List Int} {r : α} {i h : Int} {Q : α → Prop} (hi : IOk b i) (hq : Q r) : Dr b (some (r, ⟨b, i, h⟩)) Q := ⟨r, i, h, rfl, hq, hi⟩
theorem Dr.mono {α : Type} {b : List Int} {o : Option (α × TL01Cur)} {P Q : α → Prop} (h : Dr b o P) (g : ∀ r, P r → Q r) : Dr b o Q := by
  obtain ⟨r, i, h', e, hp, hi⟩ := h
  exact ⟨r, i, h', e, g r hp, hi⟩
/-- A draw in the midst of something else. -/
theorem Dr.get {α γ : Type} {b : List Int} {o : Option (α × TL01Cur)} {P : α → Prop} {f : α × TL01Cur → Option γ} {Q : γ → Prop} (h : Dr b o P) (g : ∀ r i h, P r → IOk b i → ∃ z, f (r, ⟨b, i, h⟩) = some z ∧ Q z) : ∃ z, o.bind f = some z ∧ Q z := by
  obtain ⟨r, i, h', rfl, hp, hi⟩ := h
  exact g r i h' hp hi
theorem dr_byte {b : List Int} {i h : Int} (hi : IOk b i) : Dr b (F_spec_l01Byte_w ⟨b, i, h⟩) fun x => 0 ≤ x ∧ x ≤ 255 := by
  unfold F_spec_l01Byte_w
  obtain ⟨h0, h1, h2⟩ := hi
  by_cases hl : i < (b.length : Int)
  · obtain ⟨n, rfl⟩ : ∃ n : Nat, i = n := ⟨i.toNat, by omega⟩
    rw [if_pos (by simpa using hl), at?_nat (show n < b.length by omega), Option.bind_some]
    refine ⟨_, _, _, rfl, andv255 _, ?_⟩
    show IOk b (w64 ((n : Int) + 1))
    rw [w64_id (by omega) (by omega)]; exact ⟨by omega, by omega, h2⟩
  · rw [if_neg (by simpa using hl)]
    exact ⟨_, _, _, rfl, andv255 _, h0, h1, h2⟩
theorem dr_below {b : List Int} {i h : Int} (hi : IOk b i) {n : Int} (hn : 1 ≤ n) (hm : n ≤ 4294967296) : Dr b (F_spec_l01Below_w ⟨b, i, h⟩ n) fun x => 0 ≤ x ∧ x < n := by
  unfold F_spec_l01Below_w
  rw [if_neg (by simp; omega)]
  have tm : ∀ x : Int, 0 ≤ x → 0 ≤ Int.tmod x n ∧ Int.tmod x n < n := fun x hx => ⟨Int.tmod_nonneg _ hx, Int.tmod_lt_of_pos _ (by omega)⟩
  have rm : ∀ x : Int, rem? x n = some (Int.tmod x n) := fun x => by unfold rem?; rw [if_neg (by omega)]
  by_cases hs : n ≤ 256
  · rw [if_pos (by simpa using hs)]
    refine Dr.bind (dr_byte hi) fun x i h hx hi => ?_
    rw [rm, Option.bind_some]
    exact Dr.ret hi (tm x hx.1)
  · rw [if_neg (by simpa using hs)]
    refine Dr.bind (dr_byte hi) fun x i h hx hi => Dr.bind (dr_byte hi) fun y i h hy hi => Dr.bind (dr_byte hi) fun z i h hz hi => Dr.bind (dr_byte hi) fun u i h hu hi => ?_
    rw [rm, Option.bind_some]
    refine Dr.ret hi (tm _ ?_)
    dsimp only
    rw [w64_id (n := x * 16777216) (by omega) (by omega), w64_id (n := y * 65536) (by omega) (by omega), w64_id (n := z * 256) (by omega) (by omega), w64_id (n := x * 16777216 + y * 65536) (by omega) (by omega), w64_id (n := x * 16777216 + y * 65536 + z * 256) (by omega) (by omega), w64_id (by omega) (by omega)]
    omega
theorem dr_once {b : List Int} {i h : Int} (hi : IOk b i) {n : Int} (hn : 1 ≤ n) (hm : n ≤ 4294967296) : Dr b (F_spec_l01Once_w ⟨b, i, h⟩ n) fun _ => True := by
  unfold F_spec_l01Once_w
  exact Dr.bind (dr_below hi hn hm) fun x i h _ hi => Dr.ret hi trivial
theorem dr_pickInt {b : List Int} {i h : Int} (hi : IOk b i) {l : List Int} (h1 : 1 ≤ l.length) (h2 : l.length ≤ 100) : Dr b (F_spec_l01PickInt_w ⟨b, i, h⟩ l) fun x => x ∈ l := by
  unfold F_spec_l01PickInt_w
  refine Dr.bind (dr_below hi (by omega) (by omega)) fun x i h hx hi => ?_
  obtain ⟨n, rfl⟩ : ∃ n : Nat, x = n := ⟨x.toNat, by omega⟩
  rw [at?_nat (by omega), Option.bind_some]
  exact Dr.ret hi (List.getElem_mem _)
theorem dr_pick {b : List Int} {i h : Int} (hi : IOk b i) {l : List (List UInt8)} (h1 : 1 ≤ l.length) (h2 : l.length ≤ 100) : Dr b (F_spec_l01Pick_w ⟨b, i, h⟩ l) fun x => x ∈ l := by
  unfold F_spec_l01Pick_w
  refine Dr.bind (dr_below hi (by omega) (by omega)) fun x i h hx hi => ?_
  obtain ⟨n, rfl⟩ : ∃ n : Nat, x = n := ⟨x.toNat, by omega⟩
  rw [at?_nat (by omega), Option.bind_some]
  exact Dr.ret hi (List.getElem_mem _)
theorem dr_new {b : List Int} (_hb : b.length ≤ 1048576) : ∃ h, F_spec_l01New_w b = some ⟨b, 0, h⟩ := by
  have key : ∃ r, iter (S_spec_l01New_w_1 b) (w64 (76001 + (b.length : Int)), 0) = some r ∧ True := by
    refine iter_inv (fun s : Int × Int => 0 ≤ s.2 ∧ s.2 ≤ (b.length : Int)) (fun s => ((b.length : Int) - s.2).toNat) (fun _ => True) ?_ _ ⟨by simp, by simp⟩
    rintro ⟨x, i⟩ ⟨h0, h1⟩
    simp only at h0 h1
    unfold S_spec_l01New_w_1
    by_cases hl : i < (b.length : Int)
    · by_cases h4 : i < 4000
      · left
        obtain ⟨n, rfl⟩ : ∃ n : Nat, i = n := ⟨i.toNat, by omega⟩
        rw [if_pos (by simpa using hl), if_pos (by simpa using h4), Option.bind_some, if_pos rfl]
        show ∃ s', (at? b (n : Int)).bind _ = _ ∧ _
        rw [at?_nat (by omega), Option.bind_some]
        refine ⟨_, rfl, ?_, ?_⟩
        · simp only; rw [w64_id (by omega) (by omega)]; omega
        · simp only; rw [w64_id (by omega) (by omega)]; omega
      · right
        rw [if_pos (by simpa using hl), if_neg (by simpa using h4)]
        exact ⟨_, rfl, trivial⟩
    · right
      rw [if_neg (by simpa using hl)]
      exact ⟨_, rfl, trivial⟩
  obtain ⟨r, e, _⟩ := key
  exact ⟨r, by unfold F_spec_l01New_w; rw [e, Option.bind_some]⟩
theorem iok0 {b : List Int} (hb : b.length ≤ 1048576) : IOk b 0 := ⟨by omega, by omega, by omega⟩
/-- Twelve numbers. -/
theorem dr_places {b : List Int} (hb : b.length ≤ 1048576) : ∃ l, F_spec_DrawPlaces b = some l ∧ l.length = 12 ∧ ∀ x ∈ l, 0 ≤ x ∧ x < 10000 := by
  obtain ⟨h, e⟩ := dr_new hb
  unfold F_spec_DrawPlaces
  rw [e, Option.bind_some]
  refine Dr.get (dr_byte (iok0 hb)) fun x i h _ hi => ?_
  have key : ∃ r, iter (S_spec_DrawPlaces_1 b) (0, i, h, []) = some r ∧ (r.length = 12 ∧ ∀ x ∈ r, 0 ≤ x ∧ x < 10000) := by
    refine iter_inv (fun s : Int × Int × Int × List Int => (0 ≤ s.1 ∧ s.1 ≤ 12 ∧ (s.2.2.2.length : Int) = s.1) ∧ IOk b s.2.1 ∧ ∀ x ∈ s.2.2.2, 0 ≤ x ∧ x < 10000) (fun s => (12 - s.1).toNat) _ ?_ _ ⟨⟨by simp, by simp, by simp⟩, hi, by simp⟩
    rintro ⟨k, i, h, l⟩ ⟨⟨h0, h1, h2⟩, hi, hl⟩
    simp only at h0 h1 h2 hi hl
    unfold S_spec_DrawPlaces_1
    by_cases hk : k < 12
    · left
      rw [if_pos (by simpa using hk)]
      obtain ⟨y, i', h', e, hy, hi'⟩ := dr_below (h := h) hi (n := 10000) (by omega) (by omega)
      show ∃ s', (F_spec_l01Below_w ⟨b, i, h⟩ 10000).bind _ = _ ∧ _
      rw [e, Option.bind_some]
      show ∃ s', (app? 8 l [y]).bind _ = _ ∧ _
      rw [app?_ok (by simp; omega) (by simp; omega), Option.bind_some]
      refine ⟨_, rfl, ⟨⟨?_, ?_, ?_⟩, hi', ?_⟩, ?_⟩
      · simp only; rw [w64_id (by omega) (by omega)]; omega
      · simp only; rw [w64_id (by omega) (by omega)]; omega
      · show ((l ++ [y]).length : Int) = w64 (k + 1)
        rw [List.length_append, List.length_singleton, w64_id (by omega) (by omega)]; omega
      · intro z hz
        rcases List.mem_append.1 hz with hz | hz
        · exact hl z hz
        · simp only [List.mem_singleton] at hz; subst hz; exact hy
      · simp only; rw [w64_id (by omega) (by omega)]; omega
    · right
      rw [if_neg (by simpa using hk)]
      exact ⟨_, rfl, (by show l.length = 12; omega), hl⟩
  obtain ⟨r, e, hr⟩ := key
  exact ⟨r, by rw [e]; rfl, hr⟩
end Go.Proofs.Ytldndhdohlfpgaa.V
/- Ascending lists of numbers, each number once. No program in sight. -/
namespace Go.Proofs.Ytldndhdohlfpgaa.V
open Go
def uniq (l : List Int) : List Int := Lib.compact (sortI l)
def Asc (l : List Int) : Prop := l.Pairwise (fun a b => a < b)
theorem asc_eq : ∀ {l m : List Int}, Asc l → Asc m → (∀ x, x ∈ l ↔ x ∈ m) → l = m
  | [], [], _, _, _ => rfl
  | [], y :: m, _, _, h => absurd ((h y).2 (by simp)) (by simp)
  | x :: l, [], _, _, h => absurd ((h x).1 (by simp)) (by simp)
  | x :: l, y :: m, hl, hm, h => by
    have hl' := List.pairwise_cons.1 hl
    have hm' := List.pairwise_cons.1 hm
    have hxy : x = y := by
      have h1 := (h x).1 (by simp)
      have h2 := (h y).2 (by simp)
      rcases List.mem_cons.1 h1 with e | e
      · exact e
      · rcases List.mem_cons.1 h2 with e' | e'
        · exact e'.symm
        · have := hl'.1 y e'
          have := hm'.1 x e
          omega
    subst hxy
    congr 1
    refine asc_eq hl'.2 hm'.2 fun z => ?_
    constructor
    · intro hz
      have := hl'.1 z hz
      rcases List.mem_cons.1 ((h z).1 (by simp [hz])) with e | e
      · omega
      · exact e
    · intro hz
      have := hm'.1 z hz
      rcases List.mem_cons.1 ((h z).2 (by simp [hz])) with e | e
      · omega
      · exact e
theorem upTo_spec (d : Array Int) (hs : ∀ i j, i < j → j < d.size → d[i]! ≤ d[j]!) : ∀ m, m ≤ d.size → Asc (Lib.compactUpTo d m) ∧ (∀ x, x ∈ Lib.compactUpTo d m ↔ ∃ i, i < m ∧ d[i]! = x)
  | 0, _ => by simp [Lib.compactUpTo, Asc]
  | m + 1, hm => by
    obtain ⟨h1, h2⟩ := upTo_spec d hs m (by omega)
    rw [Lib.compactUpTo_succ]
    cases hk : Lib.keeps d m
    · simp only [Bool.false_eq_true, if_false, List.append_nil]
      refine ⟨h1, fun x => ?_⟩
      rw [h2]
      constructor
      · rintro ⟨i, hi, e⟩; exact ⟨i, by omega, e⟩
      · rintro ⟨i, hi, e⟩
        by_cases him : i < m
        · exact ⟨i, him, e⟩
        · have hi' : i = m := by omega
          subst hi'
          simp only [Lib.keeps, decide_eq_false_iff_not, not_or, Decidable.not_not, ne_eq] at hk
          exact ⟨i - 1, by omega, by rw [← hk.2]; exact e⟩
    · simp only [if_true]
      refine ⟨?_, fun x => ?_⟩
      · unfold Asc
        rw [List.pairwise_append]
        refine ⟨h1, by simp, ?_⟩
        intro a ha b hb
        obtain ⟨i, hi, rfl⟩ := (h2 a).1 ha
        have hb' : b = d[m]! := by simpa using hb
        subst hb'
        simp only [Lib.keeps, decide_eq_true_eq] at hk
        rcases hk with hk | hk
        · omega
        · have h3 : d[m - 1]! ≤ d[m]! := hs (m - 1) m (by omega) (by omega)
          have h4 : d[i]! ≤ d[m - 1]! := by
            by_cases e : i = m - 1
            · rw [e]; exact Int.le_refl _
            · exact hs i (m - 1) (by omega) (by omega)
          have hk' : d[m]! ≠ d[m - 1]! := hk
          omega
      · rw [List.mem_append, h2]
        constructor
        · rintro (⟨i, hi, e⟩ | e)
          · exact ⟨i, by omega, e⟩
          · exact ⟨m, by omega, by simpa using Eq.symm (List.mem_singleton.1 e)⟩
        · rintro ⟨i, hi, e⟩
          by_cases him : i < m
          · exact .inl ⟨i, him, e⟩
          · have hi' : i = m := by omega
            subst hi'
            exact .inr (by simp [← e])
theorem sortI_sorted (l : List Int) : (sortI l).Pairwise (fun a b => a ≤ b) := by
  have h := List.pairwise_mergeSort (le := fun x y : Int => decide (x ≤ y)) (fun a b c h1 h2 => by simp only [decide_eq_true_eq] at *; omega) (fun a b => by simp only [Bool.or_eq_true, decide_eq_true_eq]; omega) l
  exact h.imp (fun h => by simpa using h)
theorem mem_sortI {l : List Int} {x : Int} : x ∈ sortI l ↔ x ∈ l := by simp [sortI]
theorem uniq_spec (l : List Int) : Asc (uniq l) ∧ ∀ x, x ∈ uniq l ↔ x ∈ l := by
  have hs : ∀ i j, i < j → j < (sortI l).toArray.size → (sortI l).toArray[i]! ≤ (sortI l).toArray[j]! := by
    intro i j hij hj
    have hj' : j < (sortI l).length := by simpa using hj
    have := List.pairwise_iff_getElem.1 (sortI_sorted l) i j (by omega) hj' hij
    simpa [hj', show i < (sortI l).length by omega] using this
  obtain ⟨h1, h2⟩ := upTo_spec (sortI l).toArray hs (sortI l).length (by simp)
  refine ⟨h1, fun x => ?_⟩
  have h3 : x ∈ uniq l ↔ ∃ i, i < (sortI l).length ∧ (sortI l).toArray[i]! = x := h2 x
  rw [h3, ← mem_sortI (l := l), List.mem_iff_getElem]
  constructor
  · rintro ⟨i, hi, e⟩; exact ⟨i, hi, by simpa [hi] using e⟩
  · rintro ⟨i, hi, e⟩; exact ⟨i, hi, by simpa [hi] using e⟩
theorem uniq_eq {l m : List Int} (hm : Asc m) (h : ∀ x, x ∈ l ↔ x ∈ m) : uniq l = m :=
  asc_eq (uniq_spec l).1 hm fun x => ((uniq_spec l).2 x).trans (h x)
/-- A number put in its place. -/
def ins (l : List Int) (x : Int) : List Int := l.filter (fun y => decide (y < x)) ++ ([x] ++ l.filter (fun y => decide (y > x)))
theorem ins_asc {l : List Int} (h : Asc l) (x : Int) : Asc (ins l x) := by
  unfold ins Asc
  rw [List.pairwise_append]
  refine ⟨h.filter _, ?_, ?_⟩
  · rw [List.singleton_append, List.pairwise_cons]
    exact ⟨fun a ha => by have := (List.mem_filter.1 ha).2; simp at this; omega, h.filter _⟩
  · intro a ha b hb
    have ha' := (List.mem_filter.1 ha).2
    simp only [decide_eq_true_eq] at ha'
    rcases List.mem_append.1 hb with hb | hb
    · have : b = x := by simpa using hb
      omega
    · have := (List.mem_filter.1 hb).2
      simp only [decide_eq_true_eq] at this
      omega
theorem mem_ins {l : List Int} {x y : Int} : y ∈ ins l x ↔ y = x ∨ y ∈ l := by
  unfold ins
  simp only [List.mem_append, List.mem_filter, List.mem_singleton, decide_eq_true_eq]
  constructor
  · rintro (⟨h, _⟩ | h | ⟨h, _⟩)
    · exact .inr h
    · exact .inl h
    · exact .inr h
  · rintro (h | h)
    · exact .inr (.inl h)
    · rcases Int.lt_trichotomy y x with h1 | h1 | h1
      · exact .inl ⟨h, h1⟩
      · exact .inr (.inl h1)
      · exact .inr (.inr ⟨h, h1⟩)
theorem insAll_spec (l : List Int) : ∀ s : List Int, Asc s → Asc (l.foldl ins s) ∧ ∀ x, x ∈ l.foldl ins s ↔ x ∈ s ∨ x ∈ l := by
  induction l with
  | nil => intro s hs; exact ⟨hs, by simp⟩
  | cons a l ih =>
    intro s hs
    obtain ⟨h1, h2⟩ := ih (ins s a) (ins_asc hs a)
    refine ⟨h1, fun x => ?_⟩
    rw [List.foldl_cons, h2, mem_ins, List.mem_cons]
    constructor
    · rintro ((h | h) | h)
      · exact .inr (.inl h)
      · exact .inl h
      · exact .inr (.inr h)
    · rintro (h | h | h)
      · exact .inl (.inr h)
      · exact .inl (.inl h)
      · exact .inr h
theorem insAll_uniq (l : List Int) : l.foldl ins [] = uniq l := by
  obtain ⟨h1, h2⟩ := insAll_spec l [] .nil
  exact (uniq_eq h1 fun x => by rw [h2]; simp).symm
theorem uniq_length (l : List Int) : (uniq l).length ≤ l.length := by
  have := compact_length (sortI l)
  rw [sortI_length] at this
  exact this
theorem asc_filter {l : List Int} (h : Asc l) (p : Int → Bool) : Asc (l.filter p) := List.Pairwise.filter p h
theorem uniq_filter (l : List Int) (p : Int → Bool) : (uniq l).filter p = uniq (l.filter p) := by
  refine (uniq_eq (asc_filter (uniq_spec l).1 p) fun x => ?_).symm
  rw [List.mem_filter, List.mem_filter, (uniq_spec l).2]
end Go.Proofs.Ytldndhdohlfpgaa.V
/- What a record must be, and its text; frames. -/
namespace Go.Proofs.Ytldndhdohlfpgaa.V
open Go Go.RowKit
/-- The lengths of what a record holds are no more than a machine's. -/
structure RecS (x : TRec) : Prop where
  user : x.User.length ≤ 1048576
  name : x.Name.length ≤ 1048576
  text : x.Text.length ≤ 1048576
def recOk (x : TRec) : Bool := inR x.Kind 1 5 && inR x.Valid 1 9999 &&
  (if x.Kind = 1 then wordOk x.User && wordOk x.Name && inR x.Next 1 10000 else x.User == [] && x.Name == [] && x.Next == 0) &&
  (if x.Kind = 3 ∨ x.Kind = 4 ∨ x.Kind = 5 then inR x.Uid 1 9999 else x.Uid == 0) &&
  (if x.Kind = 3 ∨ x.Kind = 4 then inR x.Flags 0 7 else x.Flags == 0) &&
  (if x.Kind = 3 then decide (x.Text.length ≤ 100) else x.Text == [])
theorem kinds {n : Int} : inR n 1 5 = true → n = 1 ∨ n = 2 ∨ n = 3 ∨ n = 4 ∨ n = 5 := by
  unfold inR
  intro h
  simp only [Bool.and_eq_true, decide_eq_true_eq] at h
  omega
theorem kinds_no {n : Int} : inR n 1 5 = false → n ≠ 1 ∧ n ≠ 2 ∧ n ≠ 3 ∧ n ≠ 4 ∧ n ≠ 5 := by
  unfold inR
  intro h
  simp only [Bool.and_eq_false_iff, decide_eq_false_iff_not] at h
  omega
theorem iteS {α : Type} {p : Prop} [Decidable p] {a b : α} : (if p then some a else some b) = some (if p then a else b) := by split <;> rfl
theorem spec_recOk {x : TRec} (h : RecS x) : F_spec_RecOk x = some (recOk x) := by
  have h1 := spec_word (s := x.User) (by have := h.user; omega)
  have h2 := spec_word (s := x.Name) (by have := h.name; omega)
  unfold F_spec_RecOk recOk
  simp only [spec_in, h1, h2, Option.bind_some]
  cases hk : inR x.Kind 1 5 with
  | false => simp
  | true =>
    cases hv : inR x.Valid 1 9999 with
    | false => simp
    | true =>
      rcases kinds hk with k | k | k | k | k <;> simp [k, iteS] <;> grind
theorem impl_recOk {x : TRec} (h : RecS x) : F_impl_RecOk x = some (recOk x) := by
  have h1 := impl_word (s := x.User) (by have := h.user; omega)
  have h2 := impl_word (s := x.Name) (by have := h.name; omega)
  unfold F_impl_RecOk recOk
  simp only [impl_in, h1, h2, Option.bind_some]
  cases hv : inR x.Valid 1 9999 with
  | false => simp
  | true =>
    cases hk : inR x.Kind 1 5 with
    | false =>
      obtain ⟨k1, k2, k3, k4, k5⟩ := kinds_no hk
      simp [k1, k2, k3, k4, k5]
    | true =>
      rcases kinds hk with k | k | k | k | k <;> simp [k, iteS] <;> grind
end Go.Proofs.Ytldndhdohlfpgaa.V
/- Items: what they must be, and the latest of them. -/
namespace Go.Proofs.Ytldndhdohlfpgaa.V
open Go Go.RowKit
set_option maxRecDepth 100000
def item0 : TItem := { Seq := 0, Rec := { Kind := 0, Valid := 0, Uid := 0, Next := 0, Flags := 0, User := [], Name := [], Text := [] } }
def itemEq (a b : TItem) : Bool := (a.Seq == b.Seq && (a.Rec.Kind == b.Rec.Kind && (a.Rec.Valid == b.Rec.Valid && (a.Rec.Uid == b.Rec.Uid && (a.Rec.Next == b.Rec.Next && (a.Rec.Flags == b.Rec.Flags && (a.Rec.User == b.Rec.User && (a.Rec.Name == b.Rec.Name && (a.Rec.Text == b.Rec.Text && true)))))))))
theorem itemEq_iff {a b : TItem} : itemEq a b = true ↔ a = b := by
  unfold itemEq
  constructor
  · intro h
    simp only [Bool.and_eq_true, beq_iff_eq, and_true] at h
    obtain ⟨h0, h1, h2, h3, h4, h5, h6, h7, h8⟩ := h
    obtain ⟨s, ⟨_, _, _, _, _, _, _, _⟩⟩ := a
    obtain ⟨s', ⟨_, _, _, _, _, _, _, _⟩⟩ := b
    simp_all
  · rintro rfl; simp
theorem RecS.of {x : TRec} (h : Sz_TRec x) : RecS x := ⟨h.sUser, h.sName, h.sText⟩
def SzI (l : List TItem) : Prop := l.length ≤ 1048576 ∧ ∀ y ∈ l, Sz_TItem y
def clash (x y : TItem) : Bool := y.Seq == x.Seq && !itemEq y x
def itOk (l : List TItem) (i : Nat) : Bool := match l[i]? with
  | some x => inR x.Seq 1 1000000000 && recOk x.Rec && !(l.take i).any (clash x)
  | none => true
def itemsOk (l : List TItem) : Bool := (List.range l.length).all (itOk l) && decide (l.length ≤ 200)
theorem itemsOk_spec {l : List TItem} (h : itemsOk l = true) : l.length ≤ 200 ∧ (∀ x ∈ l, (1 ≤ x.Seq ∧ x.Seq ≤ 1000000000) ∧ recOk x.Rec = true) ∧ ∀ x ∈ l, ∀ y ∈ l, x.Seq = y.Seq → x = y := by
  unfold itemsOk at h
  simp only [Bool.and_eq_true, decide_eq_true_eq, List.all_eq_true] at h
  obtain ⟨h1, h2⟩ := h
  have key : ∀ i (hi : i < l.length), (1 ≤ l[i].Seq ∧ l[i].Seq ≤ 1000000000) ∧ recOk l[i].Rec = true ∧ ∀ j (hj : j < i), l[j].Seq = l[i].Seq → l[j] = l[i] := by
    intro i hi
    have h3 := h1 i (List.mem_range.2 hi)
    unfold itOk at h3
    rw [List.getElem?_eq_getElem hi] at h3
    simp only [Bool.and_eq_true, inR, decide_eq_true_eq, Bool.not_eq_true', List.any_eq_false] at h3
    refine ⟨h3.1.1, h3.1.2, ?_⟩
    intro j hj he
    have h4 := h3.2 l[j] (List.mem_of_getElem? (i := j) (by rw [List.getElem?_take_of_lt hj, List.getElem?_eq_getElem (by omega)]))
    unfold clash at h4
    rw [he] at h4
    simp only [beq_self_eq_true, Bool.true_and, Bool.not_eq_true', Bool.not_eq_false] at h4
    exact itemEq_iff.1 h4
  refine ⟨h2, ?_, ?_⟩
  · intro x hx
    obtain ⟨i, hi, rfl⟩ := List.mem_iff_getElem.1 hx
    exact ⟨(key i hi).1, (key i hi).2.1⟩
  · intro x hx y hy he
    obtain ⟨i, hi, rfl⟩ := List.mem_iff_getElem.1 hx
    obtain ⟨j, hj, rfl⟩ := List.mem_iff_getElem.1 hy
    rcases Nat.lt_trichotomy i j with h | h | h
    · exact (key j hj).2.2 i h he
    · subst h; rfl
    · exact ((key i hi).2.2 j h he.symm).symm
theorem spec_itemsOk {l : List TItem} (h : SzI l) : F_spec_ItemsOk l = some (itemsOk l) := by
  have hlen := h.1
  have hl : iter (S_spec_ItemsOk_1 l) 0 = some (if (List.range l.length).all (itOk l) then .inr () else .inl false) := by
    refine iter_all (fun i => (i : Int)) l.length _ ?_ ?_ ?_
    all_goals first
      | (unfold S_spec_ItemsOk_1; simp; done)
      | skip
    all_goals
      intro i hi hp
      have inner : iter (S_spec_ItemsOk_2 l (i : Int)) 0 = some (if (l.take i).any (clash l[i]) then .inl false else .inr ()) := by
        refine any_loop (by omega) ?_ ?_
        · intro j hj hji
          unfold S_spec_ItemsOk_2
          simp only [dlt hji, if_true, at?_nat hj, at?_nat hi, Option.bind_some, w64_succ (show j < 9223372036854775807 by omega)]
          show ((if (l[j].Seq == l[i].Seq) = true then (if (!itemEq l[j] l[i]) = true then some true else some false) else some false) : Option Bool).bind _ = _
          unfold clash
          cases l[j].Seq == l[i].Seq <;> cases itemEq l[j] l[i] <;> simp
        · unfold S_spec_ItemsOk_2
          simp
      have hr := spec_recOk (RecS.of (h.2 _ (List.getElem_mem hi)).sRec)
      unfold itOk at hp
      rw [List.getElem?_eq_getElem hi] at hp
      dsimp only at hp
      unfold S_spec_ItemsOk_1
      simp only [dlt hi, if_true, at?_nat hi, Option.bind_some, spec_in, inner, hr]
      generalize inR l[i].Seq 1 1000000000 = b1 at hp ⊢
      generalize recOk l[i].Rec = b2 at hp ⊢
      generalize (l.take i).any (clash l[i]) = b4 at hp ⊢
      revert hp
      cases b1 <;> cases b2 <;> cases b4 <;> simp [w64_succ (show i < 9223372036854775807 by omega)]
  unfold F_spec_ItemsOk itemsOk
  rw [hl]
  cases (List.range l.length).all (itOk l)
  · simp
  · simp; omega
theorem impl_itemsOk {l : List TItem} (h : SzI l) : F_impl_ItemsOk l = some (itemsOk l) := by
  have hlen := h.1
  have hl : iter (S_impl_ItemsOk_1 l) 0 = some (if (List.range l.length).all (itOk l) then .inr () else .inl false) := by
    refine iter_all (fun i => (i : Int)) l.length _ ?_ ?_ ?_
    all_goals first
      | (unfold S_impl_ItemsOk_1; simp; done)
      | skip
    all_goals
      intro i hi hp
      have hc := p_slices_ContainsFunc_Item_ItemsOk_1 (x0 := l.take i) (x1 := l[i]) (q := clash l[i]) (by simp; omega) (fun y _ => by
        show (if (y.Seq == l[i].Seq) = true then some (!itemEq y l[i]) else some false) = _
        unfold clash
        cases y.Seq == l[i].Seq <;> simp)
      have hr := impl_recOk (RecS.of (h.2 _ (List.getElem_mem hi)).sRec)
      unfold itOk at hp
      rw [List.getElem?_eq_getElem hi] at hp
      dsimp only at hp
      unfold S_impl_ItemsOk_1
      simp only [dlt hi, if_true, at?_nat hi, Option.bind_some, impl_in, hc, hr, sub?_take (Nat.le_of_lt hi)]
      generalize inR l[i].Seq 1 1000000000 = b1 at hp ⊢
      generalize recOk l[i].Rec = b2 at hp ⊢
      generalize (l.take i).any (clash l[i]) = b4 at hp ⊢
      revert hp
      cases b1 <;> cases b2 <;> cases b4 <;> simp [w64_succ (show i < 9223372036854775807 by omega)]
  unfold F_impl_ItemsOk itemsOk
  rw [hl]
  by_cases h2 : l.length ≤ 200
  · rw [if_neg (by simp; omega)]
    cases (List.range l.length).all (itOk l) <;> simp [h2]
  · rw [if_pos (by simp; omega)]
    simp [h2]
/-! ### the latest -/
def pk (p : TItem → Bool) (lt : TItem → TItem → Bool) (l : List TItem) : Nat → Option TItem
  | 0 => none
  | i + 1 => match l[i]? with
    | some x => if p x && (match pk p lt l i with | none => true | some b => lt b x) then some x else pk p lt l i
    | none => pk p lt l i
def pick (p : TItem → Bool) (lt : TItem → TItem → Bool) (l : List TItem) : Option TItem := pk p lt l l.length
abbrev StI := Bool × Int × Int × Int × Int × Int × Int × Int × List UInt8 × List UInt8 × List UInt8
abbrev ReI := Bool × Int × Int × Int × Int × Int × Int × List UInt8 × List UInt8 × List UInt8
def stI (o : Option TItem) (i : Int) : StI := (o.isSome, i, (o.getD item0).Seq, (o.getD item0).Rec.Kind, (o.getD item0).Rec.Valid, (o.getD item0).Rec.Uid, (o.getD item0).Rec.Next, (o.getD item0).Rec.Flags, (o.getD item0).Rec.User, (o.getD item0).Rec.Name, (o.getD item0).Rec.Text)
def reI (o : Option TItem) : ReI := (o.isSome, (o.getD item0).Seq, (o.getD item0).Rec.Kind, (o.getD item0).Rec.Valid, (o.getD item0).Rec.Uid, (o.getD item0).Rec.Next, (o.getD item0).Rec.Flags, (o.getD item0).Rec.User, (o.getD item0).Rec.Name, (o.getD item0).Rec.Text)
theorem pick_loop {l : List TItem} {p : TItem → Bool} {lt : TItem → TItem → Bool} {step : StI → Option (StI ⊕ ReI)}
    (h1 : ∀ (i : Nat) (h : i < l.length) (o : Option TItem), step (stI o (i : Int)) = some (.inl (stI (if p l[i] && (match o with | none => true | some b => lt b l[i]) then some l[i] else o) ((i + 1 : Nat) : Int))))
    (h2 : ∀ o, step (stI o (l.length : Int)) = some (.inr (reI o))) : iter step (stI none 0) = some (reI (pick p lt l)) := by
  refine iter_range (step := step) (fun i => stI (pk p lt l i) (i : Int)) l.length ?_ (h2 _)
  intro i hi
  rw [h1 i hi]
  conv => rhs; rw [pk, List.getElem?_eq_getElem hi]
def optI (o : Option TItem) : TItem × Bool := (o.getD item0, o.isSome)
def bySeq (a b : TItem) : Bool := decide (a.Seq < b.Seq)
def byNext (a b : TItem) : Bool := if a.Rec.Next != b.Rec.Next then decide (a.Rec.Next < b.Rec.Next) else decide (a.Seq < b.Seq)
def isM (kind valid uid : Int) (x : TItem) : Bool := x.Rec.Kind == kind && x.Rec.Valid == valid && x.Rec.Uid == uid
def isB (kind valid : Int) (x : TItem) : Bool := x.Rec.Kind == kind && x.Rec.Valid == valid
theorem spec_best {l : List TItem} (h : l.length ≤ 1048576) (k v u : Int) : F_spec_l07Best l k v u = some (optI (pick (isM k v u) bySeq l)) := by
  unfold F_spec_l07Best
  have := pick_loop (l := l) (p := isM k v u) (lt := bySeq) (step := S_spec_l07Best_1 l k v u) ?_ ?_
  · rw [show ((false, 0, 0, 0, 0, 0, 0, 0, [], [], []) : StI) = stI none 0 from rfl, this]; rfl
  · intro i hi o
    unfold S_spec_l07Best_1 stI
    simp only [dlt hi, if_true, at?_nat hi, Option.bind_some, w64_succ (show i < 9223372036854775807 by omega), isM, bySeq]
    rcases o with _ | b
    · by_cases hk : l[i].Rec.Kind = k <;> by_cases hv : l[i].Rec.Valid = v <;> by_cases hu : l[i].Rec.Uid = u <;> simp [hk, hv, hu]
    · by_cases hk : l[i].Rec.Kind = k <;> by_cases hv : l[i].Rec.Valid = v <;> by_cases hu : l[i].Rec.Uid = u <;> by_cases hb : b.Seq < l[i].Seq <;> simp [hk, hv, hu, hb]
  · intro o
    unfold S_spec_l07Best_1 stI reI
    simp
theorem impl_mailItem {l : List TItem} (h : l.length ≤ 1048576) (k v u : Int) : F_impl_mailItem l k v u = some (optI (pick (isM k v u) bySeq l)) := by
  unfold F_impl_mailItem F_impl_latest_mailItem_1_bySeq
  have := pick_loop (l := l) (p := isM k v u) (lt := bySeq) (step := S_impl_latest_mailItem_1_bySeq_1 l k v u) ?_ ?_
  · rw [show ((false, 0, 0, 0, 0, 0, 0, 0, [], [], []) : StI) = stI none 0 from rfl, this]; rfl
  · intro i hi o
    unfold S_impl_latest_mailItem_1_bySeq_1 stI F_impl_mailItem_1_w F_impl_about F_impl_bySeq
    simp only [dlt hi, if_true, at?_nat hi, Option.bind_some, w64_succ (show i < 9223372036854775807 by omega), isM, bySeq]
    rcases o with _ | b
    · by_cases hk : l[i].Rec.Kind = k <;> by_cases hv : l[i].Rec.Valid = v <;> by_cases hu : l[i].Rec.Uid = u <;> simp [hk, hv, hu]
    · by_cases hk : l[i].Rec.Kind = k <;> by_cases hv : l[i].Rec.Valid = v <;> by_cases hu : l[i].Rec.Uid = u <;> by_cases hb : b.Seq < l[i].Seq <;> simp [hk, hv, hu, hb]
  · intro o
    unfold S_impl_latest_mailItem_1_bySeq_1 stI reI
    simp
theorem impl_drop {l : List TItem} (h : l.length ≤ 1048576) (v : Int) : F_impl_latest_boxThere_1_bySeq l v = some (optI (pick (isB 2 v) bySeq l)) := by
  unfold F_impl_latest_boxThere_1_bySeq
  have := pick_loop (l := l) (p := isB 2 v) (lt := bySeq) (step := S_impl_latest_boxThere_1_bySeq_1 l v) ?_ ?_
  · rw [show ((false, 0, 0, 0, 0, 0, 0, 0, [], [], []) : StI) = stI none 0 from rfl, this]; rfl
  · intro i hi o
    unfold S_impl_latest_boxThere_1_bySeq_1 stI F_impl_boxThere_1_w F_impl_about F_impl_bySeq
    simp only [dlt hi, if_true, at?_nat hi, Option.bind_some, w64_succ (show i < 9223372036854775807 by omega), isB, bySeq]
    rcases o with _ | b
    · by_cases hk : l[i].Rec.Kind = 2 <;> by_cases hv : l[i].Rec.Valid = v <;> simp [hk, hv]
    · by_cases hk : l[i].Rec.Kind = 2 <;> by_cases hv : l[i].Rec.Valid = v <;> by_cases hb : b.Seq < l[i].Seq <;> simp [hk, hv, hb]
  · intro o
    unfold S_impl_latest_boxThere_1_bySeq_1 stI reI
    simp
theorem impl_drop2 {l : List TItem} (h : l.length ≤ 1048576) (r : TRec) : F_impl_latest_needed_3_bySeq l r = some (optI (pick (isB 2 r.Valid) bySeq l)) := by
  unfold F_impl_latest_needed_3_bySeq
  have := pick_loop (l := l) (p := isB 2 r.Valid) (lt := bySeq) (step := S_impl_latest_needed_3_bySeq_1 l r) ?_ ?_
  · rw [show ((false, 0, 0, 0, 0, 0, 0, 0, [], [], []) : StI) = stI none 0 from rfl, this]; rfl
  · intro i hi o
    unfold S_impl_latest_needed_3_bySeq_1 stI F_impl_needed_3_w F_impl_about F_impl_bySeq
    simp only [dlt hi, if_true, at?_nat hi, Option.bind_some, w64_succ (show i < 9223372036854775807 by omega), isB, bySeq]
    rcases o with _ | b
    · by_cases hk : l[i].Rec.Kind = 2 <;> by_cases hv : l[i].Rec.Valid = r.Valid <;> simp [hk, hv]
    · by_cases hk : l[i].Rec.Kind = 2 <;> by_cases hv : l[i].Rec.Valid = r.Valid <;> by_cases hb : b.Seq < l[i].Seq <;> simp [hk, hv, hb]
  · intro o
    unfold S_impl_latest_needed_3_bySeq_1 stI reI
    simp
theorem impl_box {l : List TItem} (h : l.length ≤ 1048576) (v : Int) : F_impl_latest_boxThere_2_byNext l v = some (optI (pick (isB 1 v) byNext l)) := by
  unfold F_impl_latest_boxThere_2_byNext
  have := pick_loop (l := l) (p := isB 1 v) (lt := byNext) (step := S_impl_latest_boxThere_2_byNext_1 l v) ?_ ?_
  · rw [show ((false, 0, 0, 0, 0, 0, 0, 0, [], [], []) : StI) = stI none 0 from rfl, this]; rfl
  · intro i hi o
    unfold S_impl_latest_boxThere_2_byNext_1 stI F_impl_boxThere_2_w F_impl_about F_impl_byNext
    simp only [dlt hi, if_true, at?_nat hi, Option.bind_some, w64_succ (show i < 9223372036854775807 by omega), isB, byNext]
    rcases o with _ | b
    · by_cases hk : l[i].Rec.Kind = 1 <;> by_cases hv : l[i].Rec.Valid = v <;> simp [hk, hv]
    · by_cases hk : l[i].Rec.Kind = 1 <;> by_cases hv : l[i].Rec.Valid = v <;> by_cases hn : b.Rec.Next = l[i].Rec.Next <;> by_cases hb : b.Seq < l[i].Seq <;> by_cases hx : b.Rec.Next < l[i].Rec.Next <;> simp [hk, hv, hb, hn, hx]
  · intro o
    unfold S_impl_latest_boxThere_2_byNext_1 stI reI
    simp
end Go.Proofs.Ytldndhdohlfpgaa.V
/- What is needed. -/
namespace Go.Proofs.Ytldndhdohlfpgaa.V
open Go Go.RowKit
set_option maxRecDepth 100000
theorem pk_spec {p : TItem → Bool} {lt : TItem → TItem → Bool} {l : List TItem} (irr : ∀ a, lt a a = false) (tr : ∀ a b c, lt a b = true → lt b c = true → lt a c = true) : ∀ i, i ≤ l.length →
    (match pk p lt l i with | some b => b ∈ l ∧ p b = true ∧ ∀ (j : Nat) y, j < i → l[j]? = some y → p y = true → lt b y = false | none => ∀ (j : Nat) y, j < i → l[j]? = some y → p y = false)
  | 0, _ => by simp [pk]
  | i + 1, hi => by
    have ih := pk_spec irr tr (p := p) (l := l) i (by omega)
    have hg : l[i]? = some l[i] := List.getElem?_eq_getElem (by omega)
    rw [pk, hg]
    dsimp only
    cases hp : pk p lt l i with
    | none =>
      rw [hp] at ih
      dsimp only at ih
      cases hx : p l[i] with
      | true =>
        simp only [Bool.true_and, if_true]
        refine ⟨List.getElem_mem _, hx, ?_⟩
        intro j y hj hy hpy
        by_cases e : j = i
        · subst e; rw [hg] at hy; cases hy; exact irr _
        · rw [ih j y (by omega) hy] at hpy; cases hpy
      | false =>
        simp only [Bool.false_and]
        intro j y hj hy
        by_cases e : j = i
        · subst e; rw [hg] at hy; cases hy; exact hx
        · exact ih j y (by omega) hy
    | some b =>
      rw [hp] at ih
      dsimp only at ih
      obtain ⟨h1, h2, h3⟩ := ih
      cases hx : p l[i] with
      | false =>
        simp only [Bool.false_and]
        refine ⟨h1, h2, ?_⟩
        intro j y hj hy hpy
        by_cases e : j = i
        · subst e; rw [hg] at hy; cases hy; rw [hx] at hpy; cases hpy
        · exact h3 j y (by omega) hy hpy
      | true =>
        simp only [Bool.true_and]
        cases hl : lt b l[i] with
        | false =>
          simp only [Bool.false_eq_true, if_false]
          refine ⟨h1, h2, ?_⟩
          intro j y hj hy hpy
          by_cases e : j = i
          · subst e; rw [hg] at hy; cases hy; exact hl
          · exact h3 j y (by omega) hy hpy
        | true =>
          simp only [if_true]
          refine ⟨List.getElem_mem _, hx, ?_⟩
          intro j y hj hy hpy
          by_cases e : j = i
          · subst e; rw [hg] at hy; cases hy; exact irr _
          · have h4 := h3 j y (by omega) hy hpy
            cases h5 : lt l[i] y with
            | false => rfl
            | true => rw [tr _ _ _ hl h5] at h4; cases h4
theorem bySeq_irr (a : TItem) : bySeq a a = false := by simp [bySeq]
theorem bySeq_tr (a b c : TItem) (h : bySeq a b = true) (h' : bySeq b c = true) : bySeq a c = true := by simp [bySeq] at *; omega
theorem byNext_irr (a : TItem) : byNext a a = false := by simp [byNext]
theorem byNext_iff {a b : TItem} : byNext a b = true ↔ a.Rec.Next < b.Rec.Next ∨ (a.Rec.Next = b.Rec.Next ∧ a.Seq < b.Seq) := by
  unfold byNext
  by_cases h : a.Rec.Next = b.Rec.Next
  · simp [h]
  · simp [h]
theorem byNext_tr (a b c : TItem) (h : byNext a b = true) (h' : byNext b c = true) : byNext a c = true := by
  rw [byNext_iff] at *
  omega
theorem pick_some {p lt l b} (irr : ∀ a, lt a a = false) (tr : ∀ a b c, lt a b = true → lt b c = true → lt a c = true) (h : pick p lt l = some b) : b ∈ l ∧ p b = true ∧ ∀ y ∈ l, p y = true → lt b y = false := by
  have := pk_spec (p := p) (l := l) irr tr l.length (Nat.le_refl _)
  unfold pick at h
  rw [h] at this
  refine ⟨this.1, this.2.1, ?_⟩
  intro y hy hp
  obtain ⟨j, hj⟩ := List.getElem?_of_mem hy
  exact this.2.2 j y (List.getElem?_eq_some_iff.1 hj).1 hj hp
theorem pick_none {p lt l} (irr : ∀ a, lt a a = false) (tr : ∀ a b c, lt a b = true → lt b c = true → lt a c = true) (h : pick p lt l = none) : ∀ y ∈ l, p y = false := by
  have := pk_spec (p := p) (l := l) irr tr l.length (Nat.le_refl _)
  unfold pick at h
  rw [h] at this
  intro y hy
  obtain ⟨j, hj⟩ := List.getElem?_of_mem hy
  exact this j y (List.getElem?_eq_some_iff.1 hj).1 hj
theorem pk_congr {p q : TItem → Bool} {lt : TItem → TItem → Bool} {l : List TItem} (h : ∀ y ∈ l, p y = q y) : ∀ i, pk p lt l i = pk q lt l i
  | 0 => rfl
  | i + 1 => by
    unfold pk
    rw [pk_congr h i]
    cases hx : l[i]? with
    | none => rfl
    | some x => simp only [h x (List.mem_of_getElem? hx)]
theorem pick_congr {p q : TItem → Bool} {lt : TItem → TItem → Bool} {l : List TItem} (h : ∀ y ∈ l, p y = q y) : pick p lt l = pick q lt l := pk_congr h _
theorem pick_any {p lt l} (irr : ∀ a, lt a a = false) (tr : ∀ a b c, lt a b = true → lt b c = true → lt a c = true) : (pick p lt l).isSome = l.any p := by
  cases h : pick p lt l with
  | none =>
    have := pick_none irr tr h
    symm
    simp only [Option.isSome_none, List.any_eq_false]
    intro y hy; rw [this y hy]; simp
  | some b =>
    obtain ⟨h1, h2, _⟩ := pick_some irr tr h
    symm
    simp only [Option.isSome_some, List.any_eq_true]
    exact ⟨b, h1, h2⟩
def hasB (l : List TItem) (k v u : Int) : Bool := (pick (isM k v u) bySeq l).isSome
def there (l : List TItem) (v : Int) : Bool := hasB l 1 v 0 && !hasB l 2 v 0
def bigger (a b : TItem) : Bool := decide (a.Rec.Next > b.Rec.Next) || (a.Rec.Next == b.Rec.Next && decide (a.Seq > b.Seq))
def seqIs (o : Option TItem) (x : TItem) : Bool := (o.getD item0).Seq == x.Seq
def needB (l : List TItem) (x : TItem) : Bool :=
  if x.Rec.Kind = 1 then !(l.any fun y => isB 1 x.Rec.Valid y && bigger y x) && there l x.Rec.Valid
  else if x.Rec.Kind = 2 then (l.any fun y => y.Rec.Kind != 2 && y.Rec.Valid == x.Rec.Valid) && seqIs (pick (isM 2 x.Rec.Valid 0) bySeq l) x
  else if x.Rec.Kind = 5 then there l x.Rec.Valid && hasB l 3 x.Rec.Valid x.Rec.Uid && seqIs (pick (isM 5 x.Rec.Valid x.Rec.Uid) bySeq l) x
  else there l x.Rec.Valid && hasB l 3 x.Rec.Valid x.Rec.Uid && !hasB l 5 x.Rec.Valid x.Rec.Uid && seqIs (pick (isM x.Rec.Kind x.Rec.Valid x.Rec.Uid) bySeq l) x
def needK (l : List TItem) (k : Nat) (x : TItem) : Bool := !(l.take k).any (fun y => y.Seq == x.Seq) && needB l x
end Go.Proofs.Ytldndhdohlfpgaa.V
/- What is needed, as the program has it. -/
namespace Go.Proofs.Ytldndhdohlfpgaa.V
open Go Go.RowKit
set_option maxRecDepth 100000
theorem recOk_uid {x : TRec} (h : recOk x = true) (hk : x.Kind = 1 ∨ x.Kind = 2) : x.Uid = 0 := by
  unfold recOk at h
  simp only [Bool.and_eq_true] at h
  have := h.1.1.2
  rw [if_neg (by omega)] at this
  simpa using this
theorem isB_isM {l : List TItem} (hok : itemsOk l = true) {k : Int} (hk : k = 1 ∨ k = 2) (v : Int) : ∀ y ∈ l, isB k v y = isM k v 0 y := by
  intro y hy
  have h1 := ((itemsOk_spec hok).2.1 y hy).2
  unfold isB isM
  by_cases h2 : y.Rec.Kind = k
  · have := recOk_uid h1 (by rw [h2]; exact hk)
    simp [this]
  · simp [h2]
theorem seqIs_iff {l : List TItem} (hok : itemsOk l = true) {p : TItem → Bool} {x : TItem} (hx : x ∈ l) (hp : p x = true) {o : Option TItem} (ho : pick p bySeq l = o) : (o.isSome && itemEq (o.getD item0) x) = seqIs o x := by
  subst ho
  cases h : pick p bySeq l with
  | none => have := pick_none bySeq_irr bySeq_tr h x hx; rw [hp] at this; cases this
  | some b =>
    obtain ⟨h1, h2, _⟩ := pick_some bySeq_irr bySeq_tr h
    unfold seqIs
    rw [Bool.eq_iff_iff]
    simp only [Option.isSome_some, Option.getD_some, Bool.true_and, itemEq_iff, beq_iff_eq]
    exact ⟨fun e => by rw [e], fun e => (itemsOk_spec hok).2.2 b h1 x hx e⟩
theorem box_best {l : List TItem} (hok : itemsOk l = true) {x : TItem} (hx : x ∈ l) (hk : x.Rec.Kind = 1) : itemEq ((pick (isB 1 x.Rec.Valid) byNext l).getD item0) x = !(l.any fun y => isB 1 x.Rec.Valid y && bigger y x) := by
  have hp : isB 1 x.Rec.Valid x = true := by simp [isB, hk]
  cases h : pick (isB 1 x.Rec.Valid) byNext l with
  | none => have := pick_none byNext_irr byNext_tr h x hx; rw [hp] at this; cases this
  | some b =>
    obtain ⟨h1, h2, h3⟩ := pick_some byNext_irr byNext_tr h
    rw [Bool.eq_iff_iff]
    simp only [Option.getD_some, itemEq_iff, Bool.not_eq_true', List.any_eq_false, Bool.and_eq_true, not_and]
    have hb : ∀ y z : TItem, bigger y z = true ↔ byNext z y = true := by
      intro y z
      rw [byNext_iff]
      unfold bigger
      simp only [Bool.or_eq_true, Bool.and_eq_true, decide_eq_true_eq, beq_iff_eq]
      omega
    constructor
    · rintro rfl y hy hpy hby
      rw [hb, h3 y hy hpy] at hby; cases hby
    · intro hall
      have g1 := hall b h1 h2
      rw [hb] at g1
      have g2 := h3 x hx hp
      rw [← Bool.not_eq_true] at g2
      rw [byNext_iff] at g1 g2
      exact (itemsOk_spec hok).2.2 b h1 x hx (by omega)
theorem impl_boxThere {l : List TItem} (h : l.length ≤ 1048576) (hok : itemsOk l = true) (v : Int) : F_impl_boxThere l v = some (if there l v then optI (pick (isB 1 v) byNext l) else (item0, false)) := by
  unfold F_impl_boxThere there hasB
  rw [impl_drop h, Option.bind_some, impl_box h, pick_congr (isB_isM hok (.inr rfl) v)]
  have e : (pick (isB 1 v) byNext l).isSome = (pick (isM 1 v 0) bySeq l).isSome := by
    rw [pick_any byNext_irr byNext_tr, pick_any bySeq_irr bySeq_tr]
    rw [Bool.eq_iff_iff, List.any_eq_true, List.any_eq_true]
    exact ⟨fun ⟨y, h1, h2⟩ => ⟨y, h1, by rw [← isB_isM hok (.inl rfl) v y h1]; exact h2⟩, fun ⟨y, h1, h2⟩ => ⟨y, h1, by rw [isB_isM hok (.inl rfl) v y h1]; exact h2⟩⟩
  rw [← e]
  unfold optI
  cases (pick (isM 2 v 0) bySeq l).isSome with
  | true => simp; rfl
  | false =>
    cases hb : pick (isB 1 v) byNext l <;> simp
theorem impl_mailThere {l : List TItem} (h : l.length ≤ 1048576) (hok : itemsOk l = true) (v u : Int) : ∃ y, F_impl_mailThere l v u = some (y, there l v && !hasB l 5 v u && hasB l 3 v u) := by
  unfold F_impl_mailThere
  rw [impl_boxThere h hok, Option.bind_some]
  have hs : there l v = true → (pick (isB 1 v) byNext l).isSome = true := by
    intro ht
    unfold there hasB at ht
    simp only [Bool.and_eq_true] at ht
    rw [pick_any byNext_irr byNext_tr]
    have := ht.1
    rw [pick_any bySeq_irr bySeq_tr] at this
    obtain ⟨y, h1, h2⟩ := List.any_eq_true.1 this
    exact List.any_eq_true.2 ⟨y, h1, by rw [isB_isM hok (.inl rfl) v y h1]; exact h2⟩
  cases ht : there l v with
  | false => exact ⟨item0, by simp; rfl⟩
  | true =>
    have := hs ht
    simp only [if_true, optI, this, Bool.not_true, Bool.false_eq_true, if_false, impl_mailItem h, Option.bind_some]
    unfold hasB
    cases (pick (isM 5 v u) bySeq l).isSome with
    | true => exact ⟨item0, by simp; rfl⟩
    | false => exact ⟨_, by simp; rfl⟩
theorem impl_need {l : List TItem} (h : l.length ≤ 1048576) (hok : itemsOk l = true) {k : Nat} (hk : k < l.length) : F_impl_needed l (k : Int) = some (needK l k l[k]) := by
  have hc := p_slices_ContainsFunc_Item_needed_1 (x0 := l.take k) (x1 := l[k]) (q := fun y => y.Seq == l[k].Seq) (by simp; omega) (fun y _ => rfl)
  have hc2 := p_slices_ContainsFunc_Item_needed_2 (x0 := l) (x1 := l[k].Rec) (q := fun y => y.Rec.Kind != 2 && y.Rec.Valid == l[k].Rec.Valid) (by omega) (fun y _ => by
    unfold F_impl_needed_2_w
    by_cases q1 : y.Rec.Kind = 2 <;> by_cases q2 : y.Rec.Valid = l[k].Rec.Valid <;> simp [q1, q2])
  have hm : l[k] ∈ l := List.getElem_mem hk
  have hr := ((itemsOk_spec hok).2.1 _ hm).2
  unfold F_impl_needed needK
  rw [at?_nat hk, Option.bind_some, sub?_take (Nat.le_of_lt hk), Option.bind_some, hc, Option.bind_some]
  cases (l.take k).any (fun y => y.Seq == l[k].Seq) with
  | true => rfl
  | false =>
    simp only [Bool.not_false, Bool.true_and, Bool.false_eq_true, if_false]
    unfold needB
    have fin : ∀ {o : Option TItem}, (if o.isSome = true then some ((o.getD item0).Seq == l[k].Seq && ((o.getD item0).Rec.Kind == l[k].Rec.Kind && ((o.getD item0).Rec.Valid == l[k].Rec.Valid && ((o.getD item0).Rec.Uid == l[k].Rec.Uid && ((o.getD item0).Rec.Next == l[k].Rec.Next && ((o.getD item0).Rec.Flags == l[k].Rec.Flags && ((o.getD item0).Rec.User == l[k].Rec.User && ((o.getD item0).Rec.Name == l[k].Rec.Name && ((o.getD item0).Rec.Text == l[k].Rec.Text && true))))))))) else some false) = some (o.isSome && itemEq (o.getD item0) l[k]) := by
      intro o
      cases o <;> rfl
    have kk := kinds (n := l[k].Rec.Kind) (by unfold recOk at hr; simp only [Bool.and_eq_true] at hr; exact hr.1.1.1.1.1)
    rcases kk with e | e | e | e | e
    · have hb := box_best hok hm e
      have h1 := impl_boxThere h hok l[k].Rec.Valid
      rw [if_pos (by simpa using e), if_pos e, h1, Option.bind_some, Option.bind_some]
      cases ht : there l l[k].Rec.Valid with
      | false => simp
      | true =>
        have hp : isB 1 l[k].Rec.Valid l[k] = true := by simp [isB, e]
        have hs : (pick (isB 1 l[k].Rec.Valid) byNext l).isSome = true := by rw [pick_any byNext_irr byNext_tr]; exact List.any_eq_true.2 ⟨_, hm, hp⟩
        rw [← hb]
        simp only [if_true, optI, Sum.elim_inr]
        rw [fin, hs]; simp
    · have hp : isM 2 l[k].Rec.Valid 0 l[k] = true := by simp [isM, e, recOk_uid hr (.inr e)]
      have hs := seqIs_iff hok hm hp rfl
      rw [if_neg (by simp [e]), if_pos (by simp [e]), if_neg (by omega), if_pos e, hc2, Option.bind_some, impl_drop2 h, pick_congr (isB_isM hok (.inr rfl) _)]
      cases l.any (fun y => y.Rec.Kind != 2 && y.Rec.Valid == l[k].Rec.Valid) with
      | false => simp
      | true =>
        simp only [if_true, optI, Option.bind_some, Sum.elim_inr]
        rw [fin, hs]; simp
    · have hp : isM l[k].Rec.Kind l[k].Rec.Valid l[k].Rec.Uid l[k] = true := by simp [isM]
      have hs := seqIs_iff hok hm hp rfl
      obtain ⟨y, h1⟩ := impl_mailThere h hok l[k].Rec.Valid l[k].Rec.Uid
      rw [if_neg (by simp [e]), if_neg (by simp [e]), if_pos (by simp [e]), if_neg (by omega), if_neg (by omega), if_neg (by omega), h1, Option.bind_some, impl_mailItem h]
      cases there l l[k].Rec.Valid <;> cases hasB l 5 l[k].Rec.Valid l[k].Rec.Uid <;> cases hasB l 3 l[k].Rec.Valid l[k].Rec.Uid <;> simp only [Bool.not_true, Bool.not_false, Bool.true_and, Bool.false_and, Bool.and_false, if_true, if_false, Bool.false_eq_true, optI, Option.bind_some, Sum.elim_inr, Sum.elim_inl]
      all_goals first
        | (rw [fin, hs]; done)
        | rfl
    · have hp : isM l[k].Rec.Kind l[k].Rec.Valid l[k].Rec.Uid l[k] = true := by simp [isM]
      have hs := seqIs_iff hok hm hp rfl
      obtain ⟨y, h1⟩ := impl_mailThere h hok l[k].Rec.Valid l[k].Rec.Uid
      rw [if_neg (by simp [e]), if_neg (by simp [e]), if_neg (by simp [e]), if_pos (by simp [e]), Option.bind_some, if_pos rfl, if_neg (by omega), if_neg (by omega), if_neg (by omega), h1, Option.bind_some, impl_mailItem h]
      cases there l l[k].Rec.Valid <;> cases hasB l 5 l[k].Rec.Valid l[k].Rec.Uid <;> cases hasB l 3 l[k].Rec.Valid l[k].Rec.Uid <;> simp only [Bool.not_true, Bool.not_false, Bool.true_and, Bool.false_and, Bool.and_false, if_true, if_false, Bool.false_eq_true, optI, Option.bind_some, Sum.elim_inr, Sum.elim_inl]
      all_goals first
        | (rw [fin, hs]; done)
        | rfl
    · have hp : isM 5 l[k].Rec.Valid l[k].Rec.Uid l[k] = true := by simp [isM, e]
      have hs := seqIs_iff hok hm hp rfl
      have h1 := impl_boxThere h hok l[k].Rec.Valid
      have hbx : there l l[k].Rec.Valid = true → (pick (isB 1 l[k].Rec.Valid) byNext l).isSome = true := by
        intro ht
        unfold there hasB at ht
        simp only [Bool.and_eq_true] at ht
        rw [pick_any byNext_irr byNext_tr]
        have := ht.1
        rw [pick_any bySeq_irr bySeq_tr] at this
        obtain ⟨y, g1, g2⟩ := List.any_eq_true.1 this
        exact List.any_eq_true.2 ⟨y, g1, by rw [isB_isM hok (.inl rfl) _ y g1]; exact g2⟩
      rw [if_neg (by simp [e]), if_neg (by simp [e]), if_neg (by simp [e]), if_neg (by simp [e]), Option.bind_some, if_neg (by simp), if_pos (by simp [e]), if_neg (by omega), if_neg (by omega), if_pos e, h1, Option.bind_some, impl_mailItem h, Option.bind_some, impl_mailItem h]
      unfold hasB optI
      cases ht : there l l[k].Rec.Valid with
      | false => rfl
      | true =>
        have := hbx ht
        generalize (pick (isM 3 l[k].Rec.Valid l[k].Rec.Uid) bySeq l).isSome = b3
        cases b3 <;> simp only [Bool.not_true, Bool.not_false, Bool.true_and, Bool.false_and, Bool.and_false, if_true, if_false, Bool.false_eq_true, this, Option.bind_some, Sum.elim_inr, Sum.elim_inl]
        rw [fin, hs]
end Go.Proofs.Ytldndhdohlfpgaa.V
/- What items tell: boxes and mails. The plain law. -/
namespace Go.Proofs.Ytldndhdohlfpgaa.V
open Go Go.RowKit
set_option maxRecDepth 100000
def mailOf (l : List TItem) (v u : Int) : TMail := { Uid := u, Flags := ((pick (isM 4 v u) bySeq l).getD ((pick (isM 3 v u) bySeq l).getD item0)).Rec.Flags, Text := ((pick (isM 3 v u) bySeq l).getD item0).Rec.Text }
def isA (l : List TItem) (v : Int) (x : TItem) : Bool := x.Rec.Kind == 3 && (x.Rec.Valid == v && !hasB l 5 v x.Rec.Uid)
def uidsOf (l : List TItem) (v : Int) : List Int := uniq ((l.filter (isA l v)).map fun x => x.Rec.Uid)
def isAG (v : Int) (x : TItem) : Bool := (x.Rec.Kind == 3 && x.Rec.Valid == v) || (x.Rec.Kind == 5 && x.Rec.Valid == v)
def allUids (l : List TItem) (v : Int) : List Int := uniq ((l.filter (isAG v)).map fun x => x.Rec.Uid)
def tellOf (l : List TItem) (v : Int) : TItem := (pick (isB 1 v) byNext l).getD item0
def kOf (v : Int) (x : TItem) : Int := if x.Rec.Valid = v then (if x.Rec.Kind = 1 then x.Rec.Next else if x.Rec.Kind = 3 ∨ x.Rec.Kind = 5 then x.Rec.Uid + 1 else 0) else 0
def nextOf (l : List TItem) (v : Int) : Int := l.foldl (fun n x => max n (kOf v x)) 1
def mailsOf (l : List TItem) (v : Int) : List TMail := (uidsOf l v).map (mailOf l v)
def boxOf (l : List TItem) (v : Int) : TBox := { Valid := v, User := (tellOf l v).Rec.User, Name := (tellOf l v).Rec.Name, Next := nextOf l v, Mails := mailsOf l v }
def isBx (l : List TItem) (x : TItem) : Bool := x.Rec.Kind == 1 && !hasB l 2 x.Rec.Valid 0
def validsOf (l : List TItem) : List Int := uniq ((l.filter (isBx l)).map fun x => x.Rec.Valid)
def allValids (l : List TItem) : List Int := uniq ((l.filter fun x => x.Rec.Kind == 1).map fun x => x.Rec.Valid)
def stateOf (l : List TItem) : TState := if itemsOk l then { Boxes := (validsOf l).map (boxOf l) } else { Boxes := [] }
theorem hasB_iff {l : List TItem} {k v u : Int} : hasB l k v u = true ↔ ∃ y ∈ l, y.Rec.Kind = k ∧ y.Rec.Valid = v ∧ y.Rec.Uid = u := by
  unfold hasB
  rw [pick_any bySeq_irr bySeq_tr, List.any_eq_true]
  simp only [isM, Bool.and_eq_true, beq_iff_eq]
  exact ⟨fun ⟨y, h, ⟨h1, h2⟩, h3⟩ => ⟨y, h, h1, h2, h3⟩, fun ⟨y, h, h1, h2, h3⟩ => ⟨y, h, ⟨h1, h2⟩, h3⟩⟩
theorem ok_rec {l : List TItem} (hok : itemsOk l = true) {x : TItem} (hx : x ∈ l) : recOk x.Rec = true := ((itemsOk_spec hok).2.1 x hx).2
theorem recOk_next {x : TRec} (h : recOk x = true) (hk : x.Kind = 1) : 1 ≤ x.Next ∧ x.Next ≤ 10000 := by
  unfold recOk at h
  simp only [Bool.and_eq_true] at h
  have := h.1.1.1.2
  rw [if_pos hk] at this
  simp only [inR, Bool.and_eq_true, decide_eq_true_eq] at this
  exact this.2
theorem recOk_uid9 {x : TRec} (h : recOk x = true) : 0 ≤ x.Uid ∧ x.Uid ≤ 9999 := by
  unfold recOk at h
  simp only [Bool.and_eq_true] at h
  have := h.1.1.2
  by_cases hk : x.Kind = 3 ∨ x.Kind = 4 ∨ x.Kind = 5
  · rw [if_pos hk] at this
    simp only [inR, Bool.and_eq_true, decide_eq_true_eq] at this; omega
  · rw [if_neg hk] at this
    have : x.Uid = 0 := by simpa using this
    omega
theorem valids_eq {l : List TItem} (hok : itemsOk l = true) : (allValids l).filter (there l) = validsOf l := by
  unfold allValids validsOf
  rw [uniq_filter, List.filter_map, List.filter_filter]
  congr 2
  refine List.filter_congr fun x hx => ?_
  show (there l x.Rec.Valid && (x.Rec.Kind == 1)) = isBx l x
  unfold isBx
  by_cases hk : x.Rec.Kind = 1
  · have h1 : hasB l 1 x.Rec.Valid 0 = true := hasB_iff.2 ⟨x, hx, hk, rfl, recOk_uid (ok_rec hok hx) (.inl hk)⟩
    simp [there, h1, hk]
  · have h0 : (x.Rec.Kind == 1) = false := by simpa using hk
    simp [h0]
theorem uids_eq {l : List TItem} {v : Int} (ht : there l v = true) : (allUids l v).filter (fun u => there l v && !hasB l 5 v u && hasB l 3 v u) = uidsOf l v := by
  unfold allUids uidsOf
  refine asc_eq (asc_filter (uniq_spec _).1 _) (uniq_spec _).1 fun u => ?_
  rw [List.mem_filter, (uniq_spec _).2, (uniq_spec _).2]
  simp only [List.mem_map, List.mem_filter, ht, Bool.true_and, Bool.and_eq_true, isA, isAG, Bool.or_eq_true, beq_iff_eq]
  constructor
  · rintro ⟨_, h5, h3⟩
    obtain ⟨y, hy, h1, h2, rfl⟩ := hasB_iff.1 h3
    exact ⟨y, ⟨hy, h1, h2, h5⟩, rfl⟩
  · rintro ⟨y, ⟨hy, h1, h2, h5⟩, rfl⟩
    exact ⟨⟨y, ⟨hy, .inl ⟨h1, h2⟩⟩, rfl⟩, h5, hasB_iff.2 ⟨y, hy, h1, h2, rfl⟩⟩
theorem fold_max {α : Type} (f : α → Int) : ∀ (l : List α) (n : Int), n ≤ l.foldl (fun n x => max n (f x)) n ∧ (∀ x ∈ l, f x ≤ l.foldl (fun n x => max n (f x)) n) ∧ ∀ M, n ≤ M → (∀ x ∈ l, f x ≤ M) → l.foldl (fun n x => max n (f x)) n ≤ M
  | [], n => ⟨Int.le_refl _, by simp, fun M h _ => h⟩
  | a :: l, n => by
    obtain ⟨h1, h2, h3⟩ := fold_max f l (max n (f a))
    simp only [List.foldl_cons]
    refine ⟨by omega, ?_, ?_⟩
    · intro x hx
      rcases List.mem_cons.1 hx with rfl | hx
      · omega
      · exact h2 x hx
    · intro M hn hM
      refine h3 M ?_ fun x hx => hM x (by simp [hx])
      have := hM a (by simp)
      omega
theorem tell_spec {l : List TItem} (hok : itemsOk l = true) {v : Int} (ht : there l v = true) : tellOf l v ∈ l ∧ (tellOf l v).Rec.Kind = 1 ∧ (tellOf l v).Rec.Valid = v ∧ (∀ y ∈ l, y.Rec.Kind = 1 → y.Rec.Valid = v → byNext (tellOf l v) y = false) ∧ pick (isB 1 v) byNext l = some (tellOf l v) := by
  unfold there at ht
  simp only [Bool.and_eq_true] at ht
  obtain ⟨y, hy, h1, h2, _⟩ := hasB_iff.1 ht.1
  unfold tellOf
  cases h : pick (isB 1 v) byNext l with
  | none =>
    have := pick_none byNext_irr byNext_tr h y hy
    simp [isB, h1, h2] at this
  | some b =>
    obtain ⟨g1, g2, g3⟩ := pick_some byNext_irr byNext_tr h
    simp only [isB, Bool.and_eq_true, beq_iff_eq] at g2
    exact ⟨g1, g2.1, g2.2, fun y hy e1 e2 => g3 y hy (by simp [isB, e1, e2]), rfl⟩
theorem next_eq {l : List TItem} (hok : itemsOk l = true) {v : Int} (ht : there l v = true) : (allUids l v).foldl (fun n u => max n (u + 1)) (tellOf l v).Rec.Next = nextOf l v := by
  obtain ⟨h1, h2, h3, h4, _⟩ := tell_spec hok ht
  obtain ⟨a1, a2, a3⟩ := fold_max (fun u : Int => u + 1) (allUids l v) (tellOf l v).Rec.Next
  obtain ⟨b1, b2, b3⟩ := fold_max (kOf v) l 1
  have hn := recOk_next (ok_rec hok h1) h2
  refine Int.le_antisymm ?_ ?_
  · refine a3 _ ?_ ?_
    · have := b2 _ h1
      rw [kOf, if_pos h3, if_pos h2] at this
      exact this
    · intro u hu
      unfold allUids at hu
      rw [(uniq_spec _).2] at hu
      simp only [List.mem_map, List.mem_filter, isAG, Bool.or_eq_true, Bool.and_eq_true, beq_iff_eq] at hu
      obtain ⟨x, ⟨hx, hk⟩, rfl⟩ := hu
      have := b2 x hx
      rw [kOf, if_pos (by rcases hk with hk | hk <;> exact hk.2), if_neg (by rcases hk with hk | hk <;> omega), if_pos (by rcases hk with hk | hk <;> simp [hk.1])] at this
      exact this
  · refine b3 _ (by omega) ?_
    intro x hx
    unfold kOf
    split
    case isFalse => omega
    rename_i hv
    split
    · rename_i hk
      have := h4 x hx hk hv
      rw [← Bool.not_eq_true, byNext_iff] at this
      omega
    · split
      · rename_i hk
        refine a2 _ ?_
        unfold allUids
        rw [(uniq_spec _).2]
        exact List.mem_map.2 ⟨x, List.mem_filter.2 ⟨hx, by rcases hk with hk | hk <;> simp [isAG, hk, hv]⟩, rfl⟩
      · omega
theorem nextOf_bd {l : List TItem} (hok : itemsOk l = true) (v : Int) : 1 ≤ nextOf l v ∧ nextOf l v ≤ 10000 := by
  obtain ⟨b1, b2, b3⟩ := fold_max (kOf v) l 1
  refine ⟨b1, b3 _ (by omega) ?_⟩
  intro x hx
  have hr := ok_rec hok hx
  have := recOk_uid9 hr
  unfold kOf
  split
  · split
    · exact (recOk_next hr (by assumption)).2
    · split <;> omega
  · omega
theorem allUids_bd {l : List TItem} (hok : itemsOk l = true) {v u : Int} (h : u ∈ allUids l v) : 0 ≤ u ∧ u ≤ 9999 := by
  unfold allUids at h
  rw [(uniq_spec _).2] at h
  obtain ⟨x, hx, rfl⟩ := List.mem_map.1 h
  exact recOk_uid9 (ok_rec hok (List.mem_filter.1 hx).1)
end Go.Proofs.Ytldndhdohlfpgaa.V
/- What items tell, as the functions have it. -/
namespace Go.Proofs.Ytldndhdohlfpgaa.V
open Go Go.RowKit
set_option maxRecDepth 100000
theorem take_succ' {α : Type} {l : List α} {i : Nat} (h : i < l.length) : l.take (i + 1) = l.take i ++ [l[i]] := List.take_succ_eq_append_getElem h
theorem flt_loop {α β : Type} {l : List α} {byt : Nat} {p : α → Bool} {f : α → β} {o0 : List β} {step : Int × List β → Option ((Int × List β) ⊕ List β)} (hl : l.length ≤ 1048576) (h0 : o0.length ≤ 1048577) (hb : byt ≤ 1000000)
    (h1 : ∀ (i : Nat) (h : i < l.length) (o : List β), step ((i : Int), o) = if p l[i] then (app? byt o [f l[i]]).bind fun v => some (.inl (((i + 1 : Nat) : Int), v)) else some (.inl (((i + 1 : Nat) : Int), o)))
    (h2 : ∀ o, step ((l.length : Int), o) = some (.inr o)) : iter step (0, o0) = some (o0 ++ (l.filter p).map f) := by
  have h := iter_range (step := step) (fun i => ((i : Int), o0 ++ ((l.take i).filter p).map f)) l.length (r := o0 ++ (l.filter p).map f) ?_ ?_
  · simpa using h
  · intro i hi
    rw [h1 i hi, take_succ' hi, List.filter_append, List.map_append]
    have hf : ((l.take i).filter p).length ≤ i := Nat.le_trans (List.length_filter_le _ _) (by simp; omega)
    cases hp : p l[i]
    · simp [hp]
    · have hm : (o0.length + i + 1) * byt ≤ 2097154 * 1000000 := Nat.mul_le_mul (by omega) hb
      rw [if_pos rfl, app?_ok (by simp; omega) ?_]
      · simp [hp]
      · refine Nat.le_trans (Nat.mul_le_mul_right byt (m := o0.length + i + 1) ?_) (by omega)
        simp; omega
  · rw [List.take_length]; exact h2 _
theorem map_loop {α β : Type} {l : List α} {byt : Nat} {f : α → β} {step : Int × List β → Option ((Int × List β) ⊕ List β)} (hl : l.length ≤ 1048576) (hb : byt ≤ 1000000)
    (h1 : ∀ (i : Nat) (h : i < l.length) (o : List β), step ((i : Int), o) = (app? byt o [f l[i]]).bind fun v => some (.inl (((i + 1 : Nat) : Int), v)))
    (h2 : ∀ o, step ((l.length : Int), o) = some (.inr o)) : iter step (0, []) = some (l.map f) := by
  have h := flt_loop (l := l) (byt := byt) (p := fun _ => true) (f := f) (o0 := []) (step := step) hl (by simp) hb (fun i h o => by rw [h1 i h o, if_pos rfl]) h2
  have e : l.filter (fun _ => true) = l := by simp
  rw [h, e]; rfl
theorem ins_loop {α : Type} {l : List α} {p : α → Bool} {f : α → Int} {step : Int × List Int → Option ((Int × List Int) ⊕ List Int)} (hl : l.length ≤ 1048576)
    (h1 : ∀ (i : Nat) (h : i < l.length) (o : List Int), o.length ≤ 1048576 → step ((i : Int), o) = some (.inl (((i + 1 : Nat) : Int), if p l[i] then ins o (f l[i]) else o)))
    (h2 : ∀ o, step ((l.length : Int), o) = some (.inr o)) : iter step (0, []) = some (uniq ((l.filter p).map f)) := by
  have h := iter_range (step := step) (fun i => ((i : Int), (((l.take i).filter p).map f).foldl ins [])) l.length (r := uniq ((l.filter p).map f)) ?_ ?_
  · simpa using h
  · intro i hi
    have hlen : ((((l.take i).filter p).map f).foldl ins []).length ≤ 1048576 := by
      rw [insAll_uniq]
      refine Nat.le_trans (uniq_length _) ?_
      rw [List.length_map]
      refine Nat.le_trans (List.length_filter_le _ _) (by simp; omega)
    rw [h1 i hi _ hlen, take_succ' hi, List.filter_append, List.map_append, List.foldl_append]
    cases hp : p l[i] <;> simp [hp]
  · rw [List.take_length, h2, insAll_uniq]
theorem spec_sorted {l : List Int} (h : l.length ≤ 1048576) (x : Int) : F_spec_l07Sorted l x = some (ins l x) := by
  unfold F_spec_l07Sorted ins
  rw [flt_loop (l := l) (byt := 8) (p := fun y => decide (y < x)) (f := fun y => y) (o0 := []) h (by simp) (by omega)]
  · rw [Option.bind_some, List.nil_append, List.map_id']
    have hf : (l.filter fun y => decide (y < x)).length ≤ 1048576 := Nat.le_trans (List.length_filter_le _ _) h
    rw [app?_ok (by simp; omega) (by simp; omega), Option.bind_some]
    rw [flt_loop (l := l) (byt := 8) (p := fun y => decide (y > x)) (f := fun y => y) h (by simp; omega) (by omega)]
    · simp
    · intro i hi o
      unfold S_spec_l07Sorted_2
      simp only [dlt hi, if_true, at?_nat hi, Option.bind_some, w64_succ (show i < 9223372036854775807 by omega)]
    · intro o
      unfold S_spec_l07Sorted_2; simp
  · intro i hi o
    unfold S_spec_l07Sorted_1
    simp only [dlt hi, if_true, at?_nat hi, Option.bind_some, w64_succ (show i < 9223372036854775807 by omega)]
  · intro o
    unfold S_spec_l07Sorted_1; simp
theorem sort_comp {l : List Int} (h : l.length ≤ 1048576) : ((sort? l).bind fun v => (comp? v).bind fun v8 => some v8) = some (uniq l) := by
  unfold sort? comp?
  rw [if_pos (by omega), Option.bind_some, if_pos (by rw [sortI_length]; omega)]
  rfl
theorem spec_tell {l : List TItem} (hok : itemsOk l = true) (v : Int) : F_spec_l07Tell l v = some (tellOf l v) := by
  have hl := (itemsOk_spec hok).1
  have hseq : ∀ i b, i ≤ l.length → pk (isB 1 v) byNext l i = some b → 1 ≤ b.Seq := by
    intro i b hi hb
    have := pk_spec (p := isB 1 v) (l := l) byNext_irr byNext_tr i hi
    rw [hb] at this
    exact ((itemsOk_spec hok).2.1 b this.1).1.1
  unfold F_spec_l07Tell tellOf pick
  let st : Option TItem → Int → Int × Int × Int × Int × Int × Int × Int × List UInt8 × List UInt8 × List UInt8 := fun o i => (i, (o.getD item0).Seq, (o.getD item0).Rec.Kind, (o.getD item0).Rec.Valid, (o.getD item0).Rec.Uid, (o.getD item0).Rec.Next, (o.getD item0).Rec.Flags, (o.getD item0).Rec.User, (o.getD item0).Rec.Name, (o.getD item0).Rec.Text)
  have h := iter_range (step := S_spec_l07Tell_1 l v) (fun i => st (pk (isB 1 v) byNext l i) (i : Int)) l.length (r := (st (pk (isB 1 v) byNext l l.length) 0).2) ?_ ?_
  · have h0 : st (pk (isB 1 v) byNext l 0) ((0 : Nat) : Int) = (0, 0, 0, 0, 0, 0, 0, [], [], []) := rfl
    rw [h0] at h
    rw [h]; rfl
  · intro i hi
    conv => rhs; rw [pk, List.getElem?_eq_getElem hi]
    have hq := hseq i
    generalize pk (isB 1 v) byNext l i = o at hq ⊢
    simp only [st]
    unfold S_spec_l07Tell_1
    simp only [dlt hi, if_true, at?_nat hi, Option.bind_some, w64_succ (show i < 9223372036854775807 by omega), isB, byNext]
    rcases o with _ | b
    · by_cases hk : l[i].Rec.Kind = 1 <;> by_cases hv : l[i].Rec.Valid = v <;> simp [hk, hv, item0]
    · have hb := hq b (by omega) rfl
      have hb0 : b.Seq ≠ 0 := by omega
      rcases Int.lt_trichotomy b.Rec.Next l[i].Rec.Next with hn | hn | hn
      · have e1 : ¬ b.Rec.Next = l[i].Rec.Next := by omega
        by_cases hk : l[i].Rec.Kind = 1 <;> by_cases hv : l[i].Rec.Valid = v <;> simp [hk, hv, hb0, hn, e1]
      · by_cases hk : l[i].Rec.Kind = 1 <;> by_cases hv : l[i].Rec.Valid = v <;> by_cases h2 : b.Seq < l[i].Seq <;> simp [hk, hv, hb0, hn, h2]
      · have e1 : ¬ b.Rec.Next = l[i].Rec.Next := by omega
        have e2 : ¬ l[i].Rec.Next = b.Rec.Next := by omega
        have e3 : ¬ b.Rec.Next < l[i].Rec.Next := by omega
        by_cases hk : l[i].Rec.Kind = 1 <;> by_cases hv : l[i].Rec.Valid = v <;> simp [hk, hv, hb0, e1, e2, e3]
  · unfold S_spec_l07Tell_1
    simp [st]
theorem spec_next {l : List TItem} (hok : itemsOk l = true) (v : Int) : F_spec_l07Next l v = some (nextOf l v) := by
  have hl := (itemsOk_spec hok).1
  unfold F_spec_l07Next nextOf
  have h := iter_range (step := S_spec_l07Next_1 l v) (fun i => ((l.take i).foldl (fun n x => max n (kOf v x)) 1, (i : Int))) l.length (r := l.foldl (fun n x => max n (kOf v x)) 1) ?_ ?_
  · simp only [List.take_zero, List.foldl_nil] at h
    rw [show ((1, 0) : Int × Int) = (1, ((0 : Nat) : Int)) from rfl, h]; rfl
  · intro i hi
    have hu := recOk_uid9 (ok_rec hok (List.getElem_mem hi))
    rw [take_succ' hi, List.foldl_append]
    have hge : 1 ≤ (l.take i).foldl (fun n x => max n (kOf v x)) 1 := (fold_max (kOf v) (l.take i) 1).1
    generalize (l.take i).foldl (fun n x => max n (kOf v x)) 1 = a at hge ⊢
    unfold S_spec_l07Next_1
    simp only [dlt hi, if_true, at?_nat hi, Option.bind_some, w64_succ (show i < 9223372036854775807 by omega), w64_id (n := l[i].Rec.Uid + 1) (by omega) (by omega), List.foldl_cons, List.foldl_nil, kOf]
    have mx : ∀ y : Int, (if decide (y > a) = true then some (Sum.inl (y, ((i + 1 : Nat) : Int))) else some (Sum.inl (a, ((i + 1 : Nat) : Int))) : Option ((Int × Int) ⊕ Int)) = some (.inl (max a y, ((i + 1 : Nat) : Int))) := by
      intro y
      by_cases h : y > a
      · rw [if_pos (by simpa using h), Int.max_eq_right (by omega)]
      · rw [if_neg (by simpa using h), Int.max_eq_left (by omega)]
    by_cases hv : l[i].Rec.Valid = v
    · simp only [hv, bne_self_eq_false, Bool.false_eq_true, if_true, if_false]
      by_cases h1 : l[i].Rec.Kind = 1
      · simp only [h1, beq_self_eq_true, if_true, Option.bind_some]; exact mx _
      · have k1 : (l[i].Rec.Kind == 1) = false := by simpa using h1
        by_cases h3 : l[i].Rec.Kind = 3
        · have k3 : (l[i].Rec.Kind == 3) = true := by simpa using h3
          simp only [k1, k3, Bool.false_eq_true, if_false, if_true, Option.bind_some, if_neg h1, if_pos (Or.inl h3 : l[i].Rec.Kind = 3 ∨ l[i].Rec.Kind = 5)]; exact mx _
        · have k3 : (l[i].Rec.Kind == 3) = false := by simpa using h3
          by_cases h5 : l[i].Rec.Kind = 5
          · have k5 : (l[i].Rec.Kind == 5) = true := by simpa using h5
            simp only [k1, k3, k5, Bool.false_eq_true, if_false, if_true, Option.bind_some, if_neg h1, if_pos (Or.inr h5 : l[i].Rec.Kind = 3 ∨ l[i].Rec.Kind = 5)]; exact mx _
          · have k5 : (l[i].Rec.Kind == 5) = false := by simpa using h5
            simp only [k1, k3, k5, Bool.false_eq_true, if_false, Option.bind_some, if_neg h1, if_neg (show ¬ (l[i].Rec.Kind = 3 ∨ l[i].Rec.Kind = 5) by omega)]; exact mx _
    · have hvb : (l[i].Rec.Valid != v) = true := by simp [hv]
      simp only [hvb, if_true, if_neg hv]
      rw [Int.max_eq_left (by omega)]
  · rw [List.take_length]
    unfold S_spec_l07Next_1
    simp
theorem spec_mails {l : List TItem} (hl : l.length ≤ 1048576) (v : Int) : F_spec_l07Mails l v = some (mailsOf l v) := by
  unfold F_spec_l07Mails mailsOf
  rw [ins_loop (l := l) (p := isA l v) (f := fun x => x.Rec.Uid) hl, Option.bind_some]
  · have hu : (uidsOf l v).length ≤ 1048576 := by
      unfold uidsOf
      refine Nat.le_trans (uniq_length _) ?_
      rw [List.length_map]
      exact Nat.le_trans (List.length_filter_le _ _) hl
    show (iter (S_spec_l07Mails_2 l v (uidsOf l v)) (0, [])).bind _ = _
    rw [map_loop (l := uidsOf l v) (byt := 32) (f := mailOf l v) hu (by omega)]
    · rfl
    · intro i hi o
      unfold S_spec_l07Mails_2
      simp only [dlt hi, if_true, at?_nat hi, Option.bind_some, w64_succ (show i < 9223372036854775807 by omega), spec_best hl, mailOf, optI]
      cases pick (isM 4 v (uidsOf l v)[i]) bySeq l <;> simp
    · intro o
      unfold S_spec_l07Mails_2; simp
  · intro i hi o ho
    unfold S_spec_l07Mails_1
    simp only [dlt hi, if_true, at?_nat hi, Option.bind_some, w64_succ (show i < 9223372036854775807 by omega), spec_best hl, spec_sorted ho, isA, hasB, optI]
    by_cases h1 : l[i].Rec.Kind = 3 <;> by_cases h2 : l[i].Rec.Valid = v <;> by_cases h3 : (pick (isM 5 v l[i].Rec.Uid) bySeq l).isSome = true <;> simp [h1, h2, h3]
  · intro o
    unfold S_spec_l07Mails_1; simp
theorem validsOf_len {l : List TItem} : (validsOf l).length ≤ l.length := by
  unfold validsOf
  refine Nat.le_trans (uniq_length _) ?_
  rw [List.length_map]
  exact List.length_filter_le _ _
theorem spec_stateOf {l : List TItem} (h : SzI l) : F_spec_StateOf l = some (stateOf l) := by
  have hl := h.1
  unfold F_spec_StateOf stateOf
  rw [spec_itemsOk h, Option.bind_some]
  cases hok : itemsOk l with
  | false => rfl
  | true =>
    rw [if_pos rfl, if_pos rfl, ins_loop (l := l) (p := isBx l) (f := fun x => x.Rec.Valid) hl, Option.bind_some]
    · show (iter (S_spec_StateOf_2 l (validsOf l)) (0, [])).bind _ = _
      have hv : (validsOf l).length ≤ 1048576 := Nat.le_trans validsOf_len hl
      rw [map_loop (l := validsOf l) (byt := 72) (f := boxOf l) hv (by omega)]
      · rfl
      · intro i hi o
        unfold S_spec_StateOf_2
        simp only [dlt hi, if_true, at?_nat hi, Option.bind_some, w64_succ (show i < 9223372036854775807 by omega), spec_tell hok, spec_next hok, spec_mails hl, boxOf]
      · intro o
        unfold S_spec_StateOf_2; simp
    · intro i hi o ho
      unfold S_spec_StateOf_1
      simp only [dlt hi, if_true, at?_nat hi, Option.bind_some, w64_succ (show i < 9223372036854775807 by omega), spec_best hl, spec_sorted ho, isBx, hasB, optI]
      by_cases h1 : l[i].Rec.Kind = 1 <;> by_cases h3 : (pick (isM 2 l[i].Rec.Valid 0) bySeq l).isSome = true <;> simp [h1, h3]
    · intro o
      unfold S_spec_StateOf_1; simp
end Go.Proofs.Ytldndhdohlfpgaa.V
/- What items tell, as the program has it. -/
namespace Go.Proofs.Ytldndhdohlfpgaa.V
open Go Go.RowKit
set_option maxRecDepth 100000
theorem impl_mailThere' {l : List TItem} (h : l.length ≤ 1048576) (hok : itemsOk l = true) (v u : Int) : F_impl_mailThere l v u = some (if there l v && !hasB l 5 v u && hasB l 3 v u then ((pick (isM 3 v u) bySeq l).getD item0, true) else (item0, false)) := by
  unfold F_impl_mailThere
  rw [impl_boxThere h hok, Option.bind_some]
  have hs : there l v = true → (pick (isB 1 v) byNext l).isSome = true := by
    intro ht
    rw [(tell_spec hok ht).2.2.2.2]; rfl
  cases ht : there l v with
  | false => simp; rfl
  | true =>
    have := hs ht
    simp only [if_true, optI, this, Bool.not_true, Bool.false_eq_true, if_false, impl_mailItem h, Option.bind_some]
    unfold hasB
    by_cases h5 : (pick (isM 5 v u) bySeq l).isSome = true
    · simp [h5]; rfl
    · cases h3 : pick (isM 3 v u) bySeq l <;> simp [h5]
theorem impl_numV {l : List TItem} (hl : l.length ≤ 1048576) : F_impl_numbers_StateOf_1 l = some (allValids l) := by
  unfold F_impl_numbers_StateOf_1 allValids
  rw [flt_loop (l := l) (byt := 8) (p := fun x => x.Rec.Kind == 1) (f := fun x => x.Rec.Valid) (o0 := []) hl (by simp) (by omega), Option.bind_some]
  · refine sort_comp ?_
    rw [List.nil_append, List.length_map]
    exact Nat.le_trans (List.length_filter_le _ _) hl
  · intro i hi o
    unfold S_impl_numbers_StateOf_1_1 F_impl_StateOf_1
    simp only [dlt hi, if_true, at?_nat hi, Option.bind_some, w64_succ (show i < 9223372036854775807 by omega)]
  · intro o
    unfold S_impl_numbers_StateOf_1_1; simp
theorem impl_numU {l : List TItem} (hl : l.length ≤ 1048576) (v : Int) : F_impl_numbers_boxState_1 l v = some (allUids l v) := by
  unfold F_impl_numbers_boxState_1 allUids
  rw [flt_loop (l := l) (byt := 8) (p := isAG v) (f := fun x => x.Rec.Uid) (o0 := []) hl (by simp) (by omega), Option.bind_some]
  · refine sort_comp ?_
    rw [List.nil_append, List.length_map]
    exact Nat.le_trans (List.length_filter_le _ _) hl
  · intro i hi o
    unfold S_impl_numbers_boxState_1_1 F_impl_boxState_1_w F_impl_about isAG
    simp only [dlt hi, if_true, at?_nat hi, Option.bind_some, w64_succ (show i < 9223372036854775807 by omega)]
    by_cases h2 : l[i].Rec.Valid = v
    · by_cases h1 : l[i].Rec.Kind = 3
      · simp [h1, h2]
      · by_cases h3 : l[i].Rec.Kind = 5 <;> simp [h1, h2, h3]
    · by_cases h1 : l[i].Rec.Kind = 3
      · simp [h1, h2]
      · by_cases h3 : l[i].Rec.Kind = 5 <;> simp [h1, h2, h3]
  · intro o
    unfold S_impl_numbers_boxState_1_1; simp
theorem allUids_len {l : List TItem} {v : Int} : (allUids l v).length ≤ l.length := by
  unfold allUids
  refine Nat.le_trans (uniq_length _) ?_
  rw [List.length_map]
  exact List.length_filter_le _ _
theorem allValids_len {l : List TItem} : (allValids l).length ≤ l.length := by
  unfold allValids
  refine Nat.le_trans (uniq_length _) ?_
  rw [List.length_map]
  exact List.length_filter_le _ _
theorem impl_boxState {l : List TItem} (hl : l.length ≤ 1048576) (hok : itemsOk l = true) {v : Int} (ht : there l v = true) : F_impl_boxState l (tellOf l v) = some (boxOf l v) := by
  obtain ⟨t1, t2, t3, t4, _⟩ := tell_spec hok ht
  have hul : (allUids l v).length ≤ 1048576 := Nat.le_trans allUids_len hl
  unfold F_impl_boxState
  rw [t3, impl_numU hl, Option.bind_some]
  let q : Int → Bool := fun u => there l v && !hasB l 5 v u && hasB l 3 v u
  have h := iter_range (step := S_impl_boxState_1 l (tellOf l v) (allUids l v)) (fun i => ((i : Int), ((allUids l v).take i).foldl (fun n u => max n (u + 1)) (tellOf l v).Rec.Next, (((allUids l v).take i).filter q).map (mailOf l v))) (allUids l v).length (r := ((allUids l v).foldl (fun n u => max n (u + 1)) (tellOf l v).Rec.Next, ((allUids l v).filter q).map (mailOf l v))) ?_ ?_
  · simp only [List.take_zero, List.foldl_nil, List.filter_nil, List.map_nil] at h
    rw [show ((0, (tellOf l v).Rec.Next, ([] : List TMail)) : Int × Int × List TMail) = (((0 : Nat) : Int), (tellOf l v).Rec.Next, []) from rfl, h, Option.bind_some, next_eq hok ht, uids_eq ht]
    rfl
  · intro i hi
    have hub := allUids_bd hok (List.getElem_mem hi)
    rw [take_succ' hi, List.foldl_append, List.filter_append, List.map_append]
    have hf : (((allUids l v).take i).filter q).length ≤ 1048576 := Nat.le_trans (List.length_filter_le _ _) (by simp; omega)
    generalize ((allUids l v).take i).foldl (fun n u => max n (u + 1)) (tellOf l v).Rec.Next = a
    unfold S_impl_boxState_1
    simp only [dlt hi, if_true, at?_nat hi, Option.bind_some, w64_succ (show i < 9223372036854775807 by omega), w64_id (n := (allUids l v)[i] + 1) (by omega) (by omega), t3, impl_mailThere' hl hok, impl_mailItem hl, optI]
    have mx : (if (allUids l v)[i] + 1 > a then (allUids l v)[i] + 1 else a) = max a ((allUids l v)[i] + 1) := by
      by_cases h : (allUids l v)[i] + 1 > a
      · rw [if_pos h, Int.max_eq_right (by omega)]
      · rw [if_neg h, Int.max_eq_left (by omega)]
    rw [mx]
    show _ = some (Sum.inl (_, _, _ ++ ([(allUids l v)[i]].filter q).map (mailOf l v)))
    by_cases hq : (there l v && !hasB l 5 v (allUids l v)[i] && hasB l 3 v (allUids l v)[i]) = true
    · have hq' : q (allUids l v)[i] = true := hq
      rw [if_pos hq, List.filter_cons, if_pos hq']
      simp only [Bool.not_true, Bool.false_eq_true, if_false]
      have fl' : ((if (pick (isM 4 v (allUids l v)[i]) bySeq l).isSome = true then some ((pick (isM 4 v (allUids l v)[i]) bySeq l).getD item0).Rec.Flags else some ((pick (isM 3 v (allUids l v)[i]) bySeq l).getD item0).Rec.Flags) : Option Int) = some ((pick (isM 4 v (allUids l v)[i]) bySeq l).getD ((pick (isM 3 v (allUids l v)[i]) bySeq l).getD item0)).Rec.Flags := by
        cases pick (isM 4 v (allUids l v)[i]) bySeq l <;> rfl
      rw [fl', Option.bind_some, app?_ok (by simp; omega) (by simp; omega)]
      rfl
    · have hq' : q (allUids l v)[i] = false := (Bool.not_eq_true _).mp hq
      rw [if_neg hq, List.filter_cons, hq']
      simp
  · rw [List.take_length]
    unfold S_impl_boxState_1
    simp
theorem impl_stateOf {l : List TItem} (h : SzI l) : F_impl_StateOf l = some (stateOf l) := by
  have hl := h.1
  unfold F_impl_StateOf stateOf
  rw [impl_itemsOk h, Option.bind_some]
  cases hok : itemsOk l with
  | false => rfl
  | true =>
    rw [if_pos rfl, if_pos rfl, impl_numV hl, Option.bind_some]
    rw [flt_loop (l := allValids l) (byt := 72) (p := there l) (f := boxOf l) (o0 := []) (Nat.le_trans allValids_len hl) (by simp) (by omega), Option.bind_some, valids_eq hok]
    · rfl
    · intro i hi o
      have hvl := @allValids_len l
      unfold S_impl_StateOf_1
      simp only [dlt hi, if_true, at?_nat hi, Option.bind_some, w64_succ (show i < 9223372036854775807 by omega), impl_boxThere hl hok]
      by_cases ht : there l (allValids l)[i] = true
      · have ho : (optI (pick (isB 1 (allValids l)[i]) byNext l)).2 = true := by rw [(tell_spec hok ht).2.2.2.2]; rfl
        have ho1 : (optI (pick (isB 1 (allValids l)[i]) byNext l)).1 = tellOf l (allValids l)[i] := rfl
        rw [if_pos ht, if_pos ht, ho, if_pos rfl, ho1, impl_boxState hl hok ht, Option.bind_some]
      · rw [if_neg ht, if_neg ht]; simp
    · intro o
      unfold S_impl_StateOf_1; simp
/-! ### how great it is -/
theorem pick_mem {l : List TItem} {p : TItem → Bool} {b : TItem} (h : pick p bySeq l = some b) : b ∈ l := (pick_some bySeq_irr bySeq_tr h).1
theorem item0_sz : item0.Rec.User.length ≤ 1048576 ∧ item0.Rec.Name.length ≤ 1048576 ∧ item0.Rec.Text.length ≤ 1048576 := by decide
theorem pickD_text {l : List TItem} (h : SzI l) (p : TItem → Bool) : ((pick p bySeq l).getD item0).Rec.Text.length ≤ 1048576 := by
  cases hp : pick p bySeq l with
  | none => exact item0_sz.2.2
  | some b => exact (h.2 b (pick_mem hp)).sRec.sText
theorem tell_sz {l : List TItem} (h : SzI l) (v : Int) : (tellOf l v).Rec.User.length ≤ 1048576 ∧ (tellOf l v).Rec.Name.length ≤ 1048576 := by
  unfold tellOf
  cases hp : pick (isB 1 v) byNext l with
  | none => exact ⟨item0_sz.1, item0_sz.2.1⟩
  | some b =>
    have hb := (h.2 b (pick_some byNext_irr byNext_tr hp).1).sRec
    exact ⟨hb.sUser, hb.sName⟩
theorem mails_sz {l : List TItem} (h : SzI l) (v : Int) : (mailsOf l v).length ≤ 1048576 ∧ ∀ m ∈ mailsOf l v, Sz_TMail m := by
  unfold mailsOf
  refine ⟨?_, ?_⟩
  · rw [List.length_map]
    unfold uidsOf
    refine Nat.le_trans (uniq_length _) ?_
    rw [List.length_map]
    exact Nat.le_trans (List.length_filter_le _ _) h.1
  · intro m hm
    obtain ⟨u, _, rfl⟩ := List.mem_map.1 hm
    exact ⟨pickD_text h _⟩
theorem state_sz {l : List TItem} (h : SzI l) : (stateOf l).Boxes.length ≤ 1048576 ∧ ∀ b ∈ (stateOf l).Boxes, Sz_TBox b := by
  unfold stateOf
  split
  · refine ⟨?_, ?_⟩
    · show ((validsOf l).map _).length ≤ _
      rw [List.length_map]
      exact Nat.le_trans validsOf_len h.1
    · intro b hb
      obtain ⟨v, _, rfl⟩ := List.mem_map.1 hb
      exact ⟨(tell_sz h v).1, (tell_sz h v).2, mails_sz h v⟩
  · exact ⟨by simp, by simp⟩
end Go.Proofs.Ytldndhdohlfpgaa.V
/- Without what is dropped. -/
namespace Go.Proofs.Ytldndhdohlfpgaa.V
open Go Go.RowKit
set_option maxRecDepth 100000
def dropB (d : List Bool) (k : Nat) : Bool := (d[k]?).getD false
def woT (l : List TItem) (d : List Bool) : Nat → List TItem
  | 0 => []
  | i + 1 => woT l d i ++ (match l[i]? with | some x => if dropB d i then [] else [x] | none => [])
def without (l : List TItem) (d : List Bool) : List TItem := woT l d l.length
theorem woT_len {l : List TItem} {d : List Bool} : ∀ i, (woT l d i).length ≤ i
  | 0 => by simp [woT]
  | i + 1 => by
    have := woT_len (l := l) (d := d) i
    unfold woT
    rw [List.length_append]
    split
    · split <;> simp <;> omega
    · simp; omega
theorem woT_mem {l : List TItem} {d : List Bool} {x : TItem} : ∀ i, x ∈ woT l d i → x ∈ l
  | 0, h => by simp [woT] at h
  | i + 1, h => by
    unfold woT at h
    rcases List.mem_append.1 h with h | h
    · exact woT_mem i h
    · split at h
      · rename_i y hy
        split at h
        · simp at h
        · simp at h; subst h; exact List.mem_of_getElem? hy
      · simp at h
theorem woT_succ {l : List TItem} {d : List Bool} {i : Nat} (hi : i < l.length) : woT l d (i + 1) = if dropB d i then woT l d i else woT l d i ++ [l[i]] := by
  rw [woT, List.getElem?_eq_getElem hi]
  cases dropB d i <;> simp
theorem impl_dropped {d : List Bool} {k : Nat} : F_impl_dropped d (k : Int) = some (dropB d k) := by
  unfold F_impl_dropped dropB
  by_cases h : k < d.length
  · simp [h, at?_nat h]
  · rw [if_neg (by simp; omega), List.getElem?_eq_none (by omega)]; rfl
theorem impl_without {l : List TItem} {d : List Bool} (h : l.length ≤ 1048576) : F_impl_Without l d = some (without l d) := by
  unfold F_impl_Without
  have : iter (S_impl_Without_1 l d) (0, []) = some (without l d) := by
    refine iter_range (fun i => ((i : Int), woT l d i)) l.length ?_ ?_
    · intro i hi
      have hl := woT_len (l := l) (d := d) i
      unfold S_impl_Without_1
      simp only [dlt hi, if_true, at?_nat hi, Option.bind_some, impl_dropped, w64_succ (show i < 9223372036854775807 by omega), app?_ok (byt := 96) (l := woT l d i) (m := [l[i]]) (by simp; omega) (by simp; omega), woT_succ hi]
      cases dropB d i <;> simp
    · unfold S_impl_Without_1
      simp [without]
  rw [this]; rfl
end Go.Proofs.Ytldndhdohlfpgaa.V
/- What is told anew. -/
namespace Go.Proofs.Ytldndhdohlfpgaa.V
open Go Go.RowKit
set_option maxRecDepth 100000
def nextRec (b : TBox) : TRec := { Kind := 1, Valid := b.Valid, Uid := 0, Next := b.Next, Flags := 0, User := b.User, Name := b.Name, Text := [] }
def toldQ (b c : TBox) : Bool := c.Valid == b.Valid && decide (c.Next ≥ b.Next)
def told (s : TState) (b : TBox) : Bool := s.Boxes.any (toldQ b)
def nextsOf (l : List TItem) (d : List Bool) : List TRec := ((stateOf l).Boxes.filter fun b => !told (stateOf (without l d)) b).map nextRec
theorem without_sz {l : List TItem} (h : SzI l) (d : List Bool) : SzI (without l d) := by
  refine ⟨?_, fun y hy => h.2 y (woT_mem _ hy)⟩
  have := woT_len (l := l) (d := d) l.length
  unfold without
  have := h.1
  omega
theorem box_det {l : List TItem} {c : TBox} (h : c ∈ (stateOf l).Boxes) : c = boxOf l c.Valid := by
  unfold stateOf at h
  split at h
  · obtain ⟨v, _, rfl⟩ := List.mem_map.1 h
    rfl
  · simp at h
theorem nextsOf_sz {l : List TItem} (h : SzI l) (d : List Bool) : (nextsOf l d).length ≤ 1048576 ∧ ∀ r ∈ nextsOf l d, Sz_TRec r := by
  have hs := state_sz h
  unfold nextsOf
  refine ⟨?_, ?_⟩
  · rw [List.length_map]
    exact Nat.le_trans (List.length_filter_le _ _) hs.1
  · intro r hr
    obtain ⟨b, hb, rfl⟩ := List.mem_map.1 hr
    have := hs.2 b (List.mem_filter.1 hb).1
    exact ⟨this.sUser, this.sName, by simp [nextRec]⟩
theorem impl_told {l : List TItem} {b : TBox} : (match (stateOf l).Boxes.findIdx? (fun c => c.Valid == b.Valid) with | none => true | some j => decide ((((stateOf l).Boxes[j]?).getD b).Next < b.Next)) = !told (stateOf l) b := by
  cases hf : (stateOf l).Boxes.findIdx? (fun c => c.Valid == b.Valid) with
  | none =>
    rw [List.findIdx?_eq_none_iff] at hf
    have : told (stateOf l) b = false := by
      unfold told
      rw [List.any_eq_false]
      intro c hc
      have := hf c hc
      simp only [toldQ, this, Bool.false_and, Bool.false_eq_true, not_false_eq_true]
    rw [this]; rfl
  | some j =>
    rw [List.findIdx?_eq_some_iff_getElem] at hf
    obtain ⟨hj, hv, _⟩ := hf
    have hv' : (stateOf l).Boxes[j].Valid = b.Valid := by simpa using hv
    have hd := box_det (List.getElem_mem hj)
    rw [hv'] at hd
    have ht : told (stateOf l) b = decide ((stateOf l).Boxes[j].Next ≥ b.Next) := by
      unfold told
      rw [Bool.eq_iff_iff, List.any_eq_true, decide_eq_true_eq]
      constructor
      · rintro ⟨c, hc, hq⟩
        simp only [toldQ, Bool.and_eq_true, beq_iff_eq, decide_eq_true_eq] at hq
        have hc' := box_det hc
        rw [hq.1] at hc'
        rw [hd, ← hc']; exact hq.2
      · intro hn
        exact ⟨_, List.getElem_mem hj, by simp only [toldQ, hv', beq_self_eq_true, Bool.true_and, decide_eq_true_eq]; exact hn⟩
    simp only [List.getElem?_eq_getElem hj, Option.getD_some, ht]
    by_cases hn : (stateOf l).Boxes[j].Next < b.Next
    · simp [hn]
    · have h2 : (stateOf l).Boxes[j].Next ≥ b.Next := by omega
      simp [hn, h2]
theorem impl_nextsOf {l : List TItem} (h : SzI l) (d : List Bool) : F_impl_NextsOf l d = some (nextsOf l d) := by
  have hs := state_sz h
  have hs2 := state_sz (without_sz h d)
  unfold F_impl_NextsOf nextsOf
  rw [impl_without h.1, Option.bind_some, impl_stateOf (without_sz h d), Option.bind_some, impl_stateOf h, Option.bind_some]
  rw [flt_loop (l := (stateOf l).Boxes) (byt := 88) (p := fun b => !told (stateOf (without l d)) b) (f := nextRec) (o0 := []) hs.1 (by simp) (by omega)]
  · simp
  · intro i hi o
    have hidx := p_slices_IndexFunc_Box_NextsOf_1 (x0 := (stateOf (without l d)).Boxes) (x1 := (stateOf l).Boxes[i]) (q := fun c => c.Valid == (stateOf l).Boxes[i].Valid) (by omega) (fun y _ => rfl)
    have ht := impl_told (l := without l d) (b := (stateOf l).Boxes[i])
    unfold S_impl_NextsOf_1
    show _ = if (!told (stateOf (without l d)) (stateOf l).Boxes[i]) = true then (app? 88 o [nextRec (stateOf l).Boxes[i]]).bind _ else _
    rw [← ht]
    cases hf : (stateOf (without l d)).Boxes.findIdx? (fun c => c.Valid == (stateOf l).Boxes[i].Valid) with
    | none =>
      have hidx' : F_slices_IndexFunc_Box_NextsOf_1 (stateOf (without l d)).Boxes (stateOf l).Boxes[i] = some (-1) := by rw [hidx, hf]; rfl
      simp only [dlt hi, if_true, at?_nat hi, Option.bind_some, w64_succ (show i < 9223372036854775807 by omega), hidx']
      rfl
    | some j =>
      have hidx' : F_slices_IndexFunc_Box_NextsOf_1 (stateOf (without l d)).Boxes (stateOf l).Boxes[i] = some (j : Int) := by rw [hidx, hf]; rfl
      have hj : j < (stateOf (without l d)).Boxes.length := by
        rw [List.findIdx?_eq_some_iff_getElem] at hf
        exact hf.1
      have hj0 : decide ((j : Int) < 0) = false := by simp
      simp only [dlt hi, if_true, at?_nat hi, Option.bind_some, w64_succ (show i < 9223372036854775807 by omega), hidx', hj0, Bool.false_eq_true, if_false, at?_nat hj, List.getElem?_eq_getElem hj, Option.getD_some]
      by_cases hn : (stateOf (without l d)).Boxes[j].Next < (stateOf l).Boxes[i].Next
      · simp only [hn, decide_true, if_true, Option.bind_some]; rfl
      · simp only [hn, decide_false, Bool.false_eq_true, if_false, Option.bind_some]
  · intro o
    unfold S_impl_NextsOf_1; simp
end Go.Proofs.Ytldndhdohlfpgaa.V
/- What is needed, item by item. -/
namespace Go.Proofs.Ytldndhdohlfpgaa.V
open Go Go.RowKit
set_option maxRecDepth 100000
/-- A list that is built one by one. -/
theorem app_loop {β : Type} {n byt : Nat} {f : Nat → β} {step : Int × List β → Option ((Int × List β) ⊕ List β)} (hl : n ≤ 1048576) (hb : byt ≤ 1000000)
    (h1 : ∀ (i : Nat) (o : List β), i < n → step ((i : Int), o) = (app? byt o [f i]).bind fun v => some (.inl (((i + 1 : Nat) : Int), v)))
    (h2 : ∀ o, step ((n : Int), o) = some (.inr o)) : iter step (0, []) = some ((List.range n).map f) := by
  refine iter_range (step := step) (fun i => ((i : Int), (List.range i).map f)) n ?_ (h2 _)
  intro i hi
  have hm : (i + 1) * byt ≤ 1048576 * 1000000 := Nat.mul_le_mul (by omega) hb
  rw [h1 i _ hi, app?_ok (by simp; omega) (by simp; omega), List.range_succ, List.map_append]
  rfl
noncomputable def needAll (l : List TItem) : List Bool := (List.range l.length).map fun i => itemsOk l && needK l i ((l[i]?).getD item0)
theorem needAll_len (l : List TItem) : (needAll l).length = l.length := by simp [needAll]
theorem impl_neededAll {l : List TItem} (h : SzI l) : F_impl_NeededAll l = some (needAll l) := by
  have hl := h.1
  unfold F_impl_NeededAll needAll
  rw [impl_itemsOk h, Option.bind_some]
  cases hok : itemsOk l with
  | true =>
    rw [if_pos rfl, app_loop (n := l.length) (byt := 1) (f := fun i => needK l i ((l[i]?).getD item0)) hl (by omega)]
    · simp
    · intro i o hi
      unfold S_impl_NeededAll_2
      simp only [dlt hi, if_true, impl_need hl hok hi, Option.bind_some, w64_succ (show i < 9223372036854775807 by omega), List.getElem?_eq_getElem hi, Option.getD_some]
    · intro o
      unfold S_impl_NeededAll_2; simp
  | false =>
    rw [if_neg (by simp), app_loop (n := l.length) (byt := 1) (f := fun _ => false) hl (by omega)]
    · simp
    · intro i o hi
      unfold S_impl_NeededAll_1
      simp only [dlt hi, if_true, w64_succ (show i < 9223372036854775807 by omega)]
    · intro o
      unfold S_impl_NeededAll_1; simp
end Go.Proofs.Ytldndhdohlfpgaa.V
/- What is shrunk. -/
namespace Go.Proofs.Ytldndhdohlfpgaa.V
open Go Go.RowKit
set_option maxRecDepth 100000
theorem mapi_loop {α β : Type} {l : List α} {byt : Nat} {f : Nat → α → β} {o0 : List β} {step : Int × List β → Option ((Int × List β) ⊕ List β)} (hl : l.length ≤ 1048576) (h0 : o0.length ≤ 1048577) (hb : byt ≤ 1000000)
    (h1 : ∀ (i : Nat) (h : i < l.length) (o : List β), step ((i : Int), o) = (app? byt o [f i l[i]]).bind fun v => some (.inl (((i + 1 : Nat) : Int), v)))
    (h2 : ∀ o, step ((l.length : Int), o) = some (.inr o)) : iter step (0, o0) = some (o0 ++ l.mapIdx f) := by
  have h := iter_range (step := step) (fun i => ((i : Int), o0 ++ (l.take i).mapIdx f)) l.length (r := o0 ++ l.mapIdx f) ?_ ?_
  · simpa using h
  · intro i hi
    have hm : (o0.length + i + 1) * byt ≤ 2097154 * 1000000 := Nat.mul_le_mul (by omega) hb
    have hlt : (l.take i).length = i := by simp; omega
    rw [h1 i hi, take_succ' hi, List.mapIdx_append, app?_ok (by simp; omega) ?_]
    · simp [hlt]
    · refine Nat.le_trans (Nat.mul_le_mul_right byt (m := o0.length + i + 1) ?_) (by omega)
      simp; omega
  · rw [List.take_length]; exact h2 _
noncomputable def goesK (l : List TItem) (d : List Bool) (k : Nat) : Bool := dropB d k && !(((needAll l)[k]?).getD false)
noncomputable def goes (l : List TItem) (d : List Bool) : List Bool := (List.range l.length).map (goesK l d)
noncomputable def shrunk (l : List TItem) (d : List Bool) (q : Int) : List TItem := without l (goes l d) ++ (nextsOf l (goes l d)).mapIdx fun i r => { Seq := w64 (q + (i : Int)), Rec := r }
theorem shrunk_sz {l : List TItem} (h : SzI l) (d : List Bool) (q : Int) : (shrunk l d q).length ≤ 1048576 ∧ ∀ y ∈ shrunk l d q, Sz_TItem y := by
  have hw := without_sz h (goes l d)
  have hn := nextsOf_sz h (goes l d)
  unfold shrunk
  refine ⟨?_, ?_⟩
  · rw [List.length_append, List.length_mapIdx]
    cases hok : itemsOk l with
    | false =>
      have : nextsOf l (goes l d) = [] := by
        have he : stateOf l = { Boxes := [] } := by
          unfold stateOf
          rw [if_neg (by rw [hok]; simp)]
        unfold nextsOf
        rw [he]; rfl
      rw [this]
      have := hw.1
      simp; omega
    | true =>
      have h2 := (itemsOk_spec hok).1
      have h3 : (without l (goes l d)).length ≤ l.length := woT_len l.length
      have h4 : (nextsOf l (goes l d)).length ≤ l.length := by
        unfold nextsOf
        rw [List.length_map]
        refine Nat.le_trans (List.length_filter_le _ _) ?_
        unfold stateOf
        rw [if_pos hok]
        show ((validsOf l).map _).length ≤ _
        rw [List.length_map]
        exact validsOf_len
      omega
  · intro y hy
    rcases List.mem_append.1 hy with hy | hy
    · exact hw.2 y hy
    · obtain ⟨i, hi, rfl⟩ := List.mem_mapIdx.1 hy
      exact ⟨hn.2 _ (List.getElem_mem hi)⟩
theorem goesK_get {l : List TItem} {d : List Bool} {i : Nat} (hi : i < l.length) : ∃ b, at? (needAll l) (i : Int) = some b ∧ goesK l d i = (dropB d i && !b) := by
  have h : i < (needAll l).length := by rw [needAll_len]; exact hi
  exact ⟨_, at?_nat h, by unfold goesK; rw [List.getElem?_eq_getElem h]; rfl⟩
theorem impl_shrunk {l : List TItem} (h : SzI l) (d : List Bool) (q : Int) : F_impl_Shrunk l d q = some (shrunk l d q) := by
  have hl := h.1
  have hn := nextsOf_sz h (goes l d)
  have hw := without_sz h (goes l d)
  unfold F_impl_Shrunk shrunk
  rw [impl_neededAll h, Option.bind_some]
  have hg : iter (S_impl_Shrunk_1 l d (needAll l)) (0, []) = some (goes l d) := by
    unfold goes
    refine app_loop (n := l.length) (byt := 1) (f := goesK l d) hl (by omega) ?_ ?_
    · intro i o hi
      obtain ⟨b, hb1, hb2⟩ := goesK_get (d := d) hi
      unfold S_impl_Shrunk_1
      simp only [dlt hi, if_true, impl_dropped, hb1, Option.bind_some, w64_succ (show i < 9223372036854775807 by omega), hb2]
      cases dropB d i <;> simp
    · intro o
      unfold S_impl_Shrunk_1; simp
  rw [hg, Option.bind_some, impl_without hl, Option.bind_some, impl_nextsOf h, Option.bind_some]
  rw [mapi_loop (l := nextsOf l (goes l d)) (byt := 96) (f := fun i r => ({ Seq := w64 (q + (i : Int)), Rec := r } : TItem)) hn.1 (by have := hw.1; omega) (by omega)]
  · rfl
  · intro i hi o
    unfold S_impl_Shrunk_2
    simp only [dlt hi, if_true, at?_nat hi, Option.bind_some, w64_succ (show i < 9223372036854775807 by omega)]
  · intro o
    unfold S_impl_Shrunk_2; simp
end Go.Proofs.Ytldndhdohlfpgaa.V
/- What is shrunk tells the same. -/
namespace Go.Proofs.Ytldndhdohlfpgaa.V
open Go Go.RowKit
set_option maxRecDepth 100000
/-- Right items, told by their members. -/
theorem itemsOk_iff {l : List TItem} : itemsOk l = true ↔ l.length ≤ 200 ∧ (∀ x ∈ l, (1 ≤ x.Seq ∧ x.Seq ≤ 1000000000) ∧ recOk x.Rec = true) ∧ ∀ x ∈ l, ∀ y ∈ l, x.Seq = y.Seq → x = y := by
  refine ⟨itemsOk_spec, fun ⟨h1, h2, h3⟩ => ?_⟩
  unfold itemsOk
  simp only [Bool.and_eq_true, decide_eq_true_eq, List.all_eq_true]
  refine ⟨fun i hi => ?_, h1⟩
  have hi := List.mem_range.1 hi
  unfold itOk
  rw [List.getElem?_eq_getElem hi]
  have hx := h2 l[i] (List.getElem_mem hi)
  simp only [Bool.and_eq_true, inR, decide_eq_true_eq, Bool.not_eq_true', List.any_eq_false]
  refine ⟨⟨hx.1, hx.2⟩, fun y hy => ?_⟩
  have hy := List.mem_of_mem_take hy
  unfold clash
  by_cases he : y.Seq = l[i].Seq
  · have := h3 y hy l[i] (List.getElem_mem hi) he
    simp [this, itemEq_iff.2 rfl]
  · simp [he]
theorem mem_woT {l : List TItem} {d : List Bool} {j : Nat} (hj : j < l.length) (hd : dropB d j = false) : ∀ i, i ≤ l.length → j < i → l[j] ∈ woT l d i
  | 0, _, h => by omega
  | i + 1, hi, h => by
    rw [woT_succ (by omega)]
    by_cases he : j = i
    · subst he; rw [hd]; simp
    · have := mem_woT hj hd i (by omega) (by omega)
      split
      · exact this
      · exact List.mem_append_left _ this
theorem goes_get {l : List TItem} {d : List Bool} {j : Nat} (hj : j < l.length) : dropB (goes l d) j = goesK l d j := by
  unfold dropB goes
  rw [List.getElem?_map, List.getElem?_range hj]; rfl
/-- What is needed is never let go. -/
theorem need_stays {l : List TItem} (hok : itemsOk l = true) {x : TItem} (hx : x ∈ l) (hn : needB l x = true) (d : List Bool) : x ∈ without l (goes l d) := by
  have hex : ∃ i, ∃ h : i < l.length, l[i].Seq = x.Seq := by
    obtain ⟨i, hi, e⟩ := List.mem_iff_getElem.1 hx
    exact ⟨i, hi, by rw [e]⟩
  have key : ∀ n i, i ≤ n → (h : i < l.length) → l[i].Seq = x.Seq → x ∈ without l (goes l d) := by
    intro n
    induction n using Nat.strongRecOn with
    | _ n ih =>
      intro i hin hi he
      have hxe : l[i] = x := (itemsOk_spec hok).2.2 _ (List.getElem_mem hi) _ hx he
      by_cases hbef : ∃ j, ∃ h : j < i, l[j].Seq = x.Seq
      · obtain ⟨j, hj, e⟩ := hbef
        exact ih j (by omega) j (Nat.le_refl _) (by omega) e
      · have hk : needK l i l[i] = true := by
          unfold needK
          rw [hxe, hn, Bool.and_true, Bool.not_eq_true', List.any_eq_false]
          intro y hy
          obtain ⟨j, hj, rfl⟩ := List.mem_iff_getElem.1 hy
          rw [List.length_take] at hj
          rw [List.getElem_take]
          simp only [beq_iff_eq]
          exact fun e => hbef ⟨j, by omega, e⟩
        have hg : dropB (goes l d) i = false := by
          rw [goes_get hi]
          unfold goesK needAll
          rw [List.getElem?_map, List.getElem?_range hi]
          simp only [Option.map_some, Option.getD_some, List.getElem?_eq_getElem hi, hok, hk, Bool.and_self, Bool.not_true, Bool.and_false]
        have := mem_woT hi hg l.length (Nat.le_refl _) hi
        rwa [hxe] at this
  obtain ⟨i, hi, e⟩ := hex
  exact key i i (Nat.le_refl _) hi e
theorem pick_is {l : List TItem} {p : TItem → Bool} {lt : TItem → TItem → Bool} (irr : ∀ a, lt a a = false) (tr : ∀ a b c, lt a b = true → lt b c = true → lt a c = true) {b : TItem} (hb : b ∈ l) (hp : p b = true)
    (hall : ∀ y ∈ l, p y = true → y ≠ b → lt y b = true) : pick p lt l = some b := by
  cases h : pick p lt l with
  | none => rw [pick_none irr tr h b hb] at hp; cases hp
  | some c =>
    obtain ⟨h1, h2, h3⟩ := pick_some irr tr h
    by_cases hc : c = b
    · rw [hc]
    · have := hall c h1 h2 hc
      rw [h3 b hb hp] at this; cases this
theorem seq_lt {l : List TItem} (hok : itemsOk l = true) {p : TItem → Bool} {b : TItem} (h : pick p bySeq l = some b) : ∀ y ∈ l, p y = true → y ≠ b → bySeq y b = true := by
  obtain ⟨h1, h2, h3⟩ := pick_some bySeq_irr bySeq_tr h
  intro y hy hp hne
  have h4 := h3 y hy hp
  have : y.Seq ≠ b.Seq := fun e => hne ((itemsOk_spec hok).2.2 y hy b h1 e)
  simp only [bySeq, decide_eq_true_eq, decide_eq_false_iff_not] at h4 ⊢
  omega
theorem mem_valids {l : List TItem} (hok : itemsOk l = true) {v : Int} : v ∈ validsOf l ↔ there l v = true := by
  rw [← valids_eq hok, List.mem_filter]
  refine ⟨fun h => h.2, fun h => ⟨?_, h⟩⟩
  unfold there at h
  simp only [Bool.and_eq_true] at h
  obtain ⟨y, hy, h1, h2, _⟩ := hasB_iff.1 h.1
  unfold allValids
  rw [(uniq_spec _).2]
  exact List.mem_map.2 ⟨y, List.mem_filter.2 ⟨hy, by simp [h1]⟩, h2⟩
theorem mem_uids {l : List TItem} {v u : Int} : u ∈ uidsOf l v ↔ hasB l 3 v u = true ∧ hasB l 5 v u = false := by
  unfold uidsOf
  rw [(uniq_spec _).2]
  simp only [List.mem_map, List.mem_filter, isA, Bool.and_eq_true, beq_iff_eq, Bool.not_eq_true']
  constructor
  · rintro ⟨x, ⟨hx, h1, h2, h3⟩, rfl⟩
    exact ⟨hasB_iff.2 ⟨x, hx, h1, h2, rfl⟩, h3⟩
  · rintro ⟨h1, h2⟩
    obtain ⟨x, hx, e1, e2, rfl⟩ := hasB_iff.1 h1
    exact ⟨x, ⟨hx, e1, e2, h2⟩, rfl⟩
/-- What two rows of right items have in common where the second tells the same. -/
structure Tells (l m : List TItem) : Prop where
  okl : itemsOk l = true
  okm : itemsOk m = true
  old : ∀ x ∈ m, x.Rec.Kind ≠ 1 → x ∈ l
  need : ∀ x ∈ l, needB l x = true → x ∈ m
  box : ∀ x ∈ m, x.Rec.Kind = 1 → x ∈ l ∨ (there l x.Rec.Valid = true ∧ x.Rec.User = (tellOf l x.Rec.Valid).Rec.User ∧ x.Rec.Name = (tellOf l x.Rec.Valid).Rec.Name ∧ x.Rec.Next = nextOf l x.Rec.Valid ∧ ∀ y ∈ m, y.Rec.Kind = 1 → y.Rec.Valid = x.Rec.Valid → y ≠ x → byNext y x = true)
  next : ∀ v, there l v = true → ∃ y ∈ m, kOf v y = nextOf l v
theorem Tells.has {l m : List TItem} (t : Tells l m) {k v u : Int} (hk : k ≠ 1) (h : hasB m k v u = true) : hasB l k v u = true := by
  obtain ⟨y, hy, h1, h2, h3⟩ := hasB_iff.1 h
  exact hasB_iff.2 ⟨y, t.old y hy (by omega), h1, h2, h3⟩
theorem Tells.best {l m : List TItem} (t : Tells l m) {k v u : Int} {b : TItem} (h : pick (isM k v u) bySeq l = some b) : b ∈ l ∧ b.Rec.Kind = k ∧ b.Rec.Valid = v ∧ b.Rec.Uid = u ∧ seqIs (pick (isM k v u) bySeq l) b = true := by
  obtain ⟨h1, h2, _⟩ := pick_some bySeq_irr bySeq_tr h
  simp only [isM, Bool.and_eq_true, beq_iff_eq] at h2
  refine ⟨h1, h2.1.1, h2.1.2, h2.2, ?_⟩
  rw [h]; simp [seqIs]
theorem hasB_pick {l : List TItem} {k v u : Int} (h : hasB l k v u = true) : ∃ b, pick (isM k v u) bySeq l = some b := Option.isSome_iff_exists.1 h
theorem need1 {l : List TItem} (hok : itemsOk l = true) {v : Int} (ht : there l v = true) : needB l (tellOf l v) = true := by
  obtain ⟨h1, h2, h3, h4, _⟩ := tell_spec hok ht
  unfold needB
  rw [if_pos h2, h3, ht, Bool.and_true, Bool.not_eq_true', List.any_eq_false]
  intro y hy
  simp only [isB, Bool.and_eq_true, beq_iff_eq, not_and]
  rintro ⟨e1, e2⟩
  have := h4 y hy e1 e2
  rw [← Bool.not_eq_true, byNext_iff] at this
  simp only [bigger, Bool.or_eq_true, Bool.and_eq_true, decide_eq_true_eq, beq_iff_eq]
  omega
theorem needs {l : List TItem} {x : TItem} {k v u : Int} (hk : x.Rec.Kind = k) (hv : x.Rec.Valid = v) (hu : x.Rec.Uid = u) (hs : seqIs (pick (isM k v u) bySeq l) x = true) (ht : there l v = true) (h3 : hasB l 3 v u = true)
    (h : k = 5 ∨ ((k = 3 ∨ k = 4) ∧ hasB l 5 v u = false)) : needB l x = true := by
  subst hk hv hu
  unfold needB
  rcases h with h | ⟨h | h, h5⟩
  · rw [h] at hs ⊢
    simp [ht, h3, hs]
  · rw [h] at hs ⊢
    simp [ht, h3, h5, hs]
  · rw [h] at hs ⊢
    simp [ht, h3, h5, hs]
theorem Tells.there {l m : List TItem} (t : Tells l m) (v : Int) : there m v = there l v := by
  cases h : V.there l v with
  | true =>
    have hm := t.need _ (tell_spec t.okl h).1 (need1 t.okl h)
    obtain ⟨h1, h2, h3, _, _⟩ := tell_spec t.okl h
    unfold V.there at h ⊢
    simp only [Bool.and_eq_true, Bool.not_eq_true'] at h ⊢
    refine ⟨hasB_iff.2 ⟨_, hm, h2, h3, recOk_uid (ok_rec t.okl h1) (.inl h2)⟩, ?_⟩
    cases h5 : hasB m 2 v 0 with
    | false => rfl
    | true => rw [t.has (by decide) h5] at h; exact absurd h.2 (by decide)
  | false =>
    cases hm : hasB m 1 v 0 with
    | false => simp [V.there, hm]
    | true =>
      obtain ⟨y, hy, h1, h2, _⟩ := hasB_iff.1 hm
      have hl : y ∈ l := by
        rcases t.box y hy h1 with hl | hl
        · exact hl
        · rw [h2, h] at hl; exact absurd hl.1 (by decide)
      have h1l : hasB l 1 v 0 = true := hasB_iff.2 ⟨y, hl, h1, h2, recOk_uid (ok_rec t.okl hl) (.inl h1)⟩
      have h2l : hasB l 2 v 0 = true := by
        unfold V.there at h
        rw [h1l] at h
        simpa using h
      obtain ⟨b, hb⟩ := hasB_pick h2l
      obtain ⟨b1, b2, b3, b4, b5⟩ := t.best hb
      have hn : needB l b = true := by
        unfold needB
        rw [if_neg (by omega), if_pos b2, b3, b5, Bool.and_true, List.any_eq_true]
        exact ⟨y, hl, by simp [h1, h2]⟩
      have := hasB_iff.2 ⟨b, t.need b b1 hn, b2, b3, b4⟩
      simp [V.there, this]
theorem Tells.uids {l m : List TItem} (t : Tells l m) {v : Int} (ht : V.there l v = true) (u : Int) : (hasB m 3 v u = true ∧ hasB m 5 v u = false) ↔ (hasB l 3 v u = true ∧ hasB l 5 v u = false) := by
  constructor
  · rintro ⟨h1, h2⟩
    have h3 := t.has (by decide) h1
    refine ⟨h3, ?_⟩
    cases h5 : hasB l 5 v u with
    | false => rfl
    | true =>
      obtain ⟨b, hb⟩ := hasB_pick h5
      obtain ⟨b1, b2, b3, b4, b5⟩ := t.best hb
      have hn := needs b2 b3 b4 b5 ht h3 (.inl rfl)
      rw [hasB_iff.2 ⟨b, t.need b b1 hn, b2, b3, b4⟩] at h2
      cases h2
  · rintro ⟨h1, h2⟩
    obtain ⟨b, hb⟩ := hasB_pick h1
    obtain ⟨b1, b2, b3, b4, b5⟩ := t.best hb
    have hn := needs b2 b3 b4 b5 ht h1 (.inr ⟨.inl rfl, h2⟩)
    refine ⟨hasB_iff.2 ⟨b, t.need b b1 hn, b2, b3, b4⟩, ?_⟩
    cases h5 : hasB m 5 v u with
    | false => rfl
    | true => rw [t.has (by decide) h5] at h2; cases h2
theorem Tells.mail {l m : List TItem} (t : Tells l m) {v : Int} (ht : V.there l v = true) {u : Int} (h3 : hasB l 3 v u = true) (h5 : hasB l 5 v u = false) {k : Int} (hk : k = 3 ∨ k = 4) : pick (isM k v u) bySeq m = pick (isM k v u) bySeq l := by
  cases hb : pick (isM k v u) bySeq l with
  | none =>
    cases hm : pick (isM k v u) bySeq m with
    | none => rfl
    | some c =>
      obtain ⟨h1, h2, _⟩ := pick_some bySeq_irr bySeq_tr hm
      have hc : c ∈ l := t.old c h1 (by simp only [isM, Bool.and_eq_true, beq_iff_eq] at h2; omega)
      rw [pick_none bySeq_irr bySeq_tr hb c hc] at h2; cases h2
  | some b =>
    obtain ⟨b1, b2, b3, b4, b5⟩ := t.best hb
    have hn := needs b2 b3 b4 b5 ht h3 (.inr ⟨hk, h5⟩)
    refine pick_is bySeq_irr bySeq_tr (t.need b b1 hn) (pick_some bySeq_irr bySeq_tr hb).2.1 fun y hy hp hne => ?_
    exact seq_lt t.okl hb y (t.old y hy (by simp only [isM, Bool.and_eq_true, beq_iff_eq] at hp; omega)) hp hne
theorem Tells.nextE {l m : List TItem} (t : Tells l m) {v : Int} (ht : V.there l v = true) : nextOf m v = nextOf l v := by
  obtain ⟨a1, a2, a3⟩ := fold_max (kOf v) m 1
  obtain ⟨b1, b2, b3⟩ := fold_max (kOf v) l 1
  refine Int.le_antisymm (a3 _ b1 fun x hx => ?_) ?_
  · by_cases hk : x.Rec.Kind = 1
    · rcases t.box x hx hk with hl | hl
      · exact b2 x hl
      · by_cases hv : x.Rec.Valid = v
        · rw [kOf, if_pos hv, if_pos hk, hl.2.2.2.1, hv]
          exact Int.le_refl _
        · rw [kOf, if_neg hv]
          have b1 : 1 ≤ nextOf l v := b1
          omega
    · exact b2 x (t.old x hx hk)
  · obtain ⟨y, hy, e⟩ := t.next v ht
    rw [← e]; exact a2 y hy
theorem Tells.tell {l m : List TItem} (t : Tells l m) {v : Int} (ht : V.there l v = true) : (tellOf m v).Rec.User = (tellOf l v).Rec.User ∧ (tellOf m v).Rec.Name = (tellOf l v).Rec.Name := by
  have htm : V.there m v = true := by rw [t.there]; exact ht
  obtain ⟨h1, h2, h3, h4, h5⟩ := tell_spec t.okm htm
  obtain ⟨g1, g2, g3, g4, g5⟩ := tell_spec t.okl ht
  rcases t.box _ h1 h2 with hl | hl
  · have hin := t.need _ g1 (need1 t.okl ht)
    have e1 := h4 _ hin g2 g3
    have e2 := g4 _ hl h2 h3
    rw [← Bool.not_eq_true, byNext_iff] at e1 e2
    have : tellOf m v = tellOf l v := (itemsOk_spec t.okl).2.2 _ hl _ g1 (by omega)
    rw [this]; exact ⟨rfl, rfl⟩
  · rw [h3] at hl
    exact ⟨hl.2.1, hl.2.2.1⟩
theorem Tells.state {l m : List TItem} (t : Tells l m) : stateOf m = stateOf l := by
  unfold stateOf
  rw [if_pos t.okl, if_pos t.okm]
  have hv : validsOf m = validsOf l := by
    refine asc_eq (uniq_spec _).1 (uniq_spec _).1 fun v => ?_
    have := mem_valids t.okm (v := v)
    have h2 := mem_valids t.okl (v := v)
    rw [this, h2, t.there]
  rw [hv]
  congr 1
  refine List.map_congr_left fun v hv => ?_
  have ht := (mem_valids t.okl).1 hv
  have hu : uidsOf m v = uidsOf l v := by
    refine asc_eq (uniq_spec _).1 (uniq_spec _).1 fun u => ?_
    have := mem_uids (l := m) (v := v) (u := u)
    have h2 := mem_uids (l := l) (v := v) (u := u)
    rw [this, h2]
    exact t.uids ht u
  unfold boxOf mailsOf
  rw [(t.tell ht).1, (t.tell ht).2, t.nextE ht, hu]
  congr 1
  refine List.map_congr_left fun u hu => ?_
  have h := mem_uids.1 hu
  unfold mailOf
  rw [t.mail ht h.1 h.2 (.inl rfl), t.mail ht h.1 h.2 (.inr rfl)]
/-- Some of right items are right. -/
theorem without_ok {l : List TItem} (hok : itemsOk l = true) (d : List Bool) : itemsOk (without l d) = true := by
  obtain ⟨h1, h2, h3⟩ := itemsOk_spec hok
  refine itemsOk_iff.2 ⟨Nat.le_trans (woT_len _) h1, fun x hx => h2 x (woT_mem _ hx), fun x hx y hy => h3 x (woT_mem _ hx) y (woT_mem _ hy)⟩
theorem mem_mapi {α β : Type} {l : List α} {f : Nat → α → β} {y : β} : y ∈ l.mapIdx f ↔ ∃ i, ∃ h : i < l.length, f i l[i] = y := List.mem_mapIdx
theorem nexts_mem {l : List TItem} (hok : itemsOk l = true) {d : List Bool} {r : TRec} (h : r ∈ nextsOf l d) : there l r.Valid = true ∧ r = nextRec (boxOf l r.Valid) ∧ told (stateOf (without l d)) (boxOf l r.Valid) = false := by
  unfold nextsOf at h
  obtain ⟨b, hb, rfl⟩ := List.mem_map.1 h
  obtain ⟨hb, hu⟩ := List.mem_filter.1 hb
  have hd := box_det hb
  unfold stateOf at hb
  rw [if_pos hok] at hb
  obtain ⟨v, hv, rfl⟩ := List.mem_map.1 hb
  refine ⟨(mem_valids hok).1 hv, rfl, ?_⟩
  show told (stateOf (without l d)) (boxOf l v) = false
  simpa using hu
theorem nexts_inj {l : List TItem} (hok : itemsOk l = true) {d : List Bool} {i j : Nat} (hi : i < (nextsOf l d).length) (hj : j < (nextsOf l d).length) (he : (nextsOf l d)[i].Valid = (nextsOf l d)[j].Valid) : i = j := by
  have hp : (nextsOf l d).Pairwise (fun a b => a.Valid ≠ b.Valid) := by
    unfold nextsOf
    rw [List.pairwise_map]
    refine List.Pairwise.filter _ ?_
    unfold stateOf
    rw [if_pos hok, List.pairwise_map]
    have : Asc (validsOf l) := (uniq_spec _).1
    exact List.Pairwise.imp (fun h => by show _ ≠ _; exact Int.ne_of_lt h) this
  rcases Nat.lt_trichotomy i j with h | h | h
  · exact absurd he (List.pairwise_iff_getElem.1 hp i j hi hj h)
  · exact h
  · exact absurd he.symm (List.pairwise_iff_getElem.1 hp j i hj hi h)
/-- What is shrunk tells the same, and is right. -/
theorem shrunk_tells {l : List TItem} (hok : itemsOk l = true) (d : List Bool) {q : Int} (hq1 : 1 ≤ q) (hq2 : q ≤ 1000000) (hlt : ∀ x ∈ l, x.Seq < q) (hlen : (without l (goes l d)).length + (nextsOf l (goes l d)).length ≤ 200) : Tells l (shrunk l d q) := by
  generalize hD : goes l d = D at hlen
  have hW := without_ok hok D
  obtain ⟨w1, w2, w3⟩ := itemsOk_spec hW
  obtain ⟨l1, l2, l3⟩ := itemsOk_spec hok
  have hWl : ∀ x ∈ without l D, x ∈ l := fun x hx => woT_mem _ hx
  have hsq : ∀ i, i < (nextsOf l D).length → w64 (q + (i : Int)) = q + i := fun i hi => w64_id (by omega) (by omega)
  have hmem : ∀ x, x ∈ shrunk l d q ↔ x ∈ without l D ∨ ∃ i, ∃ h : i < (nextsOf l D).length, x = { Seq := q + (i : Int), Rec := (nextsOf l D)[i] } := by
    intro x
    unfold shrunk
    rw [hD, List.mem_append, mem_mapi]
    refine or_congr Iff.rfl ⟨?_, ?_⟩
    · rintro ⟨i, hi, rfl⟩; exact ⟨i, hi, by rw [hsq i hi]⟩
    · rintro ⟨i, hi, rfl⟩; exact ⟨i, hi, by rw [hsq i hi]⟩
  have hnew : ∀ i, (h : i < (nextsOf l D).length) → there l (nextsOf l D)[i].Valid = true ∧ (nextsOf l D)[i] = nextRec (boxOf l (nextsOf l D)[i].Valid) ∧ told (stateOf (without l D)) (boxOf l (nextsOf l D)[i].Valid) = false := fun i hi => nexts_mem hok (List.getElem_mem hi)
  have hm1 : itemsOk (shrunk l d q) = true := by
    refine itemsOk_iff.2 ⟨by unfold shrunk; rw [hD, List.length_append, List.length_mapIdx]; exact hlen, ?_, ?_⟩
    · intro x hx
      rcases (hmem x).1 hx with hx | ⟨i, hi, rfl⟩
      · exact w2 x hx
      · obtain ⟨n1, n2, _⟩ := hnew i hi
        refine ⟨by show 1 ≤ q + (i : Int) ∧ q + (i : Int) ≤ 1000000000; omega, ?_⟩
        show recOk (nextsOf l D)[i] = true
        rw [n2]
        obtain ⟨t1, t2, t3, _, _⟩ := tell_spec hok n1
        have hr := ok_rec hok t1
        have hnx := nextOf_bd hok (nextsOf l D)[i].Valid
        unfold recOk at hr ⊢
        simp only [Bool.and_eq_true, t2, t3] at hr
        simp only [nextRec, boxOf, Bool.and_eq_true]
        simp only [if_pos, if_true, show ¬((1 : Int) = 3 ∨ (1 : Int) = 4 ∨ (1 : Int) = 5) by decide, show ¬((1 : Int) = 3 ∨ (1 : Int) = 4) by decide, show ¬((1 : Int) = 3) by decide, if_false] at hr ⊢
        refine ⟨⟨⟨⟨⟨by decide, hr.1.1.1.1.2⟩, ?_⟩, by decide⟩, by decide⟩, by decide⟩
        simp only [Bool.and_eq_true] at hr ⊢
        refine ⟨hr.1.1.1.2.1, ?_⟩
        simp only [inR, Bool.and_eq_true, decide_eq_true_eq]
        exact hnx
    · intro x hx y hy he
      rcases (hmem x).1 hx with hx | ⟨i, hi, rfl⟩ <;> rcases (hmem y).1 hy with hy | ⟨j, hj, rfl⟩
      · exact w3 x hx y hy he
      · have := hlt x (hWl x hx)
        simp only at he; omega
      · have := hlt y (hWl y hy)
        simp only at he; omega
      · simp only at he
        have : i = j := by omega
        subst this; rfl
  have hneed : ∀ x ∈ l, needB l x = true → x ∈ without l D := fun x hx hn => by rw [← hD]; exact need_stays hok hx hn d
  have hwt : ∀ v, there l v = true → there (without l D) v = true := by
    intro v ht
    obtain ⟨t1, t2, t3, _, _⟩ := tell_spec hok ht
    have hin := hneed _ t1 (need1 hok ht)
    unfold there at ht ⊢
    simp only [Bool.and_eq_true, Bool.not_eq_true'] at ht ⊢
    refine ⟨hasB_iff.2 ⟨_, hin, t2, t3, recOk_uid (ok_rec hok t1) (.inl t2)⟩, ?_⟩
    cases h5 : hasB (without l D) 2 v 0 with
    | false => rfl
    | true =>
      obtain ⟨y, hy, y1, y2, y3⟩ := hasB_iff.1 h5
      rw [hasB_iff.2 ⟨y, hWl y hy, y1, y2, y3⟩] at ht
      exact absurd ht.2 (by decide)
  have hunt : ∀ v, there l v = true → told (stateOf (without l D)) (boxOf l v) = decide (nextOf (without l D) v ≥ nextOf l v) := by
    intro v ht
    unfold told
    rw [Bool.eq_iff_iff, List.any_eq_true, decide_eq_true_eq]
    constructor
    · rintro ⟨c, hc, hq⟩
      simp only [toldQ, Bool.and_eq_true, beq_iff_eq, decide_eq_true_eq] at hq
      have := box_det hc
      rw [hq.1] at this
      rw [this] at hq
      exact hq.2
    · intro h
      refine ⟨boxOf (without l D) v, ?_, ?_⟩
      · unfold stateOf
        rw [if_pos hW]
        exact List.mem_map.2 ⟨v, (mem_valids hW).2 (hwt v ht), rfl⟩
      · simp only [toldQ, boxOf, beq_self_eq_true, Bool.true_and]
        exact decide_eq_true h
  refine ⟨hok, hm1, ?_, fun x hx hn => (hmem x).2 (.inl (hneed x hx hn)), ?_, ?_⟩
  · intro x hx hk
    rcases (hmem x).1 hx with hx | ⟨i, hi, rfl⟩
    · exact hWl x hx
    · rw [(hnew i hi).2.1] at hk
      exact absurd rfl hk
  · intro x hx hk
    rcases (hmem x).1 hx with hx | ⟨i, hi, rfl⟩
    · exact .inl (hWl x hx)
    · obtain ⟨n1, n2, n3⟩ := hnew i hi
      refine .inr ?_
      simp only
      refine ⟨n1, by rw [n2]; rfl, by rw [n2]; rfl, by rw [n2]; rfl, ?_⟩
      intro y hy yk yv yne
      have hN : (nextsOf l D)[i].Next = nextOf l (nextsOf l D)[i].Valid := by rw [n2]; rfl
      rw [byNext_iff]
      rcases (hmem y).1 hy with hy | ⟨j, hj, rfl⟩
      · left
        rw [hunt _ n1, decide_eq_false_iff_not] at n3
        show y.Rec.Next < (nextsOf l D)[i].Next
        rw [hN]
        have := (fold_max (kOf (nextsOf l D)[i].Valid) (without l D) 1).2.1 y hy
        rw [kOf, if_pos yv, if_pos yk] at this
        have h2 : y.Rec.Next ≤ nextOf (without l D) (nextsOf l D)[i].Valid := this
        omega
      · have := nexts_inj hok hj hi yv
        subst this
        exact absurd rfl yne
  · intro v ht
    cases hto : told (stateOf (without l D)) (boxOf l v) with
    | true =>
      rw [hunt v ht, decide_eq_true_eq] at hto
      -- the mark itself is there
      obtain ⟨a1, a2, a3⟩ := fold_max (kOf v) (without l D) 1
      obtain ⟨b1, b2, b3⟩ := fold_max (kOf v) l 1
      have hbox : 1 ≤ (tellOf l v).Rec.Next := (recOk_next (ok_rec hok (tell_spec hok ht).1) (tell_spec hok ht).2.1).1
      have hin := hneed _ (tell_spec hok ht).1 (need1 hok ht)
      have hk0 : kOf v (tellOf l v) = (tellOf l v).Rec.Next := by
        rw [kOf, if_pos (tell_spec hok ht).2.2.1, if_pos (tell_spec hok ht).2.1]
      have hex : ∃ y ∈ without l D, nextOf (without l D) v ≤ kOf v y := by
        refine Classical.byContradiction fun hno => ?_
        have hall : ∀ y ∈ without l D, kOf v y ≤ nextOf (without l D) v - 1 := by
          intro y hy
          have : ¬ nextOf (without l D) v ≤ kOf v y := fun h => hno ⟨y, hy, h⟩
          omega
        have h1 := hall _ hin
        have := a3 (nextOf (without l D) v - 1) (by omega) hall
        have e : (without l D).foldl (fun n x => max n (kOf v x)) 1 = nextOf (without l D) v := rfl
        omega
      obtain ⟨y, hy, e⟩ := hex
      refine ⟨y, (hmem y).2 (.inl hy), ?_⟩
      have h1 : kOf v y ≤ nextOf l v := b2 y (hWl y hy)
      omega
    | false =>
      have hin : nextRec (boxOf l v) ∈ nextsOf l D := by
        unfold nextsOf
        refine List.mem_map.2 ⟨boxOf l v, List.mem_filter.2 ⟨?_, by simpa using hto⟩, rfl⟩
        unfold stateOf
        rw [if_pos hok]
        exact List.mem_map.2 ⟨v, (mem_valids hok).2 ht, rfl⟩
      obtain ⟨i, hi, e⟩ := List.mem_iff_getElem.1 hin
      refine ⟨{ Seq := q + (i : Int), Rec := (nextsOf l D)[i] }, (hmem _).2 (.inr ⟨i, hi, rfl⟩), ?_⟩
      unfold kOf
      rw [e]
      simp [nextRec, boxOf]
theorem nexts_len (l : List TItem) (d : List Bool) : (nextsOf l d).length ≤ (stateOf l).Boxes.length := by
  unfold nextsOf
  rw [List.length_map]
  exact List.length_filter_le _ _
theorem without_len (l : List TItem) (d : List Bool) : (without l d).length ≤ l.length := woT_len _
end Go.Proofs.Ytldndhdohlfpgaa.V
/- Drawn records and items are right. -/
namespace Go.Proofs.Ytldndhdohlfpgaa.V
open Go Go.RowKit
set_option maxRecDepth 100000
structure RecD (r : TRec) : Prop where
  ok : recOk r = true
  valid : r.Valid ≤ 3
  next : r.Next ≤ 6
  uid : r.Uid ≤ 5
  user : r.User.length ≤ 3
  name : r.Name.length ≤ 5
  text : r.Text.length ≤ 28
theorem recD_of {k v u n f : Int} {us nm tx : List UInt8} (h : recOk { Kind := k, Valid := v, Uid := u, Next := n, Flags := f, User := us, Name := nm, Text := tx } = true) (h1 : v ≤ 3) (h2 : n ≤ 6) (h3 : u ≤ 5) (h4 : us.length ≤ 3) (h5 : nm.length ≤ 5) (h6 : tx.length ≤ 28) : RecD { Kind := k, Valid := v, Uid := u, Next := n, Flags := f, User := us, Name := nm, Text := tx } := ⟨h, h1, h2, h3, h4, h5, h6⟩
theorem dr_text {b : List Int} {i h : Int} (hi : IOk b i) : Dr b (F_spec_l06Text_w ⟨b, i, h⟩) fun x => x.length ≤ 28 := by
  unfold F_spec_l06Text_w
  refine Dr.bind (dr_pick hi (by decide) (by decide)) fun x i h hx hi => Dr.ret hi ?_
  simp only [List.mem_cons, List.not_mem_nil, or_false] at hx
  rcases hx with rfl | rfl | rfl | rfl | rfl <;> simp
theorem w64s {x : Int} (h : 0 ≤ x) (h' : x ≤ 1000000000) : w64 (1 + x) = 1 + x := w64_id (by omega) (by omega)
theorem dr_rec {b : List Int} {i h : Int} (hi : IOk b i) : Dr b (F_spec_l06Rec_w ⟨b, i, h⟩) RecD := by
  unfold F_spec_l06Rec_w
  refine Dr.bind (dr_pickInt hi (by decide) (by decide)) fun k i h hk hi => Dr.bind (dr_below hi (by omega) (by omega)) fun v i h hv hi => ?_
  have hk' : k = 1 ∨ k = 2 ∨ k = 3 ∨ k = 4 ∨ k = 5 := by
    simp only [List.mem_cons, List.not_mem_nil, or_false] at hk; omega
  have hv1 : w64 (1 + v) = 1 + v := w64s hv.1 (by omega)
  have iv : inR (1 + v) 1 9999 = true := by unfold inR; simp; omega
  rcases hk' with rfl | rfl | rfl | rfl | rfl
  · show Dr b (Option.bind _ _) _
    refine Dr.bind (dr_pick hi (by decide) (by decide)) fun us i h hus hi => Dr.bind (dr_pick hi (by decide) (by decide)) fun nm i h hnm hi => Dr.bind (dr_below hi (by omega) (by omega)) fun n i h hn hi => Dr.ret hi ?_
    dsimp only
    have hw : wordOk us = true ∧ us.length ≤ 3 := by
      simp only [List.mem_cons, List.not_mem_nil, or_false] at hus
      rcases hus with rfl | rfl <;> decide
    have hw2 : wordOk nm = true ∧ nm.length ≤ 5 := by
      simp only [List.mem_cons, List.not_mem_nil, or_false] at hnm
      rcases hnm with rfl | rfl <;> decide
    rw [hv1, w64s hn.1 (by omega)]
    refine recD_of ?_ (by omega) (by omega) (by omega) hw.2 hw2.2 (by simp)
    unfold recOk
    simp [hw.1, hw2.1, inR]; omega
  · refine Dr.ret hi ?_
    dsimp only
    rw [hv1]
    refine recD_of ?_ (by omega) (by omega) (by omega) (by simp) (by simp) (by simp)
    unfold recOk
    simp [iv]; decide
  · show Dr b (Option.bind _ _) _
    refine Dr.bind (dr_below hi (by omega) (by omega)) fun u i h hu hi => Dr.bind (dr_below hi (by omega) (by omega)) fun f i h hf hi => Dr.bind (dr_text hi) fun tx i h htx hi => Dr.ret hi ?_
    dsimp only
    rw [hv1, w64s hu.1 (by omega)]
    refine recD_of ?_ (by omega) (by omega) (by omega) (by simp) (by simp) htx
    have i2 : inR (1 + u) 1 9999 = true := by unfold inR; simp; omega
    have i3 : inR f 0 7 = true := by unfold inR; simp; omega
    have i4 : inR 3 1 5 = true := by decide
    unfold recOk
    simp [iv, i2, i3, i4]; omega
  · show Dr b (Option.bind _ _) _
    refine Dr.bind (dr_below hi (by omega) (by omega)) fun u i h hu hi => Dr.bind (dr_below hi (by omega) (by omega)) fun f i h hf hi => Dr.ret hi ?_
    dsimp only
    rw [hv1, w64s hu.1 (by omega)]
    refine recD_of ?_ (by omega) (by omega) (by omega) (by simp) (by simp) (by simp)
    have i2 : inR (1 + u) 1 9999 = true := by unfold inR; simp; omega
    have i3 : inR f 0 7 = true := by unfold inR; simp; omega
    have i4 : inR 4 1 5 = true := by decide
    unfold recOk
    simp [iv, i2, i3, i4]
  · show Dr b (Option.bind _ _) _
    refine Dr.bind (dr_below hi (by omega) (by omega)) fun u i h hu hi => Dr.ret hi ?_
    dsimp only
    rw [hv1, w64s hu.1 (by omega)]
    refine recD_of ?_ (by omega) (by omega) (by omega) (by simp) (by simp) (by simp)
    have i2 : inR (1 + u) 1 9999 = true := by unfold inR; simp; omega
    have i4 : inR 5 1 5 = true := by decide
    unfold recOk
    simp [iv, i2, i4]
structure ItD (l : List TItem) : Prop where
  ok : itemsOk l = true
  len : l.length ≤ 22
  all : ∀ x ∈ l, (2 ≤ x.Seq ∧ x.Seq ≤ 23) ∧ RecD x.Rec
theorem dr_items {b : List Int} {i h : Int} (hi : IOk b i) : Dr b (F_spec_l07Items_w ⟨b, i, h⟩) ItD := by
  unfold F_spec_l07Items_w
  have key : ∃ r, iter (S_spec_l07Items_w_1 ⟨b, i, h⟩) (0, i, h, []) = some r ∧ (IOk b r.1 ∧ r.2.2.length ≤ 21 ∧ ∀ (j : Nat) (hj : j < r.2.2.length), (r.2.2[j]).Seq = 2 + (j : Int) ∧ RecD (r.2.2[j]).Rec) := by
    refine iter_inv (fun s : Int × Int × Int × List TItem => (0 ≤ s.1 ∧ s.1 ≤ 21 ∧ (s.2.2.2.length : Int) = s.1) ∧ IOk b s.2.1 ∧ ∀ (j : Nat) (hj : j < s.2.2.2.length), (s.2.2.2[j]).Seq = 2 + (j : Int) ∧ RecD (s.2.2.2[j]).Rec) (fun s => (22 - s.1).toNat) _ ?_ _ ⟨⟨by simp, by simp, by simp⟩, hi, by simp⟩
    rintro ⟨k, i, h', l⟩ ⟨⟨h0, h1, h2⟩, hi, hl⟩
    simp only at h0 h1 h2 hi hl
    unfold S_spec_l07Items_w_1
    obtain ⟨n, i1, h1', e, hn, hi1⟩ := dr_below (h := h') hi (n := 22) (by omega) (by omega)
    have e' : F_spec_l01Below_w { mB := b, mI := (k, i, h', l).2.1, mH := (k, i, h', l).2.2.1 } 22 = some (n, ⟨b, i1, h1'⟩) := e
    rw [e', Option.bind_some]
    by_cases hk : k < n
    · left
      rw [if_pos (by simpa using hk)]
      obtain ⟨r, i2, h2', e2, hr, hi2⟩ := dr_rec (h := h1') hi1
      have e2' : F_spec_l06Rec_w { mB := b, mI := ((n, ⟨b, i1, h1'⟩) : Int × TL01Cur).2.mI, mH := ((n, ⟨b, i1, h1'⟩) : Int × TL01Cur).2.mH } = some (r, ⟨b, i2, h2'⟩) := e2
      rw [e2', Option.bind_some]
      show ∃ s', (app? 96 l [{ Seq := w64 (2 + k), Rec := r }]).bind _ = _ ∧ _
      rw [app?_ok (by simp; omega) (by simp; omega), Option.bind_some]
      refine ⟨_, rfl, ⟨⟨?_, ?_, ?_⟩, hi2, ?_⟩, ?_⟩
      · simp only; rw [w64_id (by omega) (by omega)]; omega
      · simp only; rw [w64_id (by omega) (by omega)]; omega
      · show ((l ++ [({ Seq := w64 (2 + k), Rec := r } : TItem)]).length : Int) = w64 (k + 1)
        rw [List.length_append, List.length_singleton, w64_id (by omega) (by omega)]; omega
      · show ∀ (j : Nat) (hj : j < (l ++ [({ Seq := w64 (2 + k), Rec := r } : TItem)]).length), ((l ++ [({ Seq := w64 (2 + k), Rec := r } : TItem)])[j]).Seq = 2 + (j : Int) ∧ RecD ((l ++ [({ Seq := w64 (2 + k), Rec := r } : TItem)])[j]).Rec
        intro j hj
        rw [List.length_append, List.length_singleton] at hj
        by_cases hjl : j < l.length
        · rw [List.getElem_append_left hjl]; exact hl j hjl
        · have : j = l.length := by omega
          subst this
          rw [List.getElem_append_right (Nat.le_refl _)]
          simp only [Nat.sub_self, List.getElem_cons_zero]
          exact ⟨by rw [w64_id (by omega) (by omega)]; omega, hr⟩
      · simp only; rw [w64_id (by omega) (by omega)]; omega
    · right
      rw [if_neg (by simpa using hk)]
      exact ⟨_, rfl, hi1, (by show l.length ≤ 21; omega), hl⟩
  obtain ⟨⟨i1, h1, l⟩, e, hi1, hlen, hl⟩ := key
  simp only at hi1 hlen hl
  have hall : ∀ x ∈ l, (2 ≤ x.Seq ∧ x.Seq ≤ 23) ∧ RecD x.Rec := by
    intro x hx
    obtain ⟨j, hj, rfl⟩ := List.mem_iff_getElem.1 hx
    have := hl j hj
    exact ⟨by omega, this.2⟩
  have hinj : ∀ x ∈ l, ∀ y ∈ l, x.Seq = y.Seq → x = y := by
    intro x hx y hy he
    obtain ⟨j, hj, rfl⟩ := List.mem_iff_getElem.1 hx
    obtain ⟨k, hk, rfl⟩ := List.mem_iff_getElem.1 hy
    have h1 := (hl j hj).1
    have h2 := (hl k hk).1
    have : j = k := by omega
    subst this; rfl
  have hok : itemsOk l = true := itemsOk_iff.2 ⟨by omega, fun x hx => ⟨by have := (hall x hx).1; omega, (hall x hx).2.ok⟩, hinj⟩
  rw [e, Option.bind_some]
  have fin0 : ∀ (i' h' : Int), IOk b i' → Dr b (some (l, ({ mB := b, mI := i', mH := h' } : TL01Cur))) ItD := fun i' h' hi' => Dr.ret hi' ⟨hok, by omega, hall⟩
  by_cases hl1 : (l.length : Int) > 1
  · have hgt : decide ((((i1, h1, l) : Int × Int × List TItem).2.2.length : Int) > 1) = true := by simpa using hl1
    rw [if_pos hgt]
    obtain ⟨o, i2, h2, e2, _, hi2⟩ := dr_once (h := h1) hi1 (n := 3) (by omega) (by omega)
    have e2' : F_spec_l01Once_w { mB := b, mI := ((i1, h1, l) : Int × Int × List TItem).1, mH := ((i1, h1, l) : Int × Int × List TItem).2.1 } 3 = some (o, ⟨b, i2, h2⟩) := e2
    rw [e2', Option.bind_some]
    cases o
    · exact fin0 i2 h2 hi2
    · show Dr b (Option.bind (F_spec_l01Below_w ⟨b, i2, h2⟩ (l.length : Int)) _) ItD
      refine Dr.bind (dr_below hi2 (by omega) (by omega)) fun n i3 h3 hn hi3 => ?_
      obtain ⟨m, rfl⟩ : ∃ m : Nat, n = m := ⟨n.toNat, by omega⟩
      show Dr b ((at? l (m : Int)).bind _) ItD
      rw [at?_nat (show m < l.length by omega), Option.bind_some]
      show Dr b ((app? 96 l [l[m]]).bind _) ItD
      rw [app?_ok (by simp; omega) (by simp; omega), Option.bind_some]
      refine Dr.ret hi3 ?_
      have hmem : ∀ x, x ∈ l ++ [l[m]'(by omega)] ↔ x ∈ l := by
        intro x
        rw [List.mem_append, List.mem_singleton]
        exact ⟨fun h => h.elim id fun h => h ▸ List.getElem_mem _, .inl⟩
      refine ⟨itemsOk_iff.2 ⟨by simp; omega, fun x hx => ?_, fun x hx y hy => hinj x ((hmem x).1 hx) y ((hmem y).1 hy)⟩, by simp; omega, fun x hx => hall x ((hmem x).1 hx)⟩
      have := hall x ((hmem x).1 hx)
      exact ⟨by omega, this.2.ok⟩
  · have hgt : ¬ decide ((((i1, h1, l) : Int × Int × List TItem).2.2.length : Int) > 1) = true := by simpa using hl1
    rw [if_neg hgt]
    exact fin0 i1 h1 hi1
theorem draw_items {b : List Int} (hb : b.length ≤ 1048576) : ∃ l, F_spec_DrawItems b = some l ∧ ItD l := by
  obtain ⟨h, e⟩ := dr_new hb
  unfold F_spec_DrawItems
  rw [e, Option.bind_some]
  exact Dr.get (dr_items (iok0 hb)) fun l i h hl _ => ⟨l, rfl, hl⟩
theorem RecD.sz {r : TRec} (h : RecD r) : Sz_TRec r := ⟨by have := h.user; omega, by have := h.name; omega, by have := h.text; omega⟩
theorem ItD.sz {l : List TItem} (h : ItD l) : SzI l := ⟨by have := h.len; omega, fun y hy => ⟨(h.all y hy).2.sz⟩⟩
end Go.Proofs.Ytldndhdohlfpgaa.V
/- Needed. -/
namespace Go.Proofs.Ytldndhdohlfpgaa.V
open Go Go.RowKit
set_option maxRecDepth 100000
theorem impl_needed {l : List TItem} (h : SzI l) (k : Int) (hk : -9223372036854775808 ≤ k ∧ k < 9223372036854775808) : F_impl_Needed l k = some (itemsOk l && inR k 0 ((l.length : Int) - 1) && needK l k.toNat ((l[k.toNat]?).getD item0)) := by
  have hl := h.1
  unfold F_impl_Needed
  rw [impl_itemsOk h, Option.bind_some, w64_id (by omega) (by omega)]
  cases hok : itemsOk l with
  | false => rfl
  | true =>
    simp only [if_true, impl_in, Option.bind_some]
    cases hr : inR k 0 ((l.length : Int) - 1) with
    | false => rfl
    | true =>
      unfold inR at hr
      simp only [Bool.and_eq_true, decide_eq_true_eq] at hr
      obtain ⟨n, rfl⟩ : ∃ n : Nat, k = n := ⟨k.toNat, by omega⟩
      have hn : n < l.length := by omega
      simp [impl_need hl hok hn, hn]
end Go.Proofs.Ytldndhdohlfpgaa.V
/- What is shrunk, of drawn records, tells the same. -/
namespace Go.Proofs.Ytldndhdohlfpgaa.V
open Go Go.RowKit
set_option maxRecDepth 100000
/-- A loop that compares, one by one, and finds no difference. -/
theorem same_loop {ρ : Type} {n : Nat} {step : Int → Option (Int ⊕ (ρ ⊕ Unit))} (hn : n ≤ 1048576) (h1 : ∀ i : Nat, i < n → step (i : Int) = some (.inl ((i + 1 : Nat) : Int))) (h2 : step (n : Int) = some (.inr (.inr ()))) : iter step 0 = some (.inr ()) := by
  exact iter_range (step := step) (fun i => (i : Int)) n (fun i hi => h1 i hi) h2
theorem sameState_refl {s : TState} (h : s.Boxes.length ≤ 1048576) (hm : ∀ b ∈ s.Boxes, b.Mails.length ≤ 1048576) : F_spec_SameState s s = some true := by
  unfold F_spec_SameState
  rw [if_neg (by simp), same_loop (n := s.Boxes.length) h]
  · rfl
  · intro i hi
    have hb := hm _ (List.getElem_mem hi)
    have inner : iter (S_spec_SameState_2 s.Boxes[i] s.Boxes[i]) 0 = some (.inr ()) := by
      refine same_loop (n := s.Boxes[i].Mails.length) hb ?_ ?_
      · intro j hj
        unfold S_spec_SameState_2
        simp only [dlt hj, if_true, at?_nat hj, Option.bind_some, w64_succ (show j < 9223372036854775807 by omega), beq_self_eq_true, Bool.and_self, Bool.not_true, Bool.false_eq_true, if_false]
      · unfold S_spec_SameState_2; simp
    unfold S_spec_SameState_1
    simp only [dlt hi, if_true, at?_nat hi, Option.bind_some, w64_succ (show i < 9223372036854775807 by omega), beq_self_eq_true, bne_self_eq_false, Bool.not_true, Bool.false_eq_true, if_false, inner, Sum.elim_inr]
  · unfold S_spec_SameState_1; simp
theorem chosen_ok {n : Nat} {p : List Int} (hn : n ≤ 1048576) (hp : 1 ≤ p.length) : ∃ d, F_laws_chosen (n : Int) p = some d ∧ d.length = n := by
  unfold F_laws_chosen
  have key : ∃ r, iter (S_laws_chosen_1 (n : Int) p) (0, []) = some r ∧ r.length = n := by
    refine iter_inv (fun s : Int × List Bool => 0 ≤ s.1 ∧ s.1 ≤ (n : Int) ∧ (s.2.length : Int) = s.1) (fun s => ((n : Int) - s.1).toNat) _ ?_ _ ⟨by simp, by simp, by simp⟩
    rintro ⟨k, l⟩ ⟨h0, h1, h2⟩
    simp only at h0 h1 h2
    unfold S_laws_chosen_1
    by_cases hk : k < (n : Int)
    · left
      rw [if_pos (by simpa using hk)]
      have hr : rem? k (p.length : Int) = some (Int.tmod k (p.length : Int)) := by unfold rem?; rw [if_neg (by omega)]
      have hm : 0 ≤ Int.tmod k (p.length : Int) ∧ Int.tmod k (p.length : Int) < (p.length : Int) := ⟨Int.tmod_nonneg _ h0, Int.tmod_lt_of_pos _ (by omega)⟩
      show ∃ s', (rem? k (p.length : Int)).bind _ = _ ∧ _
      rw [hr, Option.bind_some]
      generalize Int.tmod k (p.length : Int) = z at hm
      obtain ⟨m, rfl⟩ : ∃ m : Nat, z = m := ⟨z.toNat, by omega⟩
      rw [at?_nat (by omega), Option.bind_some]
      show ∃ s', (app? 1 l [_]).bind _ = _ ∧ _
      rw [app?_ok (by simp; omega) (by simp; omega), Option.bind_some]
      refine ⟨_, rfl, ⟨?_, ?_, ?_⟩, ?_⟩
      · simp only; rw [w64_id (by omega) (by omega)]; omega
      · simp only; rw [w64_id (by omega) (by omega)]; omega
      · simp only [List.length_append, List.length_singleton]; rw [w64_id (by omega) (by omega)]; omega
      · simp only; rw [w64_id (by omega) (by omega)]; omega
    · right
      rw [if_neg (by simpa using hk)]
      exact ⟨_, rfl, (by show l.length = n; omega)⟩
  obtain ⟨r, e, hr⟩ := key
  exact ⟨r, by rw [e]; rfl, hr⟩
/-- Right items that tell what the first ones told. -/
structure ShI (l0 l : List TItem) (n : Nat) (q : Int) : Prop where
  ok : itemsOk l = true
  st : stateOf l = stateOf l0
  len : l.length ≤ n
  seq : ∀ x ∈ l, x.Seq < q
  sz : SzI l
theorem boxes_len {l : List TItem} : (stateOf l).Boxes.length ≤ l.length := by
  unfold stateOf
  split
  · show ((validsOf l).map _).length ≤ _
    rw [List.length_map]
    exact validsOf_len
  · simp
theorem ShI.step {l0 l : List TItem} {n : Nat} {q : Int} (h : ShI l0 l n q) (h0 : (stateOf l0).Boxes.length ≤ 22) (hn : n ≤ 170) (hq : 1 ≤ q ∧ q ≤ 1000000) (d : List Bool) : ShI l0 (shrunk l d q) (n + 22) (q + 22) := by
  have hW := without_len l (goes l d)
  have hN := nexts_len l (goes l d)
  rw [h.st] at hN
  have hl := h.len
  have t := shrunk_tells h.ok d hq.1 hq.2 h.seq (by omega)
  refine ⟨t.okm, by rw [t.state]; exact h.st, ?_, ?_, shrunk_sz h.sz d q⟩
  · unfold shrunk
    rw [List.length_append, List.length_mapIdx]; omega
  · intro x hx
    unfold shrunk at hx
    rcases List.mem_append.1 hx with hx | hx
    · have := h.seq x (woT_mem _ hx); omega
    · obtain ⟨i, hi, rfl⟩ := List.mem_mapIdx.1 hx
      show w64 (q + (i : Int)) < q + 22
      rw [w64_id (by omega) (by omega)]; omega
theorem ShI.mono {l0 l : List TItem} {n m : Nat} {q r : Int} (h : ShI l0 l n q) (h1 : n ≤ m) (h2 : q ≤ r) : ShI l0 l m r := ⟨h.ok, h.st, by have := h.len; omega, fun x hx => by have := h.seq x hx; omega, h.sz⟩
theorem ItD.shi {l : List TItem} (h : ItD l) : ShI l l 22 24 := ⟨h.ok, rfl, h.len, fun x hx => by have := (h.all x hx).1; omega, h.sz⟩
theorem same_state {l : List TItem} (h : SzI l) : F_spec_SameState (stateOf l) (stateOf l) = some true := by
  have := state_sz h
  exact sameState_refl this.1 fun b hb => (this.2 b hb).sMails.1
theorem big_no {b : List Int} (h : ¬ (b.length : Int) > 1048576) : F_laws_big b = some false := by unfold F_laws_big; simp; omega
theorem big_yes {b : List Int} (h : (b.length : Int) > 1048576) : F_laws_big b = some true := by unfold F_laws_big; simp; omega
theorem flip_ok {l : List Bool} (h : l.length ≤ 1048576) : F_laws_flip l = some (l.map fun b => !b) := by
  unfold F_laws_flip
  rw [map_loop (l := l) (byt := 1) (f := fun b => !b) h (by omega)]
  · rfl
  · intro i hi o
    unfold S_laws_flip_1
    simp only [dlt hi, if_true, at?_nat hi, Option.bind_some, w64_succ (show i < 9223372036854775807 by omega)]
  · intro o
    unfold S_laws_flip_1; simp
theorem dropB_flip {d : List Bool} {i : Nat} (h : i < d.length) : dropB (d.map fun b => !b) i = !dropB d i := by
  unfold dropB
  rw [List.getElem?_map, List.getElem?_eq_getElem h]; rfl
theorem woT_sum {l : List TItem} {d : List Bool} (hd : d.length = l.length) : ∀ i, i ≤ l.length → (woT l d i).length + (woT l (d.map fun b => !b) i).length = i
  | 0, _ => by simp [woT]
  | i + 1, hi => by
    have h := woT_sum hd i (by omega)
    rw [woT_succ (by omega), woT_succ (by omega), dropB_flip (by omega)]
    cases dropB d i <;> simp <;> omega
theorem sub?_from {α : Type} {l : List α} {n : Nat} (h : n ≤ l.length) : sub? l (n : Int) (l.length : Int) = some (l.drop n) := by
  unfold sub?
  rw [if_pos ⟨by omega, by omega, by omega⟩]
  simp
theorem pure_FnShrinksTwice {x : List Int} (_w : x.length ≤ maxLen ∧ ∀ a ∈ x, (Lit.int .u8 a).wf = true) : F_laws_FnShrinksTwice x = some true := by
  unfold F_laws_FnShrinksTwice
  by_cases hb : (x.length : Int) > 1048576
  · rw [big_yes hb]; rfl
  rw [big_no hb, Option.bind_some, if_neg (by simp)]
  have hx : x.length ≤ 1048576 := by omega
  obtain ⟨l, e1, hl⟩ := draw_items hx
  obtain ⟨p, e2, hp, _⟩ := dr_places hx
  have hlen := hl.len
  have h0 : (stateOf l).Boxes.length ≤ 22 := Nat.le_trans boxes_len hlen
  obtain ⟨d1, c1, _⟩ := chosen_ok (n := l.length) (p := p) (by omega) (by omega)
  have ha := (hl.shi.mono (m := 22) (r := 500) (by omega) (by omega)).step h0 (by omega) (by omega) d1
  have hal := ha.len
  obtain ⟨d2, c2, _⟩ := chosen_ok (n := (shrunk l d1 500).length) (p := p.drop 3) (by omega) (by simp; omega)
  have hbb := (ha.mono (m := 44) (r := 600) (by omega) (by omega)).step h0 (by omega) (by omega) d2
  have hbl := hbb.len
  obtain ⟨d3, c3, _⟩ := chosen_ok (n := (shrunk (shrunk l d1 500) d2 600).length) (p := p.drop 5) (by omega) (by simp; omega)
  have hcc := (hbb.mono (m := 66) (r := 700) (by omega) (by omega)).step h0 (by omega) (by omega) d3
  have s3 := sub?_from (l := p) (n := 3) (by omega)
  have s5 := sub?_from (l := p) (n := 5) (by omega)
  have hna := needAll_len l
  have hloop : iter (S_laws_FnShrinksTwice_1 l (needAll l)) 0 = some (.inr ()) := by
    refine same_loop (n := l.length) (by omega) ?_ ?_
    · intro i hi
      have hi' : i < (needAll l).length := by omega
      have hneed : (needAll l)[i] = (itemsOk l && needK l i l[i]) := by
        simp [needAll, List.getElem?_eq_getElem hi]
      unfold S_laws_FnShrinksTwice_1
      rw [hna]
      have hin : inR (i : Int) 0 ((l.length : Int) - 1) = true := by unfold inR; simp; omega
      simp only [dlt hi, if_true, at?_nat hi', Option.bind_some, impl_needed hl.sz (i : Int) (by omega), hin, Bool.and_true, Int.toNat_natCast, List.getElem?_eq_getElem hi, Option.getD_some, hneed, beq_self_eq_true, Bool.not_true, Bool.false_eq_true, if_false, w64_succ (show i < 9223372036854775807 by omega)]
    · unfold S_laws_FnShrinksTwice_1
      rw [hna]; simp
  have hsum := woT_sum (l := l) (d := needAll l) hna l.length (Nat.le_refl _)
  rw [e1, Option.bind_some, e2, Option.bind_some, c1, Option.bind_some, impl_shrunk hl.sz, Option.bind_some]
  rw [show (3 : Int) = ((3 : Nat) : Int) from rfl, s3, Option.bind_some, c2, Option.bind_some, impl_shrunk ha.sz, Option.bind_some]
  rw [show (5 : Int) = ((5 : Nat) : Int) from rfl, s5, Option.bind_some, c3, Option.bind_some, impl_shrunk hbb.sz, Option.bind_some, spec_stateOf hl.sz, Option.bind_some, impl_neededAll hl.sz, Option.bind_some, hloop, Option.bind_some]
  simp only [Sum.elim_inr]
  rw [spec_stateOf hbb.sz, Option.bind_some, hbb.st, same_state hl.sz, Option.bind_some, if_pos rfl, spec_stateOf hcc.sz, Option.bind_some, hcc.st, same_state hl.sz, Option.bind_some, if_pos rfl, hna, if_pos (by simp), impl_without (by omega), Option.bind_some, flip_ok (by omega), Option.bind_some, impl_without (by omega), Option.bind_some, Option.bind_some]
  have e : w64 (((without l (needAll l)).length : Int) + ((without l ((needAll l).map fun b => !b)).length : Int)) = (l.length : Int) := by
    unfold without
    rw [w64_id (by omega) (by omega)]; omega
  rw [e]; simp
end Go.Proofs.Ytldndhdohlfpgaa.V
