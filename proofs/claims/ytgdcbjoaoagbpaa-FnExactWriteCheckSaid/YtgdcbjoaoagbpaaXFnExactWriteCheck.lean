/- The statement FnExactWriteCheck: the law answers true, whatever comes in. -/
import Derived.Test.YtgdcbjoaoagbpaaRows
import Derived.Test.YtgdcbjoaoagbpaaXD1
import Derived.Test.YtgdcbjoaoagbpaaXP
namespace Go.Proofs.Ytgdcbjoaoagbpaa.V
open Go Go.Proofs Go.RowKit
set_option maxRecDepth 100000
theorem own : ownKnob Try.prog.godebug = none := by kernel_rfl
theorem laidOut : laidOutB Try.prog = true := by kernel_rfl
theorem rd_22 : Rd Try.prog 22 (fun l : List (List UInt8) => [.lst false 1 (fl (encS false) l) l.length]) (fun l => l.length ≤ maxLen ∧ ∀ a ∈ l, a.length ≤ maxLen) := Rd.slice (e := 9) (enc := encS false) (Wf := fun a : List UInt8 => a.length ≤ maxLen) (by kernel_rfl) (by kernel_rfl) (by decide) (ekS.len false) (Rd.str (t := 9) (by kernel_rfl))
theorem rd_170 : Rd Try.prog 170 (enc_TWrite false) wf_TWrite := Rd.struct (fs := [(0, 3), (1, 9)]) (tot := 2) (by kernel_rfl) (by kernel_rfl) (RdF.cons (off := 0) (s := 1) (Rd.int (t := 3) (k := .i64) (by kernel_rfl)) (by kernel_rfl) (RdF.cons (off := 1) (s := 1) (Rd.str (t := 9) (by kernel_rfl)) (by kernel_rfl) RdF.nil)) (fun b => { At := b.1, Text := b.2.1 }) (fun _ => rfl) (fun _ h => h)
theorem rd_23 : Rd Try.prog 23 (fun l : List TWrite => [.lst false 2 (fl (enc_TWrite false) l) l.length]) (fun l => l.length ≤ maxLen ∧ ∀ a ∈ l, wf_TWrite a) := Rd.slice (e := 170) (enc := enc_TWrite false) (Wf := fun a : TWrite => wf_TWrite a) (by kernel_rfl) (by kernel_rfl) (by decide) (ek_TWrite.len false) rd_170
theorem rd_25 : Rd Try.prog 25 (enc_TDisk false) wf_TDisk := Rd.struct (fs := [(0, 22), (1, 23)]) (tot := 2) (by kernel_rfl) (by kernel_rfl) (RdF.cons (off := 0) (s := 1) rd_22 (by kernel_rfl) (RdF.cons (off := 1) (s := 1) rd_23 (by kernel_rfl) RdF.nil)) (fun b => { Sectors := b.1, Cache := b.2.1 }) (fun _ => rfl) (fun _ h => h)
theorem rd_188 : Rd Try.prog 188 (enc_TRef false) wf_TRef := Rd.struct (fs := [(0, 3), (1, 3)]) (tot := 2) (by kernel_rfl) (by kernel_rfl) (RdF.cons (off := 0) (s := 1) (Rd.int (t := 3) (k := .i64) (by kernel_rfl)) (by kernel_rfl) (RdF.cons (off := 1) (s := 1) (Rd.int (t := 3) (k := .i64) (by kernel_rfl)) (by kernel_rfl) RdF.nil)) (fun b => { No := b.1, Gen := b.2.1 }) (fun _ => rfl) (fun _ h => h)
theorem rd_70 : Rd Try.prog 70 (fun l : List TRef => [.lst false 2 (fl (enc_TRef false) l) l.length]) (fun l => l.length ≤ maxLen ∧ ∀ a ∈ l, wf_TRef a) := Rd.slice (e := 188) (enc := enc_TRef false) (Wf := fun a : TRef => wf_TRef a) (by kernel_rfl) (by kernel_rfl) (by decide) (ek_TRef.len false) rd_188
theorem rd_72 : Rd Try.prog 72 (enc_TCheck false) wf_TCheck := Rd.struct (fs := [(0, 3), (1, 3), (2, 3), (3, 3), (4, 70)]) (tot := 5) (by kernel_rfl) (by kernel_rfl) (RdF.cons (off := 0) (s := 1) (Rd.int (t := 3) (k := .i64) (by kernel_rfl)) (by kernel_rfl) (RdF.cons (off := 1) (s := 1) (Rd.int (t := 3) (k := .i64) (by kernel_rfl)) (by kernel_rfl) (RdF.cons (off := 2) (s := 1) (Rd.int (t := 3) (k := .i64) (by kernel_rfl)) (by kernel_rfl) (RdF.cons (off := 3) (s := 1) (Rd.int (t := 3) (k := .i64) (by kernel_rfl)) (by kernel_rfl) (RdF.cons (off := 4) (s := 1) rd_70 (by kernel_rfl) RdF.nil))))) (fun b => { Stamp := b.1, NextGen := b.2.1, NextSeq := b.2.2.1, NextValid := b.2.2.2.1, Refs := b.2.2.2.2.1 }) (fun _ => rfl) (fun _ h => h)
open Go.ChangeShapes Go.WideShapes Go.ChangeAt Go.RowKit
theorem lifted_FnExactWriteCheck (os : Os) (started : os.Started) (H : Type) (enc : TypeId × Value → H) :
    ReturnsInHanded {} Try.checked os 9 .any (Rows.fnExactWriteCheckSpec.pre6 enc Try.prog Try.f9 Rows.fnExactWriteCheckRow.domain false) (Rows.fnExactWriteCheckSpec.post enc Try.prog Try.f9 false true false false) := by
  refine returnsInHanded_of_change_sized (C := Try.checked) own started (by kernel_rfl) Try.func9
    (ChangeSpec.witness6 (enc := enc) (C := Try.checked) false ⟨#[], #[.agg #[.slice none 0 0, .slice none 0 0], .agg #[.int .i64 0, .int .i64 0, .int .i64 0, .int .i64 0, .slice none 0 0]], []⟩ 8 (by kernel_rfl) (by kernel_rfl) (by kernel_rfl) (by kernel_rfl)) ?_
  intro W base args ds gs before hval0 hW hcnd hsz0 _
  have hval : ∀ (j : Nat) t v, Try.f9.params[j]? = some t → args[j]? = some v → Value.okWide Try.prog W .any base t v := hval0
  have hW' := hW
  obtain ⟨p, q, hA0, hV, rfl, hfz, hnd⟩ := hW
  have hA : DataW.TrodAll enc Try.prog W 0 (fun _ => true) true Try.f9.params.toList args.toList ds p := hA0
  rw [Try.params9] at hA hval
  obtain ⟨v0, vs0, d0, ds0, p0, q0, hargs, rfl, rfl, h0, r0⟩ := trodAll_cons hA
  obtain ⟨v1, vs1, d1, ds1, p1, q1, rfl, rfl, rfl, h1, r1⟩ := trodAll_cons r0
  obtain ⟨rfl, rfl, rfl⟩ := trodAll_nil r1
  obtain rfl : args = #[v0, v1] := by cases args; simp_all
  obtain ⟨rfl, rfl⟩ := trodVars_none hV
  obtain ⟨x0, e0, w0⟩ := Rd.argS rd_25 Try.underlying25 (hval 0 25 v0 rfl rfl) h0
  have k0 := h0
  have lt0 : ∀ x ∈ p0, x.block < W.heap.size := by obtain ⟨m, hm⟩ := k0; exact DataW.trod_lt m _ _ _ hm
  obtain ⟨x1, e1, w1⟩ := Rd.argS rd_72 Try.underlying72 (hval 1 72 v1 rfl rfl) h1
  have k1 := h1
  have lt1 : ∀ x ∈ p1, x.block < W.heap.size := by obtain ⟨m, hm⟩ := k1; exact DataW.trod_lt m _ _ _ hm
  clear hA0 hval0 hsz0
  refine (law_calls (law_laws_FnExactWriteCheck (pure_FnExactWriteCheck w0 w1)) (.cons e0 (.cons e1 .nil))).mono fun e W' ⟨he, bel⟩ => ?_
  subst he
  exact ⟨_, rfl, _, _, _, [], _, [], hW', trodAll_mk1 (shut_bool Try.underlying4 _), (trodAll_cons_mk (Below.trod laidOut (by kernel_rfl) (of_decide_eq_true (by kernel_rfl)) k0 bel lt0) (trodAll_cons_mk (Below.trod laidOut (by kernel_rfl) (of_decide_eq_true (by kernel_rfl)) k1 bel lt1) trodAll_mk0)), rfl, bel.frame _, fun h => by cases h⟩
theorem over_FnExactWriteCheck : Rows.fnExactWriteCheckRow.holds Try.pinned (OpenSpec.ofChange Rows.fnExactWriteCheckSpec) :=
  OpenClaim.holds_of_wide 9 Try.f9 rfl rfl rfl rfl rfl rfl rfl ⟨rfl, rfl, rfl, rfl, rfl⟩ rfl rfl rfl rfl rfl (by kernel_rfl) Try.func9 (by kernel_rfl)
    (of_decide_eq_true (by kernel_rfl)) (by unfold Func.isWrapper; first | (rw [if_pos (by decide +kernel)]; kernel_rfl) | (rw [if_neg (by decide +kernel)]; exact ⟨rfl, rfl⟩))
    (fun os started H enc _ => lifted_FnExactWriteCheck os started H enc)
end Go.Proofs.Ytgdcbjoaoagbpaa.V
namespace Go.Proofs.Ytgdcbjoaoagbpaa
/-- The statement. -/
theorem fnExactWriteCheck_holds : Rows.FnExactWriteCheckSaid := V.over_FnExactWriteCheck
#print axioms fnExactWriteCheck_holds
end Go.Proofs.Ytgdcbjoaoagbpaa
