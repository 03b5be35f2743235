/- The statement FnExactCheckText: the law answers true, whatever comes in. -/
import Derived.Test.YtpecafogemipmaaRows
import Derived.Test.YtpecafogemipmaaXD0
import Derived.Test.YtpecafogemipmaaXP
namespace Go.Proofs.Ytpecafogemipmaa.V
open Go Go.Proofs Go.RowKit
set_option maxRecDepth 100000
theorem own : ownKnob Try.prog.godebug = none := by kernel_rfl
theorem laidOut : laidOutB Try.prog = true := by kernel_rfl
theorem rd_96 : Rd Try.prog 96 (enc_TRef false) wf_TRef := Rd.struct (fs := [(0, 3), (1, 3)]) (tot := 2) (by kernel_rfl) (by kernel_rfl) (RdF.cons (off := 0) (s := 1) (Rd.int (t := 3) (k := .i64) (by kernel_rfl)) (by kernel_rfl) (RdF.cons (off := 1) (s := 1) (Rd.int (t := 3) (k := .i64) (by kernel_rfl)) (by kernel_rfl) RdF.nil)) (fun b => { No := b.1, Gen := b.2.1 }) (fun _ => rfl) (fun _ h => h)
theorem rd_22 : Rd Try.prog 22 (fun l : List TRef => [.lst false 2 (fl (enc_TRef false) l) l.length]) (fun l => l.length ≤ maxLen ∧ ∀ a ∈ l, wf_TRef a) := Rd.slice (e := 96) (enc := enc_TRef false) (Wf := fun a : TRef => wf_TRef a) (by kernel_rfl) (by kernel_rfl) (by decide) (ek_TRef.len false) rd_96
theorem rd_24 : Rd Try.prog 24 (enc_TCheck false) wf_TCheck := Rd.struct (fs := [(0, 3), (1, 3), (2, 3), (3, 3), (4, 22)]) (tot := 5) (by kernel_rfl) (by kernel_rfl) (RdF.cons (off := 0) (s := 1) (Rd.int (t := 3) (k := .i64) (by kernel_rfl)) (by kernel_rfl) (RdF.cons (off := 1) (s := 1) (Rd.int (t := 3) (k := .i64) (by kernel_rfl)) (by kernel_rfl) (RdF.cons (off := 2) (s := 1) (Rd.int (t := 3) (k := .i64) (by kernel_rfl)) (by kernel_rfl) (RdF.cons (off := 3) (s := 1) (Rd.int (t := 3) (k := .i64) (by kernel_rfl)) (by kernel_rfl) (RdF.cons (off := 4) (s := 1) rd_22 (by kernel_rfl) RdF.nil))))) (fun b => { Stamp := b.1, NextGen := b.2.1, NextSeq := b.2.2.1, NextValid := b.2.2.2.1, Refs := b.2.2.2.2.1 }) (fun _ => rfl) (fun _ h => h)
open Go.ChangeShapes Go.WideShapes Go.ChangeAt Go.RowKit
theorem lifted_FnExactCheckText (os : Os) (started : os.Started) (H : Type) (enc : TypeId × Value → H) :
    ReturnsInHanded {} Try.checked os 4 .any (Rows.fnExactCheckTextSpec.pre6 enc Try.prog Try.f4 Rows.fnExactCheckTextRow.domain false) (Rows.fnExactCheckTextSpec.post enc Try.prog Try.f4 false true false false) := by
  refine returnsInHanded_of_change_sized (C := Try.checked) own started (by kernel_rfl) Try.func4
    (ChangeSpec.witness6 (enc := enc) (C := Try.checked) false ⟨#[], #[.agg #[.int .i64 0, .int .i64 0, .int .i64 0, .int .i64 0, .slice none 0 0]], []⟩ 8 (by kernel_rfl) (by kernel_rfl) (by kernel_rfl) (by kernel_rfl)) ?_
  intro W base args ds gs before hval0 hW hcnd hsz0 _
  have hval : ∀ (j : Nat) t v, Try.f4.params[j]? = some t → args[j]? = some v → Value.okWide Try.prog W .any base t v := hval0
  have hW' := hW
  obtain ⟨p, q, hA0, hV, rfl, hfz, hnd⟩ := hW
  have hA : DataW.TrodAll enc Try.prog W 0 (fun _ => true) true Try.f4.params.toList args.toList ds p := hA0
  rw [Try.params4] at hA hval
  obtain ⟨v0, vs0, d0, ds0, p0, q0, hargs, rfl, rfl, h0, r0⟩ := trodAll_cons hA
  obtain ⟨rfl, rfl, rfl⟩ := trodAll_nil r0
  obtain rfl : args = #[v0] := by cases args; simp_all
  obtain ⟨rfl, rfl⟩ := trodVars_none hV
  obtain ⟨x0, e0, w0⟩ := Rd.argS rd_24 Try.underlying24 (hval 0 24 v0 rfl rfl) h0
  have k0 := h0
  have lt0 : ∀ x ∈ p0, x.block < W.heap.size := by obtain ⟨m, hm⟩ := k0; exact DataW.trod_lt m _ _ _ hm
  clear hA0 hval0 hsz0
  refine (law_calls (law_laws_FnExactCheckText (pure_FnExactCheckText w0)) (.cons e0 .nil)).mono fun e W' ⟨he, bel⟩ => ?_
  subst he
  exact ⟨_, rfl, _, _, _, [], _, [], hW', trodAll_mk1 (shut_bool Try.underlying4 _), (trodAll_cons_mk (Below.trod laidOut (by kernel_rfl) (of_decide_eq_true (by kernel_rfl)) k0 bel lt0) trodAll_mk0), rfl, bel.frame _, fun h => by cases h⟩
theorem over_FnExactCheckText : Rows.fnExactCheckTextRow.holds Try.pinned (OpenSpec.ofChange Rows.fnExactCheckTextSpec) :=
  OpenClaim.holds_of_wide 4 Try.f4 rfl rfl rfl rfl rfl rfl rfl ⟨rfl, rfl, rfl, rfl, rfl⟩ rfl rfl rfl rfl rfl (by kernel_rfl) Try.func4 (by kernel_rfl)
    (of_decide_eq_true (by kernel_rfl)) (by unfold Func.isWrapper; first | (rw [if_pos (by decide +kernel)]; kernel_rfl) | (rw [if_neg (by decide +kernel)]; exact ⟨rfl, rfl⟩))
    (fun os started H enc _ => lifted_FnExactCheckText os started H enc)
end Go.Proofs.Ytpecafogemipmaa.V
namespace Go.Proofs.Ytpecafogemipmaa
/-- The statement. -/
theorem fnExactCheckText_holds : Rows.FnExactCheckTextSaid := V.over_FnExactCheckText
#print axioms fnExactCheckText_holds
end Go.Proofs.Ytpecafogemipmaa
