/- The statement FnExactShrunk: the law answers true, whatever comes in. -/
import Derived.Test.YtcehlicmghnghaaRows
import Derived.Test.YtcehlicmghnghaaXD2
import Derived.Test.YtcehlicmghnghaaXP
namespace Go.Proofs.Ytcehlicmghnghaa.V
open Go Go.Proofs Go.RowKit
set_option maxRecDepth 100000
theorem own : ownKnob Try.prog.godebug = none := by kernel_rfl
theorem laidOut : laidOutB Try.prog = true := by kernel_rfl
theorem rd_48 : Rd Try.prog 48 (enc_TRec false) wf_TRec := Rd.struct (fs := [(0, 3), (1, 3), (2, 3), (3, 3), (4, 3), (5, 9), (6, 9), (7, 9)]) (tot := 8) (by kernel_rfl) (by kernel_rfl) (RdF.cons (off := 0) (s := 1) (Rd.int (t := 3) (k := .i64) (by kernel_rfl)) (by kernel_rfl) (RdF.cons (off := 1) (s := 1) (Rd.int (t := 3) (k := .i64) (by kernel_rfl)) (by kernel_rfl) (RdF.cons (off := 2) (s := 1) (Rd.int (t := 3) (k := .i64) (by kernel_rfl)) (by kernel_rfl) (RdF.cons (off := 3) (s := 1) (Rd.int (t := 3) (k := .i64) (by kernel_rfl)) (by kernel_rfl) (RdF.cons (off := 4) (s := 1) (Rd.int (t := 3) (k := .i64) (by kernel_rfl)) (by kernel_rfl) (RdF.cons (off := 5) (s := 1) (Rd.str (t := 9) (by kernel_rfl)) (by kernel_rfl) (RdF.cons (off := 6) (s := 1) (Rd.str (t := 9) (by kernel_rfl)) (by kernel_rfl) (RdF.cons (off := 7) (s := 1) (Rd.str (t := 9) (by kernel_rfl)) (by kernel_rfl) RdF.nil)))))))) (fun b => { Kind := b.1, Valid := b.2.1, Uid := b.2.2.1, Next := b.2.2.2.1, Flags := b.2.2.2.2.1, User := b.2.2.2.2.2.1, Name := b.2.2.2.2.2.2.1, Text := b.2.2.2.2.2.2.2.1 }) (fun _ => rfl) (fun _ h => h)
theorem rd_50 : Rd Try.prog 50 (enc_TItem false) wf_TItem := Rd.struct (fs := [(0, 3), (1, 48)]) (tot := 9) (by kernel_rfl) (by kernel_rfl) (RdF.cons (off := 0) (s := 1) (Rd.int (t := 3) (k := .i64) (by kernel_rfl)) (by kernel_rfl) (RdF.cons (off := 1) (s := 8) rd_48 (by kernel_rfl) RdF.nil)) (fun b => { Seq := b.1, Rec := b.2.1 }) (fun _ => rfl) (fun _ h => h)
theorem rd_22 : Rd Try.prog 22 (fun l : List TItem => [.lst false 9 (fl (enc_TItem false) l) l.length]) (fun l => l.length ≤ maxLen ∧ ∀ a ∈ l, wf_TItem a) := Rd.slice (e := 50) (enc := enc_TItem false) (Wf := fun a : TItem => wf_TItem a) (by kernel_rfl) (by kernel_rfl) (by decide) (ek_TItem.len false) rd_50
theorem rd_35 : Rd Try.prog 35 (fun l : List Bool => [.lst false 1 (fl (encO false) l) l.length]) (fun l => l.length ≤ maxLen ∧ ∀ a ∈ l, True) := Rd.slice (e := 4) (enc := encO false) (Wf := fun a : Bool => True) (by kernel_rfl) (by kernel_rfl) (by decide) (ekO.len false) (Rd.bool (t := 4) (by kernel_rfl))
open Go.ChangeShapes Go.WideShapes Go.ChangeAt Go.RowKit
theorem lifted_FnExactShrunk (os : Os) (started : os.Started) (H : Type) (enc : TypeId × Value → H) :
    ReturnsInHanded {} Try.checked os 5 .any (Rows.fnExactShrunkSpec.pre6 enc Try.prog Try.f5 Rows.fnExactShrunkRow.domain false) (Rows.fnExactShrunkSpec.post enc Try.prog Try.f5 false true false false) := by
  refine returnsInHanded_of_change_sized (C := Try.checked) own started (by kernel_rfl) Try.func5
    (ChangeSpec.witness6 (enc := enc) (C := Try.checked) false ⟨#[], #[.slice none 0 0, .slice none 0 0, .int .i64 0], []⟩ 8 (by kernel_rfl) (by kernel_rfl) (by kernel_rfl) (by kernel_rfl)) ?_
  intro W base args ds gs before hval0 hW hcnd hsz0 _
  have hval : ∀ (j : Nat) t v, Try.f5.params[j]? = some t → args[j]? = some v → Value.okWide Try.prog W .any base t v := hval0
  have hW' := hW
  obtain ⟨p, q, hA0, hV, rfl, hfz, hnd⟩ := hW
  have hA : DataW.TrodAll enc Try.prog W 0 (fun _ => true) true Try.f5.params.toList args.toList ds p := hA0
  rw [Try.params5] at hA hval
  obtain ⟨v0, vs0, d0, ds0, p0, q0, hargs, rfl, rfl, h0, r0⟩ := trodAll_cons hA
  obtain ⟨v1, vs1, d1, ds1, p1, q1, rfl, rfl, rfl, h1, r1⟩ := trodAll_cons r0
  obtain ⟨v2, vs2, d2, ds2, p2, q2, rfl, rfl, rfl, h2, r2⟩ := trodAll_cons r1
  obtain ⟨rfl, rfl, rfl⟩ := trodAll_nil r2
  obtain rfl : args = #[v0, v1, v2] := by cases args; simp_all
  obtain ⟨rfl, rfl⟩ := trodVars_none hV
  obtain ⟨x0, e0, w0⟩ := Rd.arg1 rd_22 (hval 0 22 v0 rfl rfl) (by rw [Try.underlying22]) h0
  have k0 := h0
  have lt0 : ∀ x ∈ p0, x.block < W.heap.size := by obtain ⟨m, hm⟩ := k0; exact DataW.trod_lt m _ _ _ hm
  obtain ⟨x1, e1, w1⟩ := Rd.arg1 rd_35 (hval 1 35 v1 rfl rfl) (by rw [Try.underlying35]) h1
  have k1 := h1
  have lt1 : ∀ x ∈ p1, x.block < W.heap.size := by obtain ⟨m, hm⟩ := k1; exact DataW.trod_lt m _ _ _ hm
  obtain ⟨x2, e2, w2⟩ := Rd.arg1 (Rd.int (t := 3) (k := .i64) (by kernel_rfl)) (hval 2 3 v2 rfl rfl) (by rw [Try.underlying3]) h2
  have k2 := h2
  have lt2 : ∀ x ∈ p2, x.block < W.heap.size := by obtain ⟨m, hm⟩ := k2; exact DataW.trod_lt m _ _ _ hm
  clear hA0 hval0 hsz0
  refine (law_calls (law_laws_FnExactShrunk (pure_FnExactShrunk w0 w1 w2)) (.cons e0 (.cons e1 (.cons e2 .nil)))).mono fun e W' ⟨he, bel⟩ => ?_
  subst he
  exact ⟨_, rfl, _, _, _, [], _, [], hW', trodAll_mk1 (shut_bool Try.underlying4 _), (trodAll_cons_mk (Below.trod laidOut (by kernel_rfl) (of_decide_eq_true (by kernel_rfl)) k0 bel lt0) (trodAll_cons_mk (Below.trod laidOut (by kernel_rfl) (of_decide_eq_true (by kernel_rfl)) k1 bel lt1) (trodAll_cons_mk (Below.trod laidOut (by kernel_rfl) (of_decide_eq_true (by kernel_rfl)) k2 bel lt2) trodAll_mk0))), rfl, bel.frame _, fun h => by cases h⟩
theorem over_FnExactShrunk : Rows.fnExactShrunkRow.holds Try.pinned (OpenSpec.ofChange Rows.fnExactShrunkSpec) :=
  OpenClaim.holds_of_wide 5 Try.f5 rfl rfl rfl rfl rfl rfl rfl ⟨rfl, rfl, rfl, rfl, rfl⟩ rfl rfl rfl rfl rfl (by kernel_rfl) Try.func5 (by kernel_rfl)
    (of_decide_eq_true (by kernel_rfl)) (by unfold Func.isWrapper; first | (rw [if_pos (by decide +kernel)]; kernel_rfl) | (rw [if_neg (by decide +kernel)]; exact ⟨rfl, rfl⟩))
    (fun os started H enc _ => lifted_FnExactShrunk os started H enc)
end Go.Proofs.Ytcehlicmghnghaa.V
namespace Go.Proofs.Ytcehlicmghnghaa
/-- The statement. -/
theorem fnExactShrunk_holds : Rows.FnExactShrunkSaid := V.over_FnExactShrunk
#print axioms fnExactShrunk_holds
end Go.Proofs.Ytcehlicmghnghaa
