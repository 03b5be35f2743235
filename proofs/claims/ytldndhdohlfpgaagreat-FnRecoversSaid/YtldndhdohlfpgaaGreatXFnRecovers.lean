/- The statement FnRecovers: the law answers true, whatever comes in. -/
import Derived.Test.YtldndhdohlfpgaaGreatRows
import Derived.Test.YtldndhdohlfpgaaGreatXD2
import Derived.Test.YtldndhdohlfpgaaGreatXP
namespace Go.Proofs.YtldndhdohlfpgaaGreat.V
open Go Go.Proofs Go.RowKit
set_option maxRecDepth 100000
theorem own : ownKnob Tryz.prog.godebug = none := by kernel_rfl
theorem laidOut : laidOutB Tryz.prog = true := by kernel_rfl
theorem rd_22 : Rd Tryz.prog 22 (fun l : List Int => [.lst false 1 (fl (encB false) l) l.length]) (fun l => l.length ≤ maxLen ∧ ∀ a ∈ l, (Lit.int .u8 a).wf = true) := Rd.slice (e := 5) (enc := encB false) (Wf := fun a : Int => (Lit.int .u8 a).wf = true) (by kernel_rfl) (by kernel_rfl) (by decide) (ekB.len false) (Rd.int (t := 5) (k := .u8) (by kernel_rfl))
open Go.ChangeShapes Go.WideShapes Go.ChangeAt Go.RowKit
theorem lifted_FnRecovers (os : Os) (started : os.Started) (H : Type) (enc : TypeId × Value → H) :
    ReturnsInHanded {} Tryz.checked os 4 .any (Rows.fnRecoversSpec.pre6 enc Tryz.prog Tryz.f4 Rows.fnRecoversRow.domain false) (Rows.fnRecoversSpec.post enc Tryz.prog Tryz.f4 false true false false) := by
  refine returnsInHanded_of_change_sized (C := Tryz.checked) own started (by kernel_rfl) Tryz.func4
    (ChangeSpec.witness6 (enc := enc) (C := Tryz.checked) false ⟨#[], #[.slice none 0 0], []⟩ 8 (by kernel_rfl) (by kernel_rfl) (by kernel_rfl) (by kernel_rfl)) ?_
  intro W base args ds gs before hval0 hW hcnd hsz0 _
  have hval : ∀ (j : Nat) t v, Tryz.f4.params[j]? = some t → args[j]? = some v → Value.okWide Tryz.prog W .any base t v := hval0
  have hW' := hW
  obtain ⟨p, q, hA0, hV, rfl, hfz, hnd⟩ := hW
  have hA : DataW.TrodAll enc Tryz.prog W 0 (fun _ => true) true Tryz.f4.params.toList args.toList ds p := hA0
  rw [Tryz.params4] at hA hval
  obtain ⟨v0, vs0, d0, ds0, p0, q0, hargs, rfl, rfl, h0, r0⟩ := trodAll_cons hA
  obtain ⟨rfl, rfl, rfl⟩ := trodAll_nil r0
  obtain rfl : args = #[v0] := by cases args; simp_all
  obtain ⟨rfl, rfl⟩ := trodVars_none hV
  obtain ⟨x0, e0, w0⟩ := Rd.arg1 rd_22 (hval 0 22 v0 rfl rfl) (by rw [Tryz.underlying22]) h0
  have k0 := h0
  have lt0 : ∀ x ∈ p0, x.block < W.heap.size := by obtain ⟨m, hm⟩ := k0; exact DataW.trod_lt m _ _ _ hm
  clear hA0 hval0 hsz0
  refine (A6b (My (Wt w0)) (.cons e0 .nil)).mono fun e W' ⟨he, bel⟩ => ?_
  subst he
  exact ⟨_, rfl, _, _, _, [], _, [], hW', trodAll_mk1 (shut_bool Tryz.underlying4 _), (trodAll_cons_mk (Below.trod laidOut (by kernel_rfl) (of_decide_eq_true (by kernel_rfl)) k0 bel lt0) trodAll_mk0), rfl, bel.frame _, fun h => by cases h⟩
theorem over_FnRecovers : Rows.fnRecoversRow.holds Tryz.pinned (OpenSpec.ofChange Rows.fnRecoversSpec) :=
  OpenClaim.holds_of_wide 4 Tryz.f4 rfl rfl rfl rfl rfl rfl rfl ⟨rfl, rfl, rfl, rfl, rfl⟩ rfl rfl rfl rfl rfl (by kernel_rfl) Tryz.func4 (by kernel_rfl)
    (of_decide_eq_true (by kernel_rfl)) (by unfold Func.isWrapper; first | (rw [if_pos (by decide +kernel)]; kernel_rfl) | (rw [if_neg (by decide +kernel)]; exact ⟨rfl, rfl⟩))
    (fun os started H enc _ => lifted_FnRecovers os started H enc)
end Go.Proofs.YtldndhdohlfpgaaGreat.V
namespace Go.Proofs.YtldndhdohlfpgaaGreat
/-- The statement. -/
theorem fnRecovers_holds : Rows.FnRecoversSaid := V.over_FnRecovers
#print axioms fnRecovers_holds
end Go.Proofs.YtldndhdohlfpgaaGreat
