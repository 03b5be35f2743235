/- The statement FnExactRoomy: the law answers true, whatever comes in. -/
import Derived.Test.YtcehlicmghnghaaGreatRows
import Derived.Test.YtcehlicmghnghaaGreatXD2
import Derived.Test.YtcehlicmghnghaaGreatXP
namespace Go.Proofs.YtcehlicmghnghaaGreat.V
open Go Go.Proofs Go.RowKit
set_option maxRecDepth 100000
theorem own : ownKnob Tryz.prog.godebug = none := by kernel_rfl
theorem laidOut : laidOutB Tryz.prog = true := by kernel_rfl
theorem rd_22 : Rd Tryz.prog 22 (fun l : List (List UInt8) => [.lst false 1 (fl (encS false) l) l.length]) (fun l => l.length ≤ maxLen ∧ ∀ a ∈ l, a.length ≤ maxLen) := Rd.slice (e := 9) (enc := encS false) (Wf := fun a : List UInt8 => a.length ≤ maxLen) (by kernel_rfl) (by kernel_rfl) (by decide) (ekS.len false) (Rd.str (t := 9) (by kernel_rfl))
theorem rd_215 : Rd Tryz.prog 215 (enc_TWrite false) wf_TWrite := Rd.struct (fs := [(0, 3), (1, 9)]) (tot := 2) (by kernel_rfl) (by kernel_rfl) (RdF.cons (off := 0) (s := 1) (Rd.int (t := 3) (k := .i64) (by kernel_rfl)) (by kernel_rfl) (RdF.cons (off := 1) (s := 1) (Rd.str (t := 9) (by kernel_rfl)) (by kernel_rfl) RdF.nil)) (fun b => { At := b.1, Text := b.2.1 }) (fun _ => rfl) (fun _ h => h)
theorem rd_41 : Rd Tryz.prog 41 (fun l : List TWrite => [.lst false 2 (fl (enc_TWrite false) l) l.length]) (fun l => l.length ≤ maxLen ∧ ∀ a ∈ l, wf_TWrite a) := Rd.slice (e := 215) (enc := enc_TWrite false) (Wf := fun a : TWrite => wf_TWrite a) (by kernel_rfl) (by kernel_rfl) (by decide) (ek_TWrite.len false) rd_215
theorem rd_43 : Rd Tryz.prog 43 (enc_TDisk false) wf_TDisk := Rd.struct (fs := [(0, 22), (1, 41)]) (tot := 2) (by kernel_rfl) (by kernel_rfl) (RdF.cons (off := 0) (s := 1) rd_22 (by kernel_rfl) (RdF.cons (off := 1) (s := 1) rd_41 (by kernel_rfl) RdF.nil)) (fun b => { Sectors := b.1, Cache := b.2.1 }) (fun _ => rfl) (fun _ h => h)
theorem rd_59 : Rd Tryz.prog 59 (enc_TRec false) wf_TRec := Rd.struct (fs := [(0, 3), (1, 3), (2, 3), (3, 3), (4, 3), (5, 9), (6, 9), (7, 9)]) (tot := 8) (by kernel_rfl) (by kernel_rfl) (RdF.cons (off := 0) (s := 1) (Rd.int (t := 3) (k := .i64) (by kernel_rfl)) (by kernel_rfl) (RdF.cons (off := 1) (s := 1) (Rd.int (t := 3) (k := .i64) (by kernel_rfl)) (by kernel_rfl) (RdF.cons (off := 2) (s := 1) (Rd.int (t := 3) (k := .i64) (by kernel_rfl)) (by kernel_rfl) (RdF.cons (off := 3) (s := 1) (Rd.int (t := 3) (k := .i64) (by kernel_rfl)) (by kernel_rfl) (RdF.cons (off := 4) (s := 1) (Rd.int (t := 3) (k := .i64) (by kernel_rfl)) (by kernel_rfl) (RdF.cons (off := 5) (s := 1) (Rd.str (t := 9) (by kernel_rfl)) (by kernel_rfl) (RdF.cons (off := 6) (s := 1) (Rd.str (t := 9) (by kernel_rfl)) (by kernel_rfl) (RdF.cons (off := 7) (s := 1) (Rd.str (t := 9) (by kernel_rfl)) (by kernel_rfl) RdF.nil)))))))) (fun b => { Kind := b.1, Valid := b.2.1, Uid := b.2.2.1, Next := b.2.2.2.1, Flags := b.2.2.2.2.1, User := b.2.2.2.2.2.1, Name := b.2.2.2.2.2.2.1, Text := b.2.2.2.2.2.2.2.1 }) (fun _ => rfl) (fun _ h => h)
theorem rd_232 : Rd Tryz.prog 232 (enc_TItem false) wf_TItem := Rd.struct (fs := [(0, 3), (1, 59)]) (tot := 9) (by kernel_rfl) (by kernel_rfl) (RdF.cons (off := 0) (s := 1) (Rd.int (t := 3) (k := .i64) (by kernel_rfl)) (by kernel_rfl) (RdF.cons (off := 1) (s := 8) rd_59 (by kernel_rfl) RdF.nil)) (fun b => { Seq := b.1, Rec := b.2.1 }) (fun _ => rfl) (fun _ h => h)
theorem rd_177 : Rd Tryz.prog 177 (fun l : List TItem => [.lst false 9 (fl (enc_TItem false) l) l.length]) (fun l => l.length ≤ maxLen ∧ ∀ a ∈ l, wf_TItem a) := Rd.slice (e := 232) (enc := enc_TItem false) (Wf := fun a : TItem => wf_TItem a) (by kernel_rfl) (by kernel_rfl) (by decide) (ek_TItem.len false) rd_232
theorem rd_179 : Rd Tryz.prog 179 (enc_TSeg false) wf_TSeg := Rd.struct (fs := [(0, 3), (1, 3), (2, 3), (3, 177)]) (tot := 4) (by kernel_rfl) (by kernel_rfl) (RdF.cons (off := 0) (s := 1) (Rd.int (t := 3) (k := .i64) (by kernel_rfl)) (by kernel_rfl) (RdF.cons (off := 1) (s := 1) (Rd.int (t := 3) (k := .i64) (by kernel_rfl)) (by kernel_rfl) (RdF.cons (off := 2) (s := 1) (Rd.int (t := 3) (k := .i64) (by kernel_rfl)) (by kernel_rfl) (RdF.cons (off := 3) (s := 1) rd_177 (by kernel_rfl) RdF.nil)))) (fun b => { No := b.1, Gen := b.2.1, End := b.2.2.1, Items := b.2.2.2.1 }) (fun _ => rfl) (fun _ h => h)
theorem rd_44 : Rd Tryz.prog 44 (fun l : List TSeg => [.lst false 4 (fl (enc_TSeg false) l) l.length]) (fun l => l.length ≤ maxLen ∧ ∀ a ∈ l, wf_TSeg a) := Rd.slice (e := 179) (enc := enc_TSeg false) (Wf := fun a : TSeg => wf_TSeg a) (by kernel_rfl) (by kernel_rfl) (by decide) (ek_TSeg.len false) rd_179
theorem rd_46 : Rd Tryz.prog 46 (enc_TLog false) wf_TLog := Rd.struct (fs := [(0, 43), (2, 3), (3, 44), (4, 3), (5, 3), (6, 3), (7, 3)]) (tot := 8) (by kernel_rfl) (by kernel_rfl) (RdF.cons (off := 0) (s := 2) rd_43 (by kernel_rfl) (RdF.cons (off := 2) (s := 1) (Rd.int (t := 3) (k := .i64) (by kernel_rfl)) (by kernel_rfl) (RdF.cons (off := 3) (s := 1) rd_44 (by kernel_rfl) (RdF.cons (off := 4) (s := 1) (Rd.int (t := 3) (k := .i64) (by kernel_rfl)) (by kernel_rfl) (RdF.cons (off := 5) (s := 1) (Rd.int (t := 3) (k := .i64) (by kernel_rfl)) (by kernel_rfl) (RdF.cons (off := 6) (s := 1) (Rd.int (t := 3) (k := .i64) (by kernel_rfl)) (by kernel_rfl) (RdF.cons (off := 7) (s := 1) (Rd.int (t := 3) (k := .i64) (by kernel_rfl)) (by kernel_rfl) RdF.nil))))))) (fun b => { Disk := b.1, Segs := b.2.1, Used := b.2.2.1, NextGen := b.2.2.2.1, NextSeq := b.2.2.2.2.1, Stamp := b.2.2.2.2.2.1, NextValid := b.2.2.2.2.2.2.1 }) (fun _ => rfl) (fun _ h => h)
theorem rd_34 : Rd Tryz.prog 34 (fun l : List Int => [.lst false 1 (fl (encI false) l) l.length]) (fun l => l.length ≤ maxLen ∧ ∀ a ∈ l, (Lit.int .i64 a).wf = true) := Rd.slice (e := 3) (enc := encI false) (Wf := fun a : Int => (Lit.int .i64 a).wf = true) (by kernel_rfl) (by kernel_rfl) (by decide) (ekI.len false) (Rd.int (t := 3) (k := .i64) (by kernel_rfl))
theorem rd_48 : Rd Tryz.prog 48 (enc_TStore false) wf_TStore := Rd.struct (fs := [(0, 46), (8, 34)]) (tot := 9) (by kernel_rfl) (by kernel_rfl) (RdF.cons (off := 0) (s := 8) rd_46 (by kernel_rfl) (RdF.cons (off := 8) (s := 1) rd_34 (by kernel_rfl) RdF.nil)) (fun b => { Log := b.1, Freed := b.2.1 }) (fun _ => rfl) (fun _ h => h)
open Go.ChangeShapes Go.WideShapes Go.ChangeAt Go.RowKit
theorem lifted_FnExactRoomy (os : Os) (started : os.Started) (H : Type) (enc : TypeId × Value → H) :
    ReturnsInHanded {} Tryz.checked os 6 .any (Rows.fnExactRoomySpec.pre6 enc Tryz.prog Tryz.f6 Rows.fnExactRoomyRow.domain false) (Rows.fnExactRoomySpec.post enc Tryz.prog Tryz.f6 false true false false) := by
  refine returnsInHanded_of_change_sized (C := Tryz.checked) own started (by kernel_rfl) Tryz.func6
    (ChangeSpec.witness6 (enc := enc) (C := Tryz.checked) false ⟨#[], #[.agg #[.slice none 0 0, .slice none 0 0, .int .i64 0, .slice none 0 0, .int .i64 0, .int .i64 0, .int .i64 0, .int .i64 0, .slice none 0 0], .agg #[.int .i64 0, .int .i64 0, .int .i64 0, .int .i64 0, .int .i64 0, .string ByteArray.empty, .string ByteArray.empty, .string ByteArray.empty]], []⟩ 8 (by kernel_rfl) (by kernel_rfl) (by kernel_rfl) (by kernel_rfl)) ?_
  intro W base args ds gs before hval0 hW hcnd hsz0 _
  have hval : ∀ (j : Nat) t v, Tryz.f6.params[j]? = some t → args[j]? = some v → Value.okWide Tryz.prog W .any base t v := hval0
  have hW' := hW
  obtain ⟨p, q, hA0, hV, rfl, hfz, hnd⟩ := hW
  have hA : DataW.TrodAll enc Tryz.prog W 0 (fun _ => true) true Tryz.f6.params.toList args.toList ds p := hA0
  rw [Tryz.params6] at hA hval
  obtain ⟨v0, vs0, d0, ds0, p0, q0, hargs, rfl, rfl, h0, r0⟩ := trodAll_cons hA
  obtain ⟨v1, vs1, d1, ds1, p1, q1, rfl, rfl, rfl, h1, r1⟩ := trodAll_cons r0
  obtain ⟨rfl, rfl, rfl⟩ := trodAll_nil r1
  obtain rfl : args = #[v0, v1] := by cases args; simp_all
  obtain ⟨rfl, rfl⟩ := trodVars_none hV
  obtain ⟨x0, e0, w0⟩ := Rd.argS rd_48 Tryz.underlying48 (hval 0 48 v0 rfl rfl) h0
  have k0 := h0
  have lt0 : ∀ x ∈ p0, x.block < W.heap.size := by obtain ⟨m, hm⟩ := k0; exact DataW.trod_lt m _ _ _ hm
  obtain ⟨x1, e1, w1⟩ := Rd.argS rd_59 Tryz.underlying59 (hval 1 59 v1 rfl rfl) h1
  have k1 := h1
  have lt1 : ∀ x ∈ p1, x.block < W.heap.size := by obtain ⟨m, hm⟩ := k1; exact DataW.trod_lt m _ _ _ hm
  clear hA0 hval0 hsz0
  refine (law_calls (law_laws_FnExactRoomy (pure_FnExactRoomy w0 w1)) (.cons e0 (.cons e1 .nil))).mono fun e W' ⟨he, bel⟩ => ?_
  subst he
  exact ⟨_, rfl, _, _, _, [], _, [], hW', trodAll_mk1 (shut_bool Tryz.underlying4 _), (trodAll_cons_mk (Below.trod laidOut (by kernel_rfl) (of_decide_eq_true (by kernel_rfl)) k0 bel lt0) (trodAll_cons_mk (Below.trod laidOut (by kernel_rfl) (of_decide_eq_true (by kernel_rfl)) k1 bel lt1) trodAll_mk0)), rfl, bel.frame _, fun h => by cases h⟩
theorem over_FnExactRoomy : Rows.fnExactRoomyRow.holds Tryz.pinned (OpenSpec.ofChange Rows.fnExactRoomySpec) :=
  OpenClaim.holds_of_wide 6 Tryz.f6 rfl rfl rfl rfl rfl rfl rfl ⟨rfl, rfl, rfl, rfl, rfl⟩ rfl rfl rfl rfl rfl (by kernel_rfl) Tryz.func6 (by kernel_rfl)
    (of_decide_eq_true (by kernel_rfl)) (by unfold Func.isWrapper; first | (rw [if_pos (by decide +kernel)]; kernel_rfl) | (rw [if_neg (by decide +kernel)]; exact ⟨rfl, rfl⟩))
    (fun os started H enc _ => lifted_FnExactRoomy os started H enc)
end Go.Proofs.YtcehlicmghnghaaGreat.V
namespace Go.Proofs.YtcehlicmghnghaaGreat
/-- The statement. -/
theorem fnExactRoomy_holds : Rows.FnExactRoomySaid := V.over_FnExactRoomy
#print axioms fnExactRoomy_holds
end Go.Proofs.YtcehlicmghnghaaGreat
