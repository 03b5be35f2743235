/- Records, and what the functions compute. -/
import Derived.Test.YtpecafogemipmaaXE
/- Records, and how they lie in cells. -/
namespace Go.Proofs.Ytpecafogemipmaa.V
open Go Go.Proofs Go.RowKit
set_option maxRecDepth 100000
structure TRec where
  Kind : Int
  Valid : Int
  Uid : Int
  Next : Int
  Flags : Int
  User : List UInt8
  Name : List UInt8
  Text : List UInt8
def enc_TRec (_ : Bool) (x : TRec) : List AV := [.int .i64 x.Kind, .int .i64 x.Valid, .int .i64 x.Uid, .int .i64 x.Next, .int .i64 x.Flags, .str x.User, .str x.Name, .str x.Text]
theorem fk_TRec : FlatOk enc_TRec 8 := ⟨⟨fun _ _ => rfl, by omega, fun _ _ => (fac .int (fac .int (fac .int (fac .int (fac .int (fac .str (fac .str (fac .str fan)))))))), fun _ => (fac .int (fac .int (fac .int (fac .int (fac .int (fac .str (fac .str (fac .str fan)))))))), fun _ => (.cons .refl (.cons .refl (.cons .refl (.cons .refl (.cons .refl (.cons .refl (.cons .refl (.cons .refl .nil))))))))⟩, fun _ => rfl, fun _ _ => (fac rfl (fac rfl (fac rfl (fac rfl (fac rfl (fac rfl (fac rfl (fac rfl fan)))))))), fun _ _ => (fac rfl (fac rfl (fac rfl (fac rfl (fac rfl (fac rfl (fac rfl (fac rfl fan))))))))⟩
theorem ek_TRec : EncOk enc_TRec 8 := fk_TRec.toEncOk
structure TItem where
  Seq : Int
  Rec : TRec
def enc_TItem (_ : Bool) (x : TItem) : List AV := [.int .i64 x.Seq, .int .i64 x.Rec.Kind, .int .i64 x.Rec.Valid, .int .i64 x.Rec.Uid, .int .i64 x.Rec.Next, .int .i64 x.Rec.Flags, .str x.Rec.User, .str x.Rec.Name, .str x.Rec.Text]
theorem fk_TItem : FlatOk enc_TItem 9 := ⟨⟨fun _ _ => rfl, by omega, fun _ _ => (fac .int (fac .int (fac .int (fac .int (fac .int (fac .int (fac .str (fac .str (fac .str fan))))))))), fun _ => (fac .int (fac .int (fac .int (fac .int (fac .int (fac .int (fac .str (fac .str (fac .str fan))))))))), fun _ => (.cons .refl (.cons .refl (.cons .refl (.cons .refl (.cons .refl (.cons .refl (.cons .refl (.cons .refl (.cons .refl .nil)))))))))⟩, fun _ => rfl, fun _ _ => (fac rfl (fac rfl (fac rfl (fac rfl (fac rfl (fac rfl (fac rfl (fac rfl (fac rfl fan))))))))), fun _ _ => (fac rfl (fac rfl (fac rfl (fac rfl (fac rfl (fac rfl (fac rfl (fac rfl (fac rfl fan)))))))))⟩
theorem ek_TItem : EncOk enc_TItem 9 := fk_TItem.toEncOk
structure TFrame where
  Gen : Int
  Seq : Int
  Body : List UInt8
def enc_TFrame (_ : Bool) (x : TFrame) : List AV := [.int .i64 x.Gen, .int .i64 x.Seq, .str x.Body]
theorem fk_TFrame : FlatOk enc_TFrame 3 := ⟨⟨fun _ _ => rfl, by omega, fun _ _ => (fac .int (fac .int (fac .str fan))), fun _ => (fac .int (fac .int (fac .str fan))), fun _ => (.cons .refl (.cons .refl (.cons .refl .nil)))⟩, fun _ => rfl, fun _ _ => (fac rfl (fac rfl (fac rfl fan))), fun _ _ => (fac rfl (fac rfl (fac rfl fan)))⟩
theorem ek_TFrame : EncOk enc_TFrame 3 := fk_TFrame.toEncOk
def wf_TRec (x : TRec) : Prop := ((Lit.int .i64 x.Kind).wf = true) ∧ ((Lit.int .i64 x.Valid).wf = true) ∧ ((Lit.int .i64 x.Uid).wf = true) ∧ ((Lit.int .i64 x.Next).wf = true) ∧ ((Lit.int .i64 x.Flags).wf = true) ∧ (x.User.length ≤ maxLen) ∧ (x.Name.length ≤ maxLen) ∧ (x.Text.length ≤ maxLen) ∧ True
def wf_TItem (x : TItem) : Prop := ((Lit.int .i64 x.Seq).wf = true) ∧ (wf_TRec x.Rec) ∧ True
def wf_TFrame (x : TFrame) : Prop := ((Lit.int .i64 x.Gen).wf = true) ∧ ((Lit.int .i64 x.Seq).wf = true) ∧ (x.Body.length ≤ maxLen) ∧ True
end Go.Proofs.Ytpecafogemipmaa.V
/- What the functions compute. -/
namespace Go.Proofs.Ytpecafogemipmaa.V
open Go Go.Proofs Go.RowKit
set_option maxRecDepth 100000
noncomputable def F_laws_szRec (x0 : TRec) (x1 : Int) : Option Int :=
  (if decide ((w64 (x1 - (x0.User.length : Int))) < 0) then some (-1) else (if decide ((w64 ((w64 (x1 - (x0.User.length : Int))) - (x0.Name.length : Int))) < 0) then some (-1) else (if decide ((w64 ((w64 ((w64 (x1 - (x0.User.length : Int))) - (x0.Name.length : Int))) - (x0.Text.length : Int))) < 0) then some (-1) else some (w64 ((w64 ((w64 (x1 - (x0.User.length : Int))) - (x0.Name.length : Int))) - (x0.Text.length : Int))))))
noncomputable def S_spec_l01Var_1 (s1 : Int × (List Int)) : Option ((Int × (List Int)) ⊕ (Int × (List Int))) :=
  (if decide (s1.1 > 127) then (app? 1 s1.2 [IntKind.u8.wrap (w64 ((Int.tmod s1.1 128) + 128))]).bind fun v3 => some (.inl (w64 (Int.tdiv s1.1 128), v3)) else some (.inr (s1.1, s1.2)))
noncomputable def F_spec_l01Var (x0 : Int) : Option (List UInt8) :=
  (iter (S_spec_l01Var_1) (x0, ([] : List Int))).bind (fun y4 => (app? 1 y4.2 [IntKind.u8.wrap y4.1]).bind fun v5 => some (v5.map ofI))
noncomputable def F_spec_l06Short (x0 : List UInt8) : Option (List UInt8) :=
  (F_spec_l01Var (x0.length : Int)).bind fun v1 => (cat? v1 x0).bind fun v2 => some v2
noncomputable def F_spec_l01In (x0 : Int) (x1 : Int) (x2 : Int) : Option Bool :=
  (if decide (x0 ≥ x1) then some (decide (x0 ≤ x2)) else some false)
noncomputable def S_spec_WordOk_1 (x0 : List UInt8) (s1 : Int) : Option (Int ⊕ (Bool ⊕ Unit)) :=
  (if decide (s1 < (x0.length : Int)) then ((bt? x0 s1).bind fun v4 => (if decide ((v4.toNat : Int) < 97) then some true else (bt? x0 s1).bind fun v5 => (if decide ((v5.toNat : Int) > 122) then some true else some false)) : Option Bool).bind (fun y3 => (if y3 then some (.inr (.inl false)) else some (.inl (w64 (s1 + 1))))) else some (.inr (.inr ())))
noncomputable def F_spec_WordOk (x0 : List UInt8) : Option Bool :=
  (iter (S_spec_WordOk_1 x0) 0).bind (Sum.elim (fun r => some r) (fun y2 => (F_spec_l01In (x0.length : Int) 1 8).bind fun v7 => some v7))
noncomputable def F_spec_RecOk (x0 : TRec) : Option Bool :=
  ((F_spec_l01In x0.Kind 1 5).bind fun v2 => (if v2 then (F_spec_l01In x0.Valid 1 9999).bind fun v3 => (if v3 then some false else some true) else some true) : Option Bool).bind (fun y1 => (if y1 then some false else (if (x0.Kind == 1) then ((if (x0.Kind == 3) then some true else (if (x0.Kind == 4) then some true else (if (x0.Kind == 5) then some true else some false))) : Option Bool).bind (fun y11 => ((if (x0.Kind == 3) then some true else (if (x0.Kind == 4) then some true else some false)) : Option Bool).bind (fun y12 => ((F_spec_WordOk x0.User).bind fun v14 => (if v14 then (F_spec_WordOk x0.Name).bind fun v15 => (if v15 then (F_spec_l01In x0.Next 1 10000).bind fun v16 => (if v16 then some false else some true) else some true) else some true) : Option Bool).bind (fun y13 => (if y13 then some false else ((if y11 then (F_spec_l01In x0.Uid 1 9999).bind fun v18 => (if v18 then some false else some true) else (if (x0.Uid != 0) then some true else some false)) : Option Bool).bind (fun y17 => (if y17 then some false else ((if y12 then (F_spec_l01In x0.Flags 0 7).bind fun v20 => (if v20 then some false else some true) else (if (x0.Flags != 0) then some true else some false)) : Option Bool).bind (fun y19 => (if y19 then some false else (if (x0.Kind == 3) then some (decide ((x0.Text.length : Int) ≤ 100)) else some (x0.Text == [])))))))))) else ((if (x0.Kind == 3) then some true else (if (x0.Kind == 4) then some true else (if (x0.Kind == 5) then some true else some false))) : Option Bool).bind (fun y4 => ((if (x0.Kind == 3) then some true else (if (x0.Kind == 4) then some true else some false)) : Option Bool).bind (fun y5 => ((if (!(x0.User == [])) then some true else (if (!(x0.Name == [])) then some true else (if (x0.Next != 0) then some true else some false))) : Option Bool).bind (fun y6 => (if y6 then some false else ((if y4 then (F_spec_l01In x0.Uid 1 9999).bind fun v8 => (if v8 then some false else some true) else (if (x0.Uid != 0) then some true else some false)) : Option Bool).bind (fun y7 => (if y7 then some false else ((if y5 then (F_spec_l01In x0.Flags 0 7).bind fun v10 => (if v10 then some false else some true) else (if (x0.Flags != 0) then some true else some false)) : Option Bool).bind (fun y9 => (if y9 then some false else (if (x0.Kind == 3) then some (decide ((x0.Text.length : Int) ≤ 100)) else some (x0.Text == [])))))))))))))
noncomputable def F_spec_RecText (x0 : TRec) : Option ((List UInt8) × Bool) :=
  (F_spec_RecOk x0).bind fun v1 => (if v1 then (F_spec_l01Var x0.Valid).bind fun v2 => (cat? ([IntKind.u8.wrap x0.Kind].map ofI) v2).bind fun v3 => (F_spec_l01Var x0.Uid).bind fun v4 => (cat? v3 v4).bind fun v5 => (F_spec_l01Var x0.Next).bind fun v6 => (cat? v5 v6).bind fun v7 => (F_spec_l01Var x0.Flags).bind fun v8 => (cat? v7 v8).bind fun v9 => (F_spec_l06Short x0.User).bind fun v10 => (cat? v9 v10).bind fun v11 => (F_spec_l06Short x0.Name).bind fun v12 => (cat? v11 v12).bind fun v13 => (F_spec_l06Short x0.Text).bind fun v14 => (cat? v13 v14).bind fun v15 => some (v15, true) else some ([], false))
noncomputable def F_spec_FrameOk (x0 : TFrame) : Option Bool :=
  ((F_spec_l01In x0.Gen 1 1000000000).bind fun v2 => (if v2 then (F_spec_l01In x0.Seq 1 1000000000).bind fun v3 => (if v3 then (F_spec_l01In (x0.Body.length : Int) 1 180).bind fun v4 => some v4 else some false) else some false) : Option Bool).bind (fun y1 => some y1)
noncomputable def F_spec_ItemFrame (x0 : TItem) (x1 : Int) : Option (TFrame × Bool) :=
  (F_spec_RecText x0.Rec).bind fun v1 => ((if !v1.2 then some true else (F_spec_FrameOk ({ Gen := x1, Seq := x0.Seq, Body := v1.1 } : TFrame)).bind fun v3 => (if v3 then some false else some true)) : Option Bool).bind (fun y2 => (if y2 then some (({ Gen := 0, Seq := 0, Body := [] } : TFrame), false) else some (({ Gen := x1, Seq := x0.Seq, Body := v1.1 } : TFrame), true)))
noncomputable def F_spec_l02Four (x0 : Int) : Option (List UInt8) :=
  some ([IntKind.u8.wrap (shrv .u32 x0 24), IntKind.u8.wrap (shrv .u32 x0 16), IntKind.u8.wrap (shrv .u32 x0 8), IntKind.u8.wrap x0].map ofI)
noncomputable def S_spec_SumMore_2 (s4 : Int × Int) : Option ((Int × Int) ⊕ Int) :=
  (if decide (s4.2 < 8) then (if ((Int.tmod s4.1 2) == 1) then some (.inl (xorv .u32 (IntKind.u32.wrap (Int.tdiv s4.1 2)) 3558460437, w64 (s4.2 + 1))) else some (.inl (IntKind.u32.wrap (Int.tdiv s4.1 2), w64 (s4.2 + 1)))) else some (.inr s4.1))
noncomputable def S_spec_SumMore_1 (x1 : List UInt8) (s1 : Int × Int) : Option ((Int × Int) ⊕ Int) :=
  (if decide (s1.2 < (x1.length : Int)) then (bt? x1 s1.2).bind fun v3 => (iter (S_spec_SumMore_2) (xorv .u32 s1.1 (IntKind.u32.wrap (v3.toNat : Int)), 0)).bind (fun y6 => some (.inl (y6, w64 (s1.2 + 1)))) else some (.inr s1.1))
noncomputable def F_spec_SumMore (x0 : Int) (x1 : List UInt8) : Option Int :=
  (iter (S_spec_SumMore_1 x1) (x0, 0)).bind (fun y7 => some y7)
noncomputable def F_spec_SumOf (x0 : List UInt8) : Option Int :=
  (F_spec_SumMore 4294967295 x0).bind fun v1 => some v1
noncomputable def F_spec_Sealed (x0 : List UInt8) : Option ((List UInt8) × Bool) :=
  (if decide ((x0.length : Int) > 20000) then some ([], false) else (F_spec_SumOf x0).bind fun v1 => (F_spec_l02Four v1).bind fun v2 => (cat? x0 v2).bind fun v3 => some (v3, true))
noncomputable def F_spec_FrameText (x0 : TFrame) : Option ((List UInt8) × Bool) :=
  (F_spec_FrameOk x0).bind fun v1 => (if v1 then (F_spec_l01Var x0.Gen).bind fun v2 => (F_spec_l01Var x0.Seq).bind fun v3 => (cat? v2 v3).bind fun v4 => (F_spec_l01Var (x0.Body.length : Int)).bind fun v5 => (cat? v4 v5).bind fun v6 => (cat? v6 x0.Body).bind fun v7 => (F_spec_Sealed v7).bind fun v8 => some (v8.1, v8.2) else some ([], false))
noncomputable def F_spec_FrameSize (x0 : TFrame) : Option Int :=
  (F_spec_FrameText x0).bind fun v1 => some (v1.1.length : Int)
noncomputable def F_spec_RecSize (x0 : TRec) : Option Int :=
  (F_spec_ItemFrame ({ Seq := 1000000000, Rec := x0 } : TItem) 1000000000).bind fun v1 => (if !v1.2 then some 0 else (F_spec_FrameSize v1.1).bind fun v2 => some v2)
noncomputable def F_laws_toRec (x0 : TRec) : Option TRec :=
  some x0
noncomputable def S_impl_varText_1 (s1 : Int × (List Int)) : Option ((Int × (List Int)) ⊕ (Int × (List Int))) :=
  (if decide (s1.1 > 127) then (app? 1 s1.2 [IntKind.u8.wrap (orv .i64 (andv .i64 s1.1 127) 128)]).bind fun v3 => some (.inl (shrv .i64 s1.1 7, v3)) else some (.inr (s1.1, s1.2)))
noncomputable def F_impl_varText (x0 : Int) : Option (List UInt8) :=
  (iter (S_impl_varText_1) (x0, ([] : List Int))).bind (fun y4 => (app? 1 y4.2 [IntKind.u8.wrap y4.1]).bind fun v5 => some (v5.map ofI))
noncomputable def F_impl_in (x0 : Int) (x1 : Int) (x2 : Int) : Option Bool :=
  (if decide (x0 ≥ x1) then some (decide (x0 ≤ x2)) else some false)
noncomputable def S_impl_WordOk_1 (x0 : List UInt8) (s2 : Int) : Option (Int ⊕ (Bool ⊕ Unit)) :=
  (if decide (s2 < (x0.length : Int)) then ((bt? x0 s2).bind fun v5 => (if decide ((v5.toNat : Int) < 97) then some true else (bt? x0 s2).bind fun v6 => (if decide ((v6.toNat : Int) > 122) then some true else some false)) : Option Bool).bind (fun y4 => (if y4 then some (.inr (.inl false)) else some (.inl (w64 (s2 + 1))))) else some (.inr (.inr ())))
noncomputable def F_impl_WordOk (x0 : List UInt8) : Option Bool :=
  (F_impl_in (x0.length : Int) 1 8).bind fun v1 => (if v1 then (iter (S_impl_WordOk_1 x0) 0).bind (Sum.elim (fun r => some r) (fun y3 => some true)) else some false)
noncomputable def F_impl_RecOk (x0 : TRec) : Option Bool :=
  (F_impl_in x0.Valid 1 9999).bind fun v1 => (if v1 then ((if (x0.Kind == 3) then some true else (if (x0.Kind == 4) then some true else (if (x0.Kind == 5) then some true else some false))) : Option Bool).bind (fun y2 => ((if y2 then (F_impl_in x0.Uid 1 9999).bind fun v4 => (if v4 then some (true, 0) else some (false, 0)) else some (true, x0.Uid)) : Option (Bool × Int)).bind (fun y3 => ((if (x0.Kind == 3) then some true else (if (x0.Kind == 4) then some true else some false)) : Option Bool).bind (fun y5 => ((if y5 then ((if y3.1 then (F_impl_in x0.Flags 0 7).bind fun v8 => (if v8 then some true else some false) else some false) : Option Bool).bind (fun y7 => some (y7, 0)) else some (y3.1, x0.Flags)) : Option (Bool × Int)).bind (fun y6 => ((if (x0.Kind == 1) then ((F_impl_WordOk x0.User).bind fun v12 => (if v12 then (F_impl_WordOk x0.Name).bind fun v13 => (if v13 then (F_impl_in x0.Next 1 10000).bind fun v14 => (if v14 then some true else some false) else some false) else some false) : Option Bool).bind (fun y11 => some (.inr (y11, 0, [], [], x0.Text))) else (if (x0.Kind == 3) then ((if y6.1 then (if decide ((x0.Text.length : Int) ≤ 100) then some true else some false) else some false) : Option Bool).bind (fun y10 => some (.inr (y10, x0.Next, x0.User, x0.Name, []))) else (if (x0.Kind == 2) then some (.inr (y6.1, x0.Next, x0.User, x0.Name, x0.Text)) else (if (x0.Kind == 4) then some (.inr (y6.1, x0.Next, x0.User, x0.Name, x0.Text)) else (if (x0.Kind == 5) then some (.inr (y6.1, x0.Next, x0.User, x0.Name, x0.Text)) else some (.inl false)))))) : Option (Bool ⊕ (Bool × Int × (List UInt8) × (List UInt8) × (List UInt8)))).bind (Sum.elim (fun r => some r) (fun y9_ => (if y9_.1 then some (0 == 0 && (0 == 0 && (y3.2 == 0 && (y9_.2.1 == 0 && (y6.2 == 0 && (y9_.2.2.1 == [] && (y9_.2.2.2.1 == [] && (y9_.2.2.2.2 == [] && true)))))))) else some false))))))) else some false)
noncomputable def S_impl_RecText_2 (x0 : TRec) (s8 : (List UInt8) × Int) : Option (((List UInt8) × Int) ⊕ (List UInt8)) :=
  (if decide (s8.2 < ([x0.User, x0.Name, x0.Text].length : Int)) then (at? [x0.User, x0.Name, x0.Text] s8.2).bind fun v10 => (F_impl_varText (v10.length : Int)).bind fun v11 => (cat? v11 v10).bind fun v12 => (cat? s8.1 v12).bind fun v13 => some (.inl (v13, w64 (s8.2 + 1))) else some (.inr s8.1))
noncomputable def S_impl_RecText_1 (x0 : TRec) (s2 : (List UInt8) × Int) : Option (((List UInt8) × Int) ⊕ (List UInt8)) :=
  (if decide (s2.2 < ([x0.Valid, x0.Uid, x0.Next, x0.Flags].length : Int)) then (at? [x0.Valid, x0.Uid, x0.Next, x0.Flags] s2.2).bind fun v4 => (F_impl_varText v4).bind fun v5 => (cat? s2.1 v5).bind fun v6 => some (.inl (v6, w64 (s2.2 + 1))) else some (.inr s2.1))
noncomputable def F_impl_RecText (x0 : TRec) : Option ((List UInt8) × Bool) :=
  (F_impl_RecOk x0).bind fun v1 => (if v1 then (iter (S_impl_RecText_1 x0) ([IntKind.u8.wrap x0.Kind].map ofI, 0)).bind (fun y7 => (iter (S_impl_RecText_2 x0) (y7, 0)).bind (fun y14 => some (y14, true))) else some ([], false))
noncomputable def F_impl_FrameOk (x0 : TFrame) : Option Bool :=
  ((F_impl_in x0.Gen 1 1000000000).bind fun v2 => (if v2 then (F_impl_in x0.Seq 1 1000000000).bind fun v3 => (if v3 then (F_impl_in (x0.Body.length : Int) 1 180).bind fun v4 => some v4 else some false) else some false) : Option Bool).bind (fun y1 => some y1)
noncomputable def F_impl_ItemFrame (x0 : TItem) (x1 : Int) : Option (TFrame × Bool) :=
  (F_impl_RecText x0.Rec).bind fun v1 => ((if !v1.2 then some true else (F_impl_FrameOk ({ Gen := x1, Seq := x0.Seq, Body := v1.1 } : TFrame)).bind fun v3 => (if v3 then some false else some true)) : Option Bool).bind (fun y2 => (if y2 then some (({ Gen := 0, Seq := 0, Body := [] } : TFrame), false) else some (({ Gen := x1, Seq := x0.Seq, Body := v1.1 } : TFrame), true)))
noncomputable def S_impl_SumMore_2 (s4 : Int × Int) : Option ((Int × Int) ⊕ Int) :=
  (if decide (s4.2 < 8) then (if ((andv .u32 s4.1 1) == 1) then some (.inl (xorv .u32 (shrv .u32 s4.1 1) 3558460437, w64 (s4.2 + 1))) else some (.inl (shrv .u32 s4.1 1, w64 (s4.2 + 1)))) else some (.inr s4.1))
noncomputable def S_impl_SumMore_1 (x1 : List UInt8) (s1 : Int × Int) : Option ((Int × Int) ⊕ Int) :=
  (if decide (s1.2 < (x1.length : Int)) then (bt? x1 s1.2).bind fun v3 => (iter (S_impl_SumMore_2) (xorv .u32 s1.1 (IntKind.u32.wrap (v3.toNat : Int)), 0)).bind (fun y6 => some (.inl (y6, w64 (s1.2 + 1)))) else some (.inr s1.1))
noncomputable def F_impl_SumMore (x0 : Int) (x1 : List UInt8) : Option Int :=
  (iter (S_impl_SumMore_1 x1) (x0, 0)).bind (fun y7 => some y7)
noncomputable def F_impl_SumOf (x0 : List UInt8) : Option Int :=
  (F_impl_SumMore 4294967295 x0).bind fun v1 => some v1
noncomputable def F_impl_seal (x0 : List UInt8) : Option (List UInt8) :=
  (F_impl_SumOf x0).bind fun v1 => some ([IntKind.u8.wrap (shrv .u32 v1 24), IntKind.u8.wrap (shrv .u32 v1 16), IntKind.u8.wrap (shrv .u32 v1 8), IntKind.u8.wrap v1].map ofI)
noncomputable def F_impl_Sealed (x0 : List UInt8) : Option ((List UInt8) × Bool) :=
  (if decide ((x0.length : Int) > 20000) then some ([], false) else (F_impl_seal x0).bind fun v1 => (cat? x0 v1).bind fun v2 => some (v2, true))
noncomputable def F_impl_FrameText (x0 : TFrame) : Option ((List UInt8) × Bool) :=
  (F_impl_FrameOk x0).bind fun v1 => (if v1 then (F_impl_varText x0.Gen).bind fun v2 => (F_impl_varText x0.Seq).bind fun v3 => (cat? v2 v3).bind fun v4 => (F_impl_varText (x0.Body.length : Int)).bind fun v5 => (cat? v4 v5).bind fun v6 => (cat? v6 x0.Body).bind fun v7 => (F_impl_Sealed v7).bind fun v8 => some (v8.1, v8.2) else some ([], false))
noncomputable def F_impl_FrameSize (x0 : TFrame) : Option Int :=
  (F_impl_FrameText x0).bind fun v1 => some (v1.1.length : Int)
noncomputable def F_impl_RecSize (x0 : TRec) : Option Int :=
  (F_impl_ItemFrame ({ Seq := 1000000000, Rec := x0 } : TItem) 1000000000).bind fun v1 => (if !v1.2 then some 0 else (F_impl_FrameSize v1.1).bind fun v2 => some v2)
noncomputable def F_laws_FnExactRecSize (x0 : TRec) : Option Bool :=
  (F_laws_szRec x0 1048576).bind fun v1 => (if decide (v1 < 0) then some true else (F_laws_toRec x0).bind fun v2 => (F_spec_RecSize v2).bind fun v3 => (F_laws_toRec x0).bind fun v4 => (F_impl_RecSize v4).bind fun v5 => (if (v5 != v3) then some false else some true))
end Go.Proofs.Ytpecafogemipmaa.V
