/- Records, and what the functions compute. -/
import Derived.Test.YtpecafogemipmaaXE
/- Records, and how they lie in cells. -/
namespace Go.Proofs.Ytpecafogemipmaa.V
open Go Go.Proofs Go.RowKit
set_option maxRecDepth 100000
structure TRef where
  No : Int
  Gen : Int
def enc_TRef (_ : Bool) (x : TRef) : List AV := [.int .i64 x.No, .int .i64 x.Gen]
theorem sc_TRef (o : Bool) (x : TRef) : ∀ v ∈ enc_TRef o x, Scl v := (fac .int (fac .int fan))
theorem fk_TRef : FlatOk enc_TRef 2 := ⟨⟨fun _ _ => rfl, by omega, fun _ _ => (fac .int (fac .int fan)), fun _ => (fac .int (fac .int fan)), fun _ => (.cons .refl (.cons .refl .nil))⟩, fun _ => rfl, fun _ _ => (fac rfl (fac rfl fan)), fun _ _ => (fac rfl (fac rfl fan))⟩
theorem ek_TRef : EncOk enc_TRef 2 := fk_TRef.toEncOk
structure TCheck where
  Stamp : Int
  NextGen : Int
  NextSeq : Int
  NextValid : Int
  Refs : List TRef
def enc_TCheck (o : Bool) (x : TCheck) : List AV := [.int .i64 x.Stamp, .int .i64 x.NextGen, .int .i64 x.NextSeq, .int .i64 x.NextValid, .lst o 2 (fl (enc_TRef o) x.Refs) x.Refs.length]
theorem ek_TCheck : EncOk enc_TCheck 5 := ⟨fun _ _ => rfl, by omega, fun _ _ => (fac .int (fac .int (fac .int (fac .int (fac (.lst (ek_TRef.fdat _ _)) fan))))), fun _ => (fac .int (fac .int (fac .int (fac .int (fac (.lst (ek_TRef.fown _)) fan))))), fun _ => (.cons .refl (.cons .refl (.cons .refl (.cons .refl (.cons (ek_TRef.fflag _).lst .nil)))))⟩
structure TRec where
  Kind : Int
  Valid : Int
  Uid : Int
  Next : Int
  Flags : Int
  User : List UInt8
  Name : List UInt8
  Text : List UInt8
def enc_TRec (_ : Bool) (x : TRec) : List AV := [.int .i64 x.Kind, .int .i64 x.Valid, .int .i64 x.Uid, .int .i64 x.Next, .int .i64 x.Flags, .str x.User, .str x.Name, .str x.Text]
theorem sc_TRec (o : Bool) (x : TRec) : ∀ v ∈ enc_TRec o x, Scl v := (fac .int (fac .int (fac .int (fac .int (fac .int (fac .str (fac .str (fac .str fan))))))))
theorem fk_TRec : FlatOk enc_TRec 8 := ⟨⟨fun _ _ => rfl, by omega, fun _ _ => (fac .int (fac .int (fac .int (fac .int (fac .int (fac .str (fac .str (fac .str fan)))))))), fun _ => (fac .int (fac .int (fac .int (fac .int (fac .int (fac .str (fac .str (fac .str fan)))))))), fun _ => (.cons .refl (.cons .refl (.cons .refl (.cons .refl (.cons .refl (.cons .refl (.cons .refl (.cons .refl .nil))))))))⟩, fun _ => rfl, fun _ _ => (fac rfl (fac rfl (fac rfl (fac rfl (fac rfl (fac rfl (fac rfl (fac rfl fan)))))))), fun _ _ => (fac rfl (fac rfl (fac rfl (fac rfl (fac rfl (fac rfl (fac rfl (fac rfl fan))))))))⟩
theorem ek_TRec : EncOk enc_TRec 8 := fk_TRec.toEncOk
structure TItem where
  Seq : Int
  Rec : TRec
def enc_TItem (_ : Bool) (x : TItem) : List AV := [.int .i64 x.Seq, .int .i64 x.Rec.Kind, .int .i64 x.Rec.Valid, .int .i64 x.Rec.Uid, .int .i64 x.Rec.Next, .int .i64 x.Rec.Flags, .str x.Rec.User, .str x.Rec.Name, .str x.Rec.Text]
theorem sc_TItem (o : Bool) (x : TItem) : ∀ v ∈ enc_TItem o x, Scl v := (fac .int (fac .int (fac .int (fac .int (fac .int (fac .int (fac .str (fac .str (fac .str fan)))))))))
theorem fk_TItem : FlatOk enc_TItem 9 := ⟨⟨fun _ _ => rfl, by omega, fun _ _ => (fac .int (fac .int (fac .int (fac .int (fac .int (fac .int (fac .str (fac .str (fac .str fan))))))))), fun _ => (fac .int (fac .int (fac .int (fac .int (fac .int (fac .int (fac .str (fac .str (fac .str fan))))))))), fun _ => (.cons .refl (.cons .refl (.cons .refl (.cons .refl (.cons .refl (.cons .refl (.cons .refl (.cons .refl (.cons .refl .nil)))))))))⟩, fun _ => rfl, fun _ _ => (fac rfl (fac rfl (fac rfl (fac rfl (fac rfl (fac rfl (fac rfl (fac rfl (fac rfl fan))))))))), fun _ _ => (fac rfl (fac rfl (fac rfl (fac rfl (fac rfl (fac rfl (fac rfl (fac rfl (fac rfl fan)))))))))⟩
theorem ek_TItem : EncOk enc_TItem 9 := fk_TItem.toEncOk
structure TFrame where
  Gen : Int
  Seq : Int
  Body : List UInt8
def enc_TFrame (_ : Bool) (x : TFrame) : List AV := [.int .i64 x.Gen, .int .i64 x.Seq, .str x.Body]
theorem sc_TFrame (o : Bool) (x : TFrame) : ∀ v ∈ enc_TFrame o x, Scl v := (fac .int (fac .int (fac .str fan)))
theorem fk_TFrame : FlatOk enc_TFrame 3 := ⟨⟨fun _ _ => rfl, by omega, fun _ _ => (fac .int (fac .int (fac .str fan))), fun _ => (fac .int (fac .int (fac .str fan))), fun _ => (.cons .refl (.cons .refl (.cons .refl .nil)))⟩, fun _ => rfl, fun _ _ => (fac rfl (fac rfl (fac rfl fan))), fun _ _ => (fac rfl (fac rfl (fac rfl fan)))⟩
theorem ek_TFrame : EncOk enc_TFrame 3 := fk_TFrame.toEncOk
structure TL06Cur where
  mText : List UInt8
  mAt : Int
  mBad : Bool
def enc_TL06Cur (_ : Bool) (x : TL06Cur) : List AV := [.str x.mText, .int .i64 x.mAt, .bool x.mBad]
theorem sc_TL06Cur (o : Bool) (x : TL06Cur) : ∀ v ∈ enc_TL06Cur o x, Scl v := (fac .str (fac .int (fac .bool fan)))
theorem fk_TL06Cur : FlatOk enc_TL06Cur 3 := ⟨⟨fun _ _ => rfl, by omega, fun _ _ => (fac .str (fac .int (fac .bool fan))), fun _ => (fac .str (fac .int (fac .bool fan))), fun _ => (.cons .refl (.cons .refl (.cons .refl .nil)))⟩, fun _ => rfl, fun _ _ => (fac rfl (fac rfl (fac rfl fan))), fun _ _ => (fac rfl (fac rfl (fac rfl fan)))⟩
theorem ek_TL06Cur : EncOk enc_TL06Cur 3 := fk_TL06Cur.toEncOk
def wf_TRef (x : TRef) : Prop := ((Lit.int .i64 x.No).wf = true) ∧ ((Lit.int .i64 x.Gen).wf = true) ∧ True
def wf_TCheck (x : TCheck) : Prop := ((Lit.int .i64 x.Stamp).wf = true) ∧ ((Lit.int .i64 x.NextGen).wf = true) ∧ ((Lit.int .i64 x.NextSeq).wf = true) ∧ ((Lit.int .i64 x.NextValid).wf = true) ∧ (x.Refs.length ≤ maxLen ∧ ∀ a ∈ x.Refs, wf_TRef a) ∧ True
def wf_TRec (x : TRec) : Prop := ((Lit.int .i64 x.Kind).wf = true) ∧ ((Lit.int .i64 x.Valid).wf = true) ∧ ((Lit.int .i64 x.Uid).wf = true) ∧ ((Lit.int .i64 x.Next).wf = true) ∧ ((Lit.int .i64 x.Flags).wf = true) ∧ (x.User.length ≤ maxLen) ∧ (x.Name.length ≤ maxLen) ∧ (x.Text.length ≤ maxLen) ∧ True
def wf_TItem (x : TItem) : Prop := ((Lit.int .i64 x.Seq).wf = true) ∧ (wf_TRec x.Rec) ∧ True
def wf_TFrame (x : TFrame) : Prop := ((Lit.int .i64 x.Gen).wf = true) ∧ ((Lit.int .i64 x.Seq).wf = true) ∧ (x.Body.length ≤ maxLen) ∧ True
def wf_TL06Cur (x : TL06Cur) : Prop := (x.mText.length ≤ maxLen) ∧ ((Lit.int .i64 x.mAt).wf = true) ∧ (True) ∧ True
end Go.Proofs.Ytpecafogemipmaa.V
/- What the functions compute. -/
namespace Go.Proofs.Ytpecafogemipmaa.V
open Go Go.Proofs Go.RowKit
set_option maxRecDepth 100000
noncomputable def F_laws_szRec (x0 : TRec) (x1 : Int) : Option Int :=
  (if decide ((w64 (x1 - (x0.User.length : Int))) < 0) then some (-1) else (if decide ((w64 ((w64 (x1 - (x0.User.length : Int))) - (x0.Name.length : Int))) < 0) then some (-1) else (if decide ((w64 ((w64 ((w64 (x1 - (x0.User.length : Int))) - (x0.Name.length : Int))) - (x0.Text.length : Int))) < 0) then some (-1) else some (w64 ((w64 ((w64 (x1 - (x0.User.length : Int))) - (x0.Name.length : Int))) - (x0.Text.length : Int))))))
noncomputable def F_laws_szItem (x0 : TItem) (x1 : Int) : Option Int :=
  (F_laws_szRec x0.Rec x1).bind fun v1 => (if decide (v1 < 0) then some (-1) else some v1)
noncomputable def S_laws_szItemS_1 (x0 : List TItem) (s1 : Int × Int) : Option ((Int × Int) ⊕ (Int ⊕ Int)) :=
  (if decide (s1.2 < (x0.length : Int)) then (at? x0 s1.2).bind fun v3 => (F_laws_szItem v3 s1.1).bind fun v4 => (if decide (v4 < 0) then some (.inr (.inl (-1))) else some (.inl (v4, w64 (s1.2 + 1)))) else some (.inr (.inr s1.1)))
noncomputable def F_laws_szItemS (x0 : List TItem) (x1 : Int) : Option Int :=
  (if decide ((w64 (x1 - (x0.length : Int))) < 0) then some (-1) else (iter (S_laws_szItemS_1 x0) (w64 (x1 - (x0.length : Int)), 0)).bind (Sum.elim (fun r => some r) (fun y2 => some y2)))
noncomputable def S_spec_Without_1 (x0 : List TItem) (x1 : List Bool) (s1 : Int × (List TItem)) : Option ((Int × (List TItem)) ⊕ (List TItem)) :=
  (if decide (s1.1 < (x0.length : Int)) then (if decide (s1.1 ≥ (x1.length : Int)) then (at? x0 s1.1).bind fun v6 => (app? 96 s1.2 [v6]).bind fun v7 => some (.inl (w64 (s1.1 + 1), v7)) else (at? x1 s1.1).bind fun v3 => (if !v3 then (at? x0 s1.1).bind fun v4 => (app? 96 s1.2 [v4]).bind fun v5 => some (.inl (w64 (s1.1 + 1), v5)) else some (.inl (w64 (s1.1 + 1), s1.2)))) else some (.inr s1.2))
noncomputable def F_spec_Without (x0 : List TItem) (x1 : List Bool) : Option (List TItem) :=
  (iter (S_spec_Without_1 x0 x1) (0, ([] : List TItem))).bind (fun y8 => some y8)
noncomputable def F_laws_toRec (x0 : TRec) : Option TRec :=
  some x0
noncomputable def F_laws_toItem (x0 : TItem) : Option TItem :=
  (F_laws_toRec x0.Rec).bind fun v1 => some ({ Seq := x0.Seq, Rec := v1 } : TItem)
noncomputable def S_laws_toItemS_1 (x0 : List TItem) (s2 : Int × (List TItem)) : Option ((Int × (List TItem)) ⊕ (List TItem)) :=
  (if decide (s2.1 < (x0.length : Int)) then (at? x0 s2.1).bind fun v4 => (F_laws_toItem v4).bind fun v5 => (at? s2.2 s2.1).bind fun v6 => (some (set' s2.2 s2.1 v5)).bind fun v7 => some (.inl (w64 (s2.1 + 1), v7)) else some (.inr s2.2))
noncomputable def F_laws_toItemS (x0 : List TItem) : Option (List TItem) :=
  (mk? 96 (({ Seq := 0, Rec := ({ Kind := 0, Valid := 0, Uid := 0, Next := 0, Flags := 0, User := [], Name := [], Text := [] } : TRec) } : TItem) : TItem) (x0.length : Int)).bind fun v1 => (iter (S_laws_toItemS_1 x0) (0, v1)).bind (fun y8 => some y8)
noncomputable def S_laws_toBoolS_1 (x0 : List Bool) (s2 : Int × (List Bool)) : Option ((Int × (List Bool)) ⊕ (List Bool)) :=
  (if decide (s2.1 < (x0.length : Int)) then (at? x0 s2.1).bind fun v4 => (at? s2.2 s2.1).bind fun v5 => (some (set' s2.2 s2.1 v4)).bind fun v6 => some (.inl (w64 (s2.1 + 1), v6)) else some (.inr s2.2))
noncomputable def F_laws_toBoolS (x0 : List Bool) : Option (List Bool) :=
  (mk? 1 (false : Bool) (x0.length : Int)).bind fun v1 => (iter (S_laws_toBoolS_1 x0) (0, v1)).bind (fun y7 => some y7)
noncomputable def F_impl_dropped (x0 : List Bool) (x1 : Int) : Option Bool :=
  (if decide (x1 < (x0.length : Int)) then (at? x0 x1).bind fun v1 => some v1 else some false)
noncomputable def S_impl_Without_1 (x0 : List TItem) (x1 : List Bool) (s1 : Int × (List TItem)) : Option ((Int × (List TItem)) ⊕ (List TItem)) :=
  (if decide (s1.1 < (x0.length : Int)) then (at? x0 s1.1).bind fun v3 => (F_impl_dropped x1 s1.1).bind fun v4 => (if v4 then some (.inl (w64 (s1.1 + 1), s1.2)) else (app? 96 s1.2 [v3]).bind fun v5 => some (.inl (w64 (s1.1 + 1), v5))) else some (.inr s1.2))
noncomputable def F_impl_Without (x0 : List TItem) (x1 : List Bool) : Option (List TItem) :=
  (iter (S_impl_Without_1 x0 x1) (0, ([] : List TItem))).bind (fun y6 => some y6)
noncomputable def F_laws_eqRec (x0 : TRec) (x1 : TRec) : Option Bool :=
  (if (x0.Kind != x1.Kind) then some false else (if (x0.Valid != x1.Valid) then some false else (if (x0.Uid != x1.Uid) then some false else (if (x0.Next != x1.Next) then some false else (if (x0.Flags != x1.Flags) then some false else (if (!(x0.User == x1.User)) then some false else (if (!(x0.Name == x1.Name)) then some false else (if (!(x0.Text == x1.Text)) then some false else some true))))))))
noncomputable def F_laws_eqItem (x0 : TItem) (x1 : TItem) : Option Bool :=
  (if (x0.Seq != x1.Seq) then some false else (F_laws_eqRec x0.Rec x1.Rec).bind fun v1 => (if v1 then some true else some false))
noncomputable def S_laws_eqItemS_1 (x0 : List TItem) (x1 : List TItem) (s1 : Int) : Option (Int ⊕ (Bool ⊕ Unit)) :=
  (if decide (s1 < (x0.length : Int)) then (at? x0 s1).bind fun v3 => (at? x1 s1).bind fun v4 => (F_laws_eqItem v3 v4).bind fun v5 => (if v5 then some (.inl (w64 (s1 + 1))) else some (.inr (.inl false))) else some (.inr (.inr ())))
noncomputable def F_laws_eqItemS (x0 : List TItem) (x1 : List TItem) : Option Bool :=
  (if ((x0.length : Int) != (x1.length : Int)) then some false else (iter (S_laws_eqItemS_1 x0 x1) 0).bind (Sum.elim (fun r => some r) (fun y2 => some true)))
noncomputable def S_laws_eqBoolS_1 (x0 : List Bool) (x1 : List Bool) (s1 : Int) : Option (Int ⊕ (Bool ⊕ Unit)) :=
  (if decide (s1 < (x0.length : Int)) then (at? x0 s1).bind fun v3 => (at? x1 s1).bind fun v4 => (if !(v3 == v4) then some (.inr (.inl false)) else some (.inl (w64 (s1 + 1)))) else some (.inr (.inr ())))
noncomputable def F_laws_eqBoolS (x0 : List Bool) (x1 : List Bool) : Option Bool :=
  (if ((x0.length : Int) != (x1.length : Int)) then some false else (iter (S_laws_eqBoolS_1 x0 x1) 0).bind (Sum.elim (fun r => some r) (fun y2 => some true)))
noncomputable def S_laws_markText_1 (s1 : Int × (List UInt8)) : Option ((Int × (List UInt8)) ⊕ (List UInt8)) :=
  (if decide (s1.1 > 0) then (cat? ([IntKind.u8.wrap (w64 (48 + (Int.tmod s1.1 10)))].map ofI) s1.2).bind fun v3 => some (.inl (w64 (Int.tdiv s1.1 10), v3)) else some (.inr s1.2))
noncomputable def F_laws_markText (x0 : Int) : Option (List UInt8) :=
  (if decide (x0 ≤ 0) then some [109, 48] else (iter (S_laws_markText_1) (x0, [])).bind (fun y4 => (cat? [109] y4).bind fun v5 => some v5))
noncomputable def S_laws_markItemS_w_1 (s1 : Int × Int × (List TItem)) : Option ((Int × Int × (List TItem)) ⊕ (Int × (List TItem))) :=
  (if decide (s1.2.1 < (s1.2.2.length : Int)) then (at? s1.2.2 s1.2.1).bind fun v3 => (some (set' s1.2.2 s1.2.1 ({ Seq := s1.1, Rec := v3.Rec } : TItem))).bind fun v4 => (at? v4 s1.2.1).bind fun v5 => (some (set' v4 s1.2.1 ({ Seq := v5.Seq, Rec := ({ Kind := w64 (s1.1 + 1), Valid := v5.Rec.Valid, Uid := v5.Rec.Uid, Next := v5.Rec.Next, Flags := v5.Rec.Flags, User := v5.Rec.User, Name := v5.Rec.Name, Text := v5.Rec.Text } : TRec) } : TItem))).bind fun v6 => (at? v6 s1.2.1).bind fun v7 => (some (set' v6 s1.2.1 ({ Seq := v7.Seq, Rec := ({ Kind := v7.Rec.Kind, Valid := w64 ((w64 (s1.1 + 1)) + 1), Uid := v7.Rec.Uid, Next := v7.Rec.Next, Flags := v7.Rec.Flags, User := v7.Rec.User, Name := v7.Rec.Name, Text := v7.Rec.Text } : TRec) } : TItem))).bind fun v8 => (at? v8 s1.2.1).bind fun v9 => (some (set' v8 s1.2.1 ({ Seq := v9.Seq, Rec := ({ Kind := v9.Rec.Kind, Valid := v9.Rec.Valid, Uid := w64 ((w64 ((w64 (s1.1 + 1)) + 1)) + 1), Next := v9.Rec.Next, Flags := v9.Rec.Flags, User := v9.Rec.User, Name := v9.Rec.Name, Text := v9.Rec.Text } : TRec) } : TItem))).bind fun v10 => (at? v10 s1.2.1).bind fun v11 => (some (set' v10 s1.2.1 ({ Seq := v11.Seq, Rec := ({ Kind := v11.Rec.Kind, Valid := v11.Rec.Valid, Uid := v11.Rec.Uid, Next := w64 ((w64 ((w64 ((w64 (s1.1 + 1)) + 1)) + 1)) + 1), Flags := v11.Rec.Flags, User := v11.Rec.User, Name := v11.Rec.Name, Text := v11.Rec.Text } : TRec) } : TItem))).bind fun v12 => (at? v12 s1.2.1).bind fun v13 => (some (set' v12 s1.2.1 ({ Seq := v13.Seq, Rec := ({ Kind := v13.Rec.Kind, Valid := v13.Rec.Valid, Uid := v13.Rec.Uid, Next := v13.Rec.Next, Flags := w64 ((w64 ((w64 ((w64 ((w64 (s1.1 + 1)) + 1)) + 1)) + 1)) + 1), User := v13.Rec.User, Name := v13.Rec.Name, Text := v13.Rec.Text } : TRec) } : TItem))).bind fun v14 => (F_laws_markText (w64 ((w64 ((w64 ((w64 ((w64 ((w64 (s1.1 + 1)) + 1)) + 1)) + 1)) + 1)) + 1))).bind fun v15 => (at? v14 s1.2.1).bind fun v16 => (some (set' v14 s1.2.1 ({ Seq := v16.Seq, Rec := ({ Kind := v16.Rec.Kind, Valid := v16.Rec.Valid, Uid := v16.Rec.Uid, Next := v16.Rec.Next, Flags := v16.Rec.Flags, User := v15, Name := v16.Rec.Name, Text := v16.Rec.Text } : TRec) } : TItem))).bind fun v17 => (F_laws_markText (w64 ((w64 ((w64 ((w64 ((w64 ((w64 ((w64 (s1.1 + 1)) + 1)) + 1)) + 1)) + 1)) + 1)) + 1))).bind fun v18 => (at? v17 s1.2.1).bind fun v19 => (some (set' v17 s1.2.1 ({ Seq := v19.Seq, Rec := ({ Kind := v19.Rec.Kind, Valid := v19.Rec.Valid, Uid := v19.Rec.Uid, Next := v19.Rec.Next, Flags := v19.Rec.Flags, User := v19.Rec.User, Name := v18, Text := v19.Rec.Text } : TRec) } : TItem))).bind fun v20 => (F_laws_markText (w64 ((w64 ((w64 ((w64 ((w64 ((w64 ((w64 ((w64 (s1.1 + 1)) + 1)) + 1)) + 1)) + 1)) + 1)) + 1)) + 1))).bind fun v21 => (at? v20 s1.2.1).bind fun v22 => (some (set' v20 s1.2.1 ({ Seq := v22.Seq, Rec := ({ Kind := v22.Rec.Kind, Valid := v22.Rec.Valid, Uid := v22.Rec.Uid, Next := v22.Rec.Next, Flags := v22.Rec.Flags, User := v22.Rec.User, Name := v22.Rec.Name, Text := v21 } : TRec) } : TItem))).bind fun v23 => some (.inl (w64 ((w64 ((w64 ((w64 ((w64 ((w64 ((w64 ((w64 ((w64 (s1.1 + 1)) + 1)) + 1)) + 1)) + 1)) + 1)) + 1)) + 1)) + 1), w64 (s1.2.1 + 1), v23)) else some (.inr (s1.1, s1.2.2)))
noncomputable def F_laws_markItemS_w (x0 : List TItem) (x1 : Int) : Option (Int × (List TItem)) :=
  (iter (S_laws_markItemS_w_1) (x1, 0, x0)).bind (fun y24 => some (y24.1, y24.2))
noncomputable def S_laws_markBoolS_w_1 (s1 : Int × Int × (List Bool)) : Option ((Int × Int × (List Bool)) ⊕ (Int × (List Bool))) :=
  (if decide (s1.2.1 < (s1.2.2.length : Int)) then (at? s1.2.2 s1.2.1).bind fun v3 => (some (set' s1.2.2 s1.2.1 ((Int.tmod s1.1 3) == 0))).bind fun v4 => some (.inl (w64 (s1.1 + 1), w64 (s1.2.1 + 1), v4)) else some (.inr (s1.1, s1.2.2)))
noncomputable def F_laws_markBoolS_w (x0 : List Bool) (x1 : Int) : Option (Int × (List Bool)) :=
  (iter (S_laws_markBoolS_w_1) (x1, 0, x0)).bind (fun y5 => some (y5.1, y5.2))
noncomputable def S_laws_heldItemS_1 (x0 : List TItem) (s1 : Int × Int) : Option ((Int × Int) ⊕ (Int ⊕ Int)) :=
  (if decide (s1.2 < (x0.length : Int)) then (at? x0 s1.2).bind fun v3 => (if (v3.Seq != s1.1) then some (.inr (.inl (-1))) else (at? x0 s1.2).bind fun v4 => (if (v4.Rec.Kind != (w64 (s1.1 + 1))) then some (.inr (.inl (-1))) else (at? x0 s1.2).bind fun v5 => (if (v5.Rec.Valid != (w64 ((w64 (s1.1 + 1)) + 1))) then some (.inr (.inl (-1))) else (at? x0 s1.2).bind fun v6 => (if (v6.Rec.Uid != (w64 ((w64 ((w64 (s1.1 + 1)) + 1)) + 1))) then some (.inr (.inl (-1))) else (at? x0 s1.2).bind fun v7 => (if (v7.Rec.Next != (w64 ((w64 ((w64 ((w64 (s1.1 + 1)) + 1)) + 1)) + 1))) then some (.inr (.inl (-1))) else (at? x0 s1.2).bind fun v8 => (if (v8.Rec.Flags != (w64 ((w64 ((w64 ((w64 ((w64 (s1.1 + 1)) + 1)) + 1)) + 1)) + 1))) then some (.inr (.inl (-1))) else (at? x0 s1.2).bind fun v9 => (F_laws_markText (w64 ((w64 ((w64 ((w64 ((w64 ((w64 (s1.1 + 1)) + 1)) + 1)) + 1)) + 1)) + 1))).bind fun v10 => (if (!(v9.Rec.User == v10)) then some (.inr (.inl (-1))) else (at? x0 s1.2).bind fun v11 => (F_laws_markText (w64 ((w64 ((w64 ((w64 ((w64 ((w64 ((w64 (s1.1 + 1)) + 1)) + 1)) + 1)) + 1)) + 1)) + 1))).bind fun v12 => (if (!(v11.Rec.Name == v12)) then some (.inr (.inl (-1))) else (at? x0 s1.2).bind fun v13 => (F_laws_markText (w64 ((w64 ((w64 ((w64 ((w64 ((w64 ((w64 ((w64 (s1.1 + 1)) + 1)) + 1)) + 1)) + 1)) + 1)) + 1)) + 1))).bind fun v14 => (if (!(v13.Rec.Text == v14)) then some (.inr (.inl (-1))) else some (.inl (w64 ((w64 ((w64 ((w64 ((w64 ((w64 ((w64 ((w64 ((w64 (s1.1 + 1)) + 1)) + 1)) + 1)) + 1)) + 1)) + 1)) + 1)) + 1), w64 (s1.2 + 1)))))))))))) else some (.inr (.inr s1.1)))
noncomputable def F_laws_heldItemS (x0 : List TItem) (x1 : Int) : Option Int :=
  (iter (S_laws_heldItemS_1 x0) (x1, 0)).bind (Sum.elim (fun r => some r) (fun y2 => some y2))
noncomputable def F_laws_FnExactWithout (x0 : List TItem) (x1 : List Bool) : Option Bool :=
  (if decide ((x1.length : Int) > 1048576) then some true else (F_laws_szItemS x0 1048576).bind fun v1 => (if decide (v1 < 0) then some true else (F_laws_toItemS x0).bind fun v2 => (F_laws_toBoolS x1).bind fun v3 => (F_spec_Without v2 v3).bind fun v4 => (F_laws_toItemS x0).bind fun v5 => (F_laws_toBoolS x1).bind fun v6 => (F_impl_Without v5 v6).bind fun v7 => (F_laws_eqItemS v7 v4).bind fun v8 => (if v8 then (F_laws_toItemS x0).bind fun v9 => (F_laws_eqItemS v5 v9).bind fun v10 => (if v10 then (F_laws_toBoolS x1).bind fun v11 => (F_laws_eqBoolS v6 v11).bind fun v12 => (if v12 then (guardO (fun r => v5.length = r.2.length) (F_laws_markItemS_w v5 1)).bind fun v13 => (guardO (fun r => v6.length = r.2.length) (F_laws_markBoolS_w v6 v13.1)).bind fun v14 => ((if decide (v14.1 < 0) then some true else (F_laws_eqItemS v7 v4).bind fun v16 => (if v16 then some false else some true)) : Option Bool).bind (fun y15 => (if y15 then some false else (guardO (fun r => v7.length = r.2.length) (F_laws_markItemS_w v7 1)).bind fun v17 => (F_laws_heldItemS v17.2 1).bind fun v18 => (if decide (v18 < 0) then some false else (if (v18 != v17.1) then some false else (F_laws_toItemS x0).bind fun v19 => (F_laws_toBoolS x1).bind fun v20 => (F_impl_Without v19 v20).bind fun v21 => (F_laws_eqItemS v21 v4).bind fun v22 => (if v22 then (F_laws_heldItemS v17.2 1).bind fun v23 => (if decide (v23 < 0) then some false else (if (v23 != v17.1) then some false else some true)) else some false))))) else some false) else some false) else some false)))
noncomputable def S_impl_SumMore_2 (s4 : Int × Int) : Option ((Int × Int) ⊕ Int) :=
  (if decide (s4.2 < 8) then (if ((andv .u32 s4.1 1) == 1) then some (.inl (xorv .u32 (shrv .u32 s4.1 1) 3558460437, w64 (s4.2 + 1))) else some (.inl (shrv .u32 s4.1 1, w64 (s4.2 + 1)))) else some (.inr s4.1))
noncomputable def S_impl_SumMore_1 (x1 : List UInt8) (s1 : Int × Int) : Option ((Int × Int) ⊕ Int) :=
  (if decide (s1.2 < (x1.length : Int)) then (bt? x1 s1.2).bind fun v3 => (iter (S_impl_SumMore_2) (xorv .u32 s1.1 (IntKind.u32.wrap (v3.toNat : Int)), 0)).bind (fun y6 => some (.inl (y6, w64 (s1.2 + 1)))) else some (.inr s1.1))
noncomputable def F_impl_SumMore (x0 : Int) (x1 : List UInt8) : Option Int :=
  (iter (S_impl_SumMore_1 x1) (x0, 0)).bind (fun y7 => some y7)
noncomputable def F_impl_SumOf (x0 : List UInt8) : Option Int :=
  (F_impl_SumMore 4294967295 x0).bind fun v1 => some v1
noncomputable def F_impl_seal (x0 : List UInt8) : Option (List UInt8) :=
  (F_impl_SumOf x0).bind fun v1 => some ([IntKind.u8.wrap (shrv .u32 v1 24), IntKind.u8.wrap (shrv .u32 v1 16), IntKind.u8.wrap (shrv .u32 v1 8), IntKind.u8.wrap v1].map ofI)
noncomputable def F_impl_Sealed (x0 : List UInt8) : Option ((List UInt8) × Bool) :=
  (if decide ((x0.length : Int) > 20000) then some ([], false) else (F_impl_seal x0).bind fun v1 => (cat? x0 v1).bind fun v2 => some (v2, true))
noncomputable def F_impl_in (x0 : Int) (x1 : Int) (x2 : Int) : Option Bool :=
  (if decide (x0 ≥ x1) then some (decide (x0 ≤ x2)) else some false)
noncomputable def S_impl_WordOk_1 (x0 : List UInt8) (s2 : Int) : Option (Int ⊕ (Bool ⊕ Unit)) :=
  (if decide (s2 < (x0.length : Int)) then ((bt? x0 s2).bind fun v5 => (if decide ((v5.toNat : Int) < 97) then some true else (bt? x0 s2).bind fun v6 => (if decide ((v6.toNat : Int) > 122) then some true else some false)) : Option Bool).bind (fun y4 => (if y4 then some (.inr (.inl false)) else some (.inl (w64 (s2 + 1))))) else some (.inr (.inr ())))
noncomputable def F_impl_WordOk (x0 : List UInt8) : Option Bool :=
  (F_impl_in (x0.length : Int) 1 8).bind fun v1 => (if v1 then (iter (S_impl_WordOk_1 x0) 0).bind (Sum.elim (fun r => some r) (fun y3 => some true)) else some false)
noncomputable def S_impl_varText_1 (s1 : Int × (List Int)) : Option ((Int × (List Int)) ⊕ (Int × (List Int))) :=
  (if decide (s1.1 > 127) then (app? 1 s1.2 [IntKind.u8.wrap (orv .i64 (andv .i64 s1.1 127) 128)]).bind fun v3 => some (.inl (shrv .i64 s1.1 7, v3)) else some (.inr (s1.1, s1.2)))
noncomputable def F_impl_varText (x0 : Int) : Option (List UInt8) :=
  (iter (S_impl_varText_1) (x0, ([] : List Int))).bind (fun y4 => (app? 1 y4.2 [IntKind.u8.wrap y4.1]).bind fun v5 => some (v5.map ofI))
noncomputable def F_spec_l02Four (x0 : Int) : Option (List UInt8) :=
  some ([IntKind.u8.wrap (shrv .u32 x0 24), IntKind.u8.wrap (shrv .u32 x0 16), IntKind.u8.wrap (shrv .u32 x0 8), IntKind.u8.wrap x0].map ofI)
noncomputable def S_spec_SumMore_2 (s4 : Int × Int) : Option ((Int × Int) ⊕ Int) :=
  (if decide (s4.2 < 8) then (if ((Int.tmod s4.1 2) == 1) then some (.inl (xorv .u32 (IntKind.u32.wrap (Int.tdiv s4.1 2)) 3558460437, w64 (s4.2 + 1))) else some (.inl (IntKind.u32.wrap (Int.tdiv s4.1 2), w64 (s4.2 + 1)))) else some (.inr s4.1))
noncomputable def S_spec_SumMore_1 (x1 : List UInt8) (s1 : Int × Int) : Option ((Int × Int) ⊕ Int) :=
  (if decide (s1.2 < (x1.length : Int)) then (bt? x1 s1.2).bind fun v3 => (iter (S_spec_SumMore_2) (xorv .u32 s1.1 (IntKind.u32.wrap (v3.toNat : Int)), 0)).bind (fun y6 => some (.inl (y6, w64 (s1.2 + 1)))) else some (.inr s1.1))
noncomputable def F_spec_SumMore (x0 : Int) (x1 : List UInt8) : Option Int :=
  (iter (S_spec_SumMore_1 x1) (x0, 0)).bind (fun y7 => some y7)
noncomputable def F_spec_SumOf (x0 : List UInt8) : Option Int :=
  (F_spec_SumMore 4294967295 x0).bind fun v1 => some v1
noncomputable def F_spec_Sealed (x0 : List UInt8) : Option ((List UInt8) × Bool) :=
  (if decide ((x0.length : Int) > 20000) then some ([], false) else (F_spec_SumOf x0).bind fun v1 => (F_spec_l02Four v1).bind fun v2 => (cat? x0 v2).bind fun v3 => some (v3, true))
noncomputable def F_spec_l01In (x0 : Int) (x1 : Int) (x2 : Int) : Option Bool :=
  (if decide (x0 ≥ x1) then some (decide (x0 ≤ x2)) else some false)
noncomputable def S_spec_WordOk_1 (x0 : List UInt8) (s1 : Int) : Option (Int ⊕ (Bool ⊕ Unit)) :=
  (if decide (s1 < (x0.length : Int)) then ((bt? x0 s1).bind fun v4 => (if decide ((v4.toNat : Int) < 97) then some true else (bt? x0 s1).bind fun v5 => (if decide ((v5.toNat : Int) > 122) then some true else some false)) : Option Bool).bind (fun y3 => (if y3 then some (.inr (.inl false)) else some (.inl (w64 (s1 + 1))))) else some (.inr (.inr ())))
noncomputable def F_spec_WordOk (x0 : List UInt8) : Option Bool :=
  (iter (S_spec_WordOk_1 x0) 0).bind (Sum.elim (fun r => some r) (fun y2 => (F_spec_l01In (x0.length : Int) 1 8).bind fun v7 => some v7))
noncomputable def S_spec_l01Var_1 (s1 : Int × (List Int)) : Option ((Int × (List Int)) ⊕ (Int × (List Int))) :=
  (if decide (s1.1 > 127) then (app? 1 s1.2 [IntKind.u8.wrap (w64 ((Int.tmod s1.1 128) + 128))]).bind fun v3 => some (.inl (w64 (Int.tdiv s1.1 128), v3)) else some (.inr (s1.1, s1.2)))
noncomputable def F_spec_l01Var (x0 : Int) : Option (List UInt8) :=
  (iter (S_spec_l01Var_1) (x0, ([] : List Int))).bind (fun y4 => (app? 1 y4.2 [IntKind.u8.wrap y4.1]).bind fun v5 => some (v5.map ofI))
end Go.Proofs.Ytpecafogemipmaa.V
