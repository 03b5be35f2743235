/- Records, and what the functions compute. -/
import Derived.Test.YtgdcbjoaoagbpaaXE
/- Records, and how they lie in cells. -/
namespace Go.Proofs.Ytgdcbjoaoagbpaa.V
open Go Go.Proofs Go.RowKit
set_option maxRecDepth 100000
structure TWrite where
  At : Int
  Text : List UInt8
def enc_TWrite (_ : Bool) (x : TWrite) : List AV := [.int .i64 x.At, .str x.Text]
theorem sc_TWrite (o : Bool) (x : TWrite) : ∀ v ∈ enc_TWrite o x, Scl v := (fac .int (fac .str fan))
theorem fk_TWrite : FlatOk enc_TWrite 2 := ⟨⟨fun _ _ => rfl, by omega, fun _ _ => (fac .int (fac .str fan)), fun _ => (fac .int (fac .str fan)), fun _ => (.cons .refl (.cons .refl .nil))⟩, fun _ => rfl, fun _ _ => (fac rfl (fac rfl fan)), fun _ _ => (fac rfl (fac rfl fan))⟩
theorem ek_TWrite : EncOk enc_TWrite 2 := fk_TWrite.toEncOk
structure TDisk where
  Sectors : List (List UInt8)
  Cache : List TWrite
def enc_TDisk (o : Bool) (x : TDisk) : List AV := [.lst o 1 (fl (encS o) x.Sectors) x.Sectors.length, .lst o 2 (fl (enc_TWrite o) x.Cache) x.Cache.length]
theorem ek_TDisk : EncOk enc_TDisk 2 := ⟨fun _ _ => rfl, by omega, fun _ _ => (fac (.lst (ekS.fdat _ _)) (fac (.lst (ek_TWrite.fdat _ _)) fan)), fun _ => (fac (.lst (ekS.fown _)) (fac (.lst (ek_TWrite.fown _)) fan)), fun _ => (.cons (ekS.fflag _).lst (.cons (ek_TWrite.fflag _).lst .nil))⟩
structure TRec where
  Kind : Int
  Valid : Int
  Uid : Int
  Next : Int
  Flags : Int
  User : List UInt8
  Name : List UInt8
  Text : List UInt8
def enc_TRec (_ : Bool) (x : TRec) : List AV := [.int .i64 x.Kind, .int .i64 x.Valid, .int .i64 x.Uid, .int .i64 x.Next, .int .i64 x.Flags, .str x.User, .str x.Name, .str x.Text]
theorem sc_TRec (o : Bool) (x : TRec) : ∀ v ∈ enc_TRec o x, Scl v := (fac .int (fac .int (fac .int (fac .int (fac .int (fac .str (fac .str (fac .str fan))))))))
theorem fk_TRec : FlatOk enc_TRec 8 := ⟨⟨fun _ _ => rfl, by omega, fun _ _ => (fac .int (fac .int (fac .int (fac .int (fac .int (fac .str (fac .str (fac .str fan)))))))), fun _ => (fac .int (fac .int (fac .int (fac .int (fac .int (fac .str (fac .str (fac .str fan)))))))), fun _ => (.cons .refl (.cons .refl (.cons .refl (.cons .refl (.cons .refl (.cons .refl (.cons .refl (.cons .refl .nil))))))))⟩, fun _ => rfl, fun _ _ => (fac rfl (fac rfl (fac rfl (fac rfl (fac rfl (fac rfl (fac rfl (fac rfl fan)))))))), fun _ _ => (fac rfl (fac rfl (fac rfl (fac rfl (fac rfl (fac rfl (fac rfl (fac rfl fan))))))))⟩
theorem ek_TRec : EncOk enc_TRec 8 := fk_TRec.toEncOk
structure TItem where
  Seq : Int
  Rec : TRec
def enc_TItem (_ : Bool) (x : TItem) : List AV := [.int .i64 x.Seq, .int .i64 x.Rec.Kind, .int .i64 x.Rec.Valid, .int .i64 x.Rec.Uid, .int .i64 x.Rec.Next, .int .i64 x.Rec.Flags, .str x.Rec.User, .str x.Rec.Name, .str x.Rec.Text]
theorem sc_TItem (o : Bool) (x : TItem) : ∀ v ∈ enc_TItem o x, Scl v := (fac .int (fac .int (fac .int (fac .int (fac .int (fac .int (fac .str (fac .str (fac .str fan)))))))))
theorem fk_TItem : FlatOk enc_TItem 9 := ⟨⟨fun _ _ => rfl, by omega, fun _ _ => (fac .int (fac .int (fac .int (fac .int (fac .int (fac .int (fac .str (fac .str (fac .str fan))))))))), fun _ => (fac .int (fac .int (fac .int (fac .int (fac .int (fac .int (fac .str (fac .str (fac .str fan))))))))), fun _ => (.cons .refl (.cons .refl (.cons .refl (.cons .refl (.cons .refl (.cons .refl (.cons .refl (.cons .refl (.cons .refl .nil)))))))))⟩, fun _ => rfl, fun _ _ => (fac rfl (fac rfl (fac rfl (fac rfl (fac rfl (fac rfl (fac rfl (fac rfl (fac rfl fan))))))))), fun _ _ => (fac rfl (fac rfl (fac rfl (fac rfl (fac rfl (fac rfl (fac rfl (fac rfl (fac rfl fan)))))))))⟩
theorem ek_TItem : EncOk enc_TItem 9 := fk_TItem.toEncOk
structure TSeg where
  No : Int
  Gen : Int
  End : Int
  Items : List TItem
def enc_TSeg (o : Bool) (x : TSeg) : List AV := [.int .i64 x.No, .int .i64 x.Gen, .int .i64 x.End, .lst o 9 (fl (enc_TItem o) x.Items) x.Items.length]
theorem ek_TSeg : EncOk enc_TSeg 4 := ⟨fun _ _ => rfl, by omega, fun _ _ => (fac .int (fac .int (fac .int (fac (.lst (ek_TItem.fdat _ _)) fan)))), fun _ => (fac .int (fac .int (fac .int (fac (.lst (ek_TItem.fown _)) fan)))), fun _ => (.cons .refl (.cons .refl (.cons .refl (.cons (ek_TItem.fflag _).lst .nil))))⟩
structure TLog where
  Disk : TDisk
  Segs : Int
  Used : List TSeg
  NextGen : Int
  NextSeq : Int
  Stamp : Int
  NextValid : Int
def enc_TLog (o : Bool) (x : TLog) : List AV := [.lst o 1 (fl (encS o) x.Disk.Sectors) x.Disk.Sectors.length, .lst o 2 (fl (enc_TWrite o) x.Disk.Cache) x.Disk.Cache.length, .int .i64 x.Segs, .lst o 4 (fl (enc_TSeg o) x.Used) x.Used.length, .int .i64 x.NextGen, .int .i64 x.NextSeq, .int .i64 x.Stamp, .int .i64 x.NextValid]
theorem ek_TLog : EncOk enc_TLog 8 := ⟨fun _ _ => rfl, by omega, fun _ _ => (fac (.lst (ekS.fdat _ _)) (fac (.lst (ek_TWrite.fdat _ _)) (fac .int (fac (.lst (ek_TSeg.fdat _ _)) (fac .int (fac .int (fac .int (fac .int fan)))))))), fun _ => (fac (.lst (ekS.fown _)) (fac (.lst (ek_TWrite.fown _)) (fac .int (fac (.lst (ek_TSeg.fown _)) (fac .int (fac .int (fac .int (fac .int fan)))))))), fun _ => (.cons (ekS.fflag _).lst (.cons (ek_TWrite.fflag _).lst (.cons .refl (.cons (ek_TSeg.fflag _).lst (.cons .refl (.cons .refl (.cons .refl (.cons .refl .nil))))))))⟩
structure TRef where
  No : Int
  Gen : Int
def enc_TRef (_ : Bool) (x : TRef) : List AV := [.int .i64 x.No, .int .i64 x.Gen]
theorem sc_TRef (o : Bool) (x : TRef) : ∀ v ∈ enc_TRef o x, Scl v := (fac .int (fac .int fan))
theorem fk_TRef : FlatOk enc_TRef 2 := ⟨⟨fun _ _ => rfl, by omega, fun _ _ => (fac .int (fac .int fan)), fun _ => (fac .int (fac .int fan)), fun _ => (.cons .refl (.cons .refl .nil))⟩, fun _ => rfl, fun _ _ => (fac rfl (fac rfl fan)), fun _ _ => (fac rfl (fac rfl fan))⟩
theorem ek_TRef : EncOk enc_TRef 2 := fk_TRef.toEncOk
structure TCheck where
  Stamp : Int
  NextGen : Int
  NextSeq : Int
  NextValid : Int
  Refs : List TRef
def enc_TCheck (o : Bool) (x : TCheck) : List AV := [.int .i64 x.Stamp, .int .i64 x.NextGen, .int .i64 x.NextSeq, .int .i64 x.NextValid, .lst o 2 (fl (enc_TRef o) x.Refs) x.Refs.length]
theorem ek_TCheck : EncOk enc_TCheck 5 := ⟨fun _ _ => rfl, by omega, fun _ _ => (fac .int (fac .int (fac .int (fac .int (fac (.lst (ek_TRef.fdat _ _)) fan))))), fun _ => (fac .int (fac .int (fac .int (fac .int (fac (.lst (ek_TRef.fown _)) fan))))), fun _ => (.cons .refl (.cons .refl (.cons .refl (.cons .refl (.cons (ek_TRef.fflag _).lst .nil)))))⟩
structure TL06Cur where
  mText : List UInt8
  mAt : Int
  mBad : Bool
def enc_TL06Cur (_ : Bool) (x : TL06Cur) : List AV := [.str x.mText, .int .i64 x.mAt, .bool x.mBad]
theorem sc_TL06Cur (o : Bool) (x : TL06Cur) : ∀ v ∈ enc_TL06Cur o x, Scl v := (fac .str (fac .int (fac .bool fan)))
theorem fk_TL06Cur : FlatOk enc_TL06Cur 3 := ⟨⟨fun _ _ => rfl, by omega, fun _ _ => (fac .str (fac .int (fac .bool fan))), fun _ => (fac .str (fac .int (fac .bool fan))), fun _ => (.cons .refl (.cons .refl (.cons .refl .nil)))⟩, fun _ => rfl, fun _ _ => (fac rfl (fac rfl (fac rfl fan))), fun _ _ => (fac rfl (fac rfl (fac rfl fan)))⟩
theorem ek_TL06Cur : EncOk enc_TL06Cur 3 := fk_TL06Cur.toEncOk
structure TFrame where
  Gen : Int
  Seq : Int
  Body : List UInt8
def enc_TFrame (_ : Bool) (x : TFrame) : List AV := [.int .i64 x.Gen, .int .i64 x.Seq, .str x.Body]
theorem sc_TFrame (o : Bool) (x : TFrame) : ∀ v ∈ enc_TFrame o x, Scl v := (fac .int (fac .int (fac .str fan)))
theorem fk_TFrame : FlatOk enc_TFrame 3 := ⟨⟨fun _ _ => rfl, by omega, fun _ _ => (fac .int (fac .int (fac .str fan))), fun _ => (fac .int (fac .int (fac .str fan))), fun _ => (.cons .refl (.cons .refl (.cons .refl .nil)))⟩, fun _ => rfl, fun _ _ => (fac rfl (fac rfl (fac rfl fan))), fun _ _ => (fac rfl (fac rfl (fac rfl fan)))⟩
theorem ek_TFrame : EncOk enc_TFrame 3 := fk_TFrame.toEncOk
structure TStore where
  Log : TLog
  Freed : List Int
def enc_TStore (o : Bool) (x : TStore) : List AV := [.lst o 1 (fl (encS o) x.Log.Disk.Sectors) x.Log.Disk.Sectors.length, .lst o 2 (fl (enc_TWrite o) x.Log.Disk.Cache) x.Log.Disk.Cache.length, .int .i64 x.Log.Segs, .lst o 4 (fl (enc_TSeg o) x.Log.Used) x.Log.Used.length, .int .i64 x.Log.NextGen, .int .i64 x.Log.NextSeq, .int .i64 x.Log.Stamp, .int .i64 x.Log.NextValid, .lst o 1 (fl (encI o) x.Freed) x.Freed.length]
theorem ek_TStore : EncOk enc_TStore 9 := ⟨fun _ _ => rfl, by omega, fun _ _ => (fac (.lst (ekS.fdat _ _)) (fac (.lst (ek_TWrite.fdat _ _)) (fac .int (fac (.lst (ek_TSeg.fdat _ _)) (fac .int (fac .int (fac .int (fac .int (fac (.lst (ekI.fdat _ _)) fan))))))))), fun _ => (fac (.lst (ekS.fown _)) (fac (.lst (ek_TWrite.fown _)) (fac .int (fac (.lst (ek_TSeg.fown _)) (fac .int (fac .int (fac .int (fac .int (fac (.lst (ekI.fown _)) fan))))))))), fun _ => (.cons (ekS.fflag _).lst (.cons (ek_TWrite.fflag _).lst (.cons .refl (.cons (ek_TSeg.fflag _).lst (.cons .refl (.cons .refl (.cons .refl (.cons .refl (.cons (ekI.fflag _).lst .nil)))))))))⟩
def wf_TWrite (x : TWrite) : Prop := ((Lit.int .i64 x.At).wf = true) ∧ (x.Text.length ≤ maxLen) ∧ True
def wf_TDisk (x : TDisk) : Prop := (x.Sectors.length ≤ maxLen ∧ ∀ a ∈ x.Sectors, a.length ≤ maxLen) ∧ (x.Cache.length ≤ maxLen ∧ ∀ a ∈ x.Cache, wf_TWrite a) ∧ True
def wf_TRec (x : TRec) : Prop := ((Lit.int .i64 x.Kind).wf = true) ∧ ((Lit.int .i64 x.Valid).wf = true) ∧ ((Lit.int .i64 x.Uid).wf = true) ∧ ((Lit.int .i64 x.Next).wf = true) ∧ ((Lit.int .i64 x.Flags).wf = true) ∧ (x.User.length ≤ maxLen) ∧ (x.Name.length ≤ maxLen) ∧ (x.Text.length ≤ maxLen) ∧ True
def wf_TItem (x : TItem) : Prop := ((Lit.int .i64 x.Seq).wf = true) ∧ (wf_TRec x.Rec) ∧ True
def wf_TSeg (x : TSeg) : Prop := ((Lit.int .i64 x.No).wf = true) ∧ ((Lit.int .i64 x.Gen).wf = true) ∧ ((Lit.int .i64 x.End).wf = true) ∧ (x.Items.length ≤ maxLen ∧ ∀ a ∈ x.Items, wf_TItem a) ∧ True
def wf_TLog (x : TLog) : Prop := (wf_TDisk x.Disk) ∧ ((Lit.int .i64 x.Segs).wf = true) ∧ (x.Used.length ≤ maxLen ∧ ∀ a ∈ x.Used, wf_TSeg a) ∧ ((Lit.int .i64 x.NextGen).wf = true) ∧ ((Lit.int .i64 x.NextSeq).wf = true) ∧ ((Lit.int .i64 x.Stamp).wf = true) ∧ ((Lit.int .i64 x.NextValid).wf = true) ∧ True
def wf_TRef (x : TRef) : Prop := ((Lit.int .i64 x.No).wf = true) ∧ ((Lit.int .i64 x.Gen).wf = true) ∧ True
def wf_TCheck (x : TCheck) : Prop := ((Lit.int .i64 x.Stamp).wf = true) ∧ ((Lit.int .i64 x.NextGen).wf = true) ∧ ((Lit.int .i64 x.NextSeq).wf = true) ∧ ((Lit.int .i64 x.NextValid).wf = true) ∧ (x.Refs.length ≤ maxLen ∧ ∀ a ∈ x.Refs, wf_TRef a) ∧ True
def wf_TL06Cur (x : TL06Cur) : Prop := (x.mText.length ≤ maxLen) ∧ ((Lit.int .i64 x.mAt).wf = true) ∧ (True) ∧ True
def wf_TFrame (x : TFrame) : Prop := ((Lit.int .i64 x.Gen).wf = true) ∧ ((Lit.int .i64 x.Seq).wf = true) ∧ (x.Body.length ≤ maxLen) ∧ True
def wf_TStore (x : TStore) : Prop := (wf_TLog x.Log) ∧ (x.Freed.length ≤ maxLen ∧ ∀ a ∈ x.Freed, (Lit.int .i64 a).wf = true) ∧ True
end Go.Proofs.Ytgdcbjoaoagbpaa.V
/- What the functions compute. -/
namespace Go.Proofs.Ytgdcbjoaoagbpaa.V
open Go Go.Proofs Go.RowKit
set_option maxRecDepth 100000
noncomputable def S_laws_szStringS_1 (x0 : List (List UInt8)) (s1 : Int × Int) : Option ((Int × Int) ⊕ (Int ⊕ Int)) :=
  (if decide (s1.2 < (x0.length : Int)) then (at? x0 s1.2).bind fun v3 => (if decide ((w64 (s1.1 - (v3.length : Int))) < 0) then some (.inr (.inl (-1))) else some (.inl (w64 (s1.1 - (v3.length : Int)), w64 (s1.2 + 1)))) else some (.inr (.inr s1.1)))
noncomputable def F_laws_szStringS (x0 : List (List UInt8)) (x1 : Int) : Option Int :=
  (if decide ((w64 (x1 - (x0.length : Int))) < 0) then some (-1) else (iter (S_laws_szStringS_1 x0) (w64 (x1 - (x0.length : Int)), 0)).bind (Sum.elim (fun r => some r) (fun y2 => some y2)))
noncomputable def F_laws_szWrite (x0 : TWrite) (x1 : Int) : Option Int :=
  (if decide ((w64 (x1 - (x0.Text.length : Int))) < 0) then some (-1) else some (w64 (x1 - (x0.Text.length : Int))))
noncomputable def S_laws_szWriteS_1 (x0 : List TWrite) (s1 : Int × Int) : Option ((Int × Int) ⊕ (Int ⊕ Int)) :=
  (if decide (s1.2 < (x0.length : Int)) then (at? x0 s1.2).bind fun v3 => (F_laws_szWrite v3 s1.1).bind fun v4 => (if decide (v4 < 0) then some (.inr (.inl (-1))) else some (.inl (v4, w64 (s1.2 + 1)))) else some (.inr (.inr s1.1)))
noncomputable def F_laws_szWriteS (x0 : List TWrite) (x1 : Int) : Option Int :=
  (if decide ((w64 (x1 - (x0.length : Int))) < 0) then some (-1) else (iter (S_laws_szWriteS_1 x0) (w64 (x1 - (x0.length : Int)), 0)).bind (Sum.elim (fun r => some r) (fun y2 => some y2)))
noncomputable def F_laws_szDisk (x0 : TDisk) (x1 : Int) : Option Int :=
  (F_laws_szStringS x0.Sectors x1).bind fun v1 => (if decide (v1 < 0) then some (-1) else (F_laws_szWriteS x0.Cache v1).bind fun v2 => (if decide (v2 < 0) then some (-1) else some v2))
noncomputable def S_laws_toStringS_1 (x0 : List (List UInt8)) (s2 : Int × (List (List UInt8))) : Option ((Int × (List (List UInt8))) ⊕ (List (List UInt8))) :=
  (if decide (s2.1 < (x0.length : Int)) then (at? x0 s2.1).bind fun v4 => (at? s2.2 s2.1).bind fun v5 => (some (set' s2.2 s2.1 v4)).bind fun v6 => some (.inl (w64 (s2.1 + 1), v6)) else some (.inr s2.2))
noncomputable def F_laws_toStringS (x0 : List (List UInt8)) : Option (List (List UInt8)) :=
  (mk? 16 ([] : List UInt8) (x0.length : Int)).bind fun v1 => (iter (S_laws_toStringS_1 x0) (0, v1)).bind (fun y7 => some y7)
noncomputable def F_laws_toWrite (x0 : TWrite) : Option TWrite :=
  some x0
noncomputable def S_laws_toWriteS_1 (x0 : List TWrite) (s2 : Int × (List TWrite)) : Option ((Int × (List TWrite)) ⊕ (List TWrite)) :=
  (if decide (s2.1 < (x0.length : Int)) then (at? x0 s2.1).bind fun v4 => (F_laws_toWrite v4).bind fun v5 => (at? s2.2 s2.1).bind fun v6 => (some (set' s2.2 s2.1 v5)).bind fun v7 => some (.inl (w64 (s2.1 + 1), v7)) else some (.inr s2.2))
noncomputable def F_laws_toWriteS (x0 : List TWrite) : Option (List TWrite) :=
  (mk? 24 (({ At := 0, Text := [] } : TWrite) : TWrite) (x0.length : Int)).bind fun v1 => (iter (S_laws_toWriteS_1 x0) (0, v1)).bind (fun y8 => some y8)
noncomputable def F_laws_toDisk (x0 : TDisk) : Option TDisk :=
  (F_laws_toStringS x0.Sectors).bind fun v1 => (F_laws_toWriteS x0.Cache).bind fun v2 => some ({ Sectors := v1, Cache := v2 } : TDisk)
noncomputable def S_laws_eqStringS_1 (x0 : List (List UInt8)) (x1 : List (List UInt8)) (s1 : Int) : Option (Int ⊕ (Bool ⊕ Unit)) :=
  (if decide (s1 < (x0.length : Int)) then (at? x0 s1).bind fun v3 => (at? x1 s1).bind fun v4 => (if (!(v3 == v4)) then some (.inr (.inl false)) else some (.inl (w64 (s1 + 1)))) else some (.inr (.inr ())))
noncomputable def F_laws_eqStringS (x0 : List (List UInt8)) (x1 : List (List UInt8)) : Option Bool :=
  (if ((x0.length : Int) != (x1.length : Int)) then some false else (iter (S_laws_eqStringS_1 x0 x1) 0).bind (Sum.elim (fun r => some r) (fun y2 => some true)))
noncomputable def F_laws_eqWrite (x0 : TWrite) (x1 : TWrite) : Option Bool :=
  (if (x0.At != x1.At) then some false else (if (!(x0.Text == x1.Text)) then some false else some true))
noncomputable def S_laws_eqWriteS_1 (x0 : List TWrite) (x1 : List TWrite) (s1 : Int) : Option (Int ⊕ (Bool ⊕ Unit)) :=
  (if decide (s1 < (x0.length : Int)) then (at? x0 s1).bind fun v3 => (at? x1 s1).bind fun v4 => (F_laws_eqWrite v3 v4).bind fun v5 => (if v5 then some (.inl (w64 (s1 + 1))) else some (.inr (.inl false))) else some (.inr (.inr ())))
noncomputable def F_laws_eqWriteS (x0 : List TWrite) (x1 : List TWrite) : Option Bool :=
  (if ((x0.length : Int) != (x1.length : Int)) then some false else (iter (S_laws_eqWriteS_1 x0 x1) 0).bind (Sum.elim (fun r => some r) (fun y2 => some true)))
noncomputable def F_laws_eqDisk (x0 : TDisk) (x1 : TDisk) : Option Bool :=
  (F_laws_eqStringS x0.Sectors x1.Sectors).bind fun v1 => (if v1 then (F_laws_eqWriteS x0.Cache x1.Cache).bind fun v2 => (if v2 then some true else some false) else some false)
noncomputable def S_laws_markText_1 (s1 : Int × (List UInt8)) : Option ((Int × (List UInt8)) ⊕ (List UInt8)) :=
  (if decide (s1.1 > 0) then (cat? ([IntKind.u8.wrap (w64 (48 + (Int.tmod s1.1 10)))].map ofI) s1.2).bind fun v3 => some (.inl (w64 (Int.tdiv s1.1 10), v3)) else some (.inr s1.2))
noncomputable def F_laws_markText (x0 : Int) : Option (List UInt8) :=
  (if decide (x0 ≤ 0) then some [109, 48] else (iter (S_laws_markText_1) (x0, [])).bind (fun y4 => (cat? [109] y4).bind fun v5 => some v5))
noncomputable def S_laws_markStringS_w_1 (s1 : Int × Int × (List (List UInt8))) : Option ((Int × Int × (List (List UInt8))) ⊕ (Int × (List (List UInt8)))) :=
  (if decide (s1.2.1 < (s1.2.2.length : Int)) then (F_laws_markText s1.1).bind fun v3 => (at? s1.2.2 s1.2.1).bind fun v4 => (some (set' s1.2.2 s1.2.1 v3)).bind fun v5 => some (.inl (w64 (s1.1 + 1), w64 (s1.2.1 + 1), v5)) else some (.inr (s1.1, s1.2.2)))
noncomputable def F_laws_markStringS_w (x0 : List (List UInt8)) (x1 : Int) : Option (Int × (List (List UInt8))) :=
  (iter (S_laws_markStringS_w_1) (x1, 0, x0)).bind (fun y6 => some (y6.1, y6.2))
noncomputable def S_laws_markWriteS_w_1 (s1 : Int × Int × (List TWrite)) : Option ((Int × Int × (List TWrite)) ⊕ (Int × (List TWrite))) :=
  (if decide (s1.2.1 < (s1.2.2.length : Int)) then (at? s1.2.2 s1.2.1).bind fun v3 => (some (set' s1.2.2 s1.2.1 ({ At := s1.1, Text := v3.Text } : TWrite))).bind fun v4 => (F_laws_markText (w64 (s1.1 + 1))).bind fun v5 => (at? v4 s1.2.1).bind fun v6 => (some (set' v4 s1.2.1 ({ At := v6.At, Text := v5 } : TWrite))).bind fun v7 => some (.inl (w64 ((w64 (s1.1 + 1)) + 1), w64 (s1.2.1 + 1), v7)) else some (.inr (s1.1, s1.2.2)))
noncomputable def F_laws_markWriteS_w (x0 : List TWrite) (x1 : Int) : Option (Int × (List TWrite)) :=
  (iter (S_laws_markWriteS_w_1) (x1, 0, x0)).bind (fun y8 => some (y8.1, y8.2))
noncomputable def F_laws_markDisk_w (x0 : List (List UInt8)) (x1 : List TWrite) (x2 : Int) : Option (Int × (List (List UInt8)) × (List TWrite)) :=
  (guardO (fun r => x0.length = r.2.length) (F_laws_markStringS_w x0 x2)).bind fun v1 => (guardO (fun r => x1.length = r.2.length) (F_laws_markWriteS_w x1 v1.1)).bind fun v2 => some (v2.1, v1.2, v2.2)
noncomputable def F_spec_l01In (x0 : Int) (x1 : Int) (x2 : Int) : Option Bool :=
  (if decide (x0 ≥ x1) then some (decide (x0 ≤ x2)) else some false)
noncomputable def F_spec_SegFirst (x0 : Int) : Option Int :=
  (F_spec_l01In x0 0 10).bind fun v1 => (if v1 then some (w64 (8 + (w64 (x0 * 8)))) else some 0)
noncomputable def S_spec_ReadSector_1 (x0 : TDisk) (x1 : Int) (s2 : Int) : Option (Int ⊕ (((List UInt8) × Bool) ⊕ Unit)) :=
  (if decide (s2 ≥ 0) then (at? x0.Cache s2).bind fun v4 => (if (v4.At == x1) then (at? x0.Cache s2).bind fun v5 => some (.inr (.inl (v5.Text, true))) else some (.inl (w64 (s2 - 1)))) else some (.inr (.inr ())))
noncomputable def F_spec_ReadSector (x0 : TDisk) (x1 : Int) : Option ((List UInt8) × Bool) :=
  (F_spec_l01In x1 0 (w64 ((x0.Sectors.length : Int) - 1))).bind fun v1 => (if v1 then (iter (S_spec_ReadSector_1 x0 x1) (w64 ((x0.Cache.length : Int) - 1))).bind (Sum.elim (fun r => some r) (fun y3 => (at? x0.Sectors x1).bind fun v7 => some (v7, true))) else some ([], false))
noncomputable def S_spec_SectorText_1 (x0 : TDisk) (x1 : Int) (x2 : Int) (s2 : (List UInt8) × Int) : Option (((List UInt8) × Int) ⊕ (((List UInt8) × Bool) ⊕ (List UInt8))) :=
  (if decide (s2.2 < x2) then ((if decide (x1 < 0) then some true else (if decide (x1 > (x0.Sectors.length : Int)) then some true else some false)) : Option Bool).bind (fun y4 => (if y4 then some (.inr (.inl ([], false))) else (F_spec_ReadSector x0 (w64 (x1 + s2.2))).bind fun v5 => (if !v5.2 then some (.inr (.inl ([], false))) else (cat? s2.1 v5.1).bind fun v6 => some (.inl (v6, w64 (s2.2 + 1)))))) else some (.inr (.inr s2.1)))
noncomputable def F_spec_SectorText (x0 : TDisk) (x1 : Int) (x2 : Int) : Option ((List UInt8) × Bool) :=
  (F_spec_l01In x2 0 100).bind fun v1 => (if v1 then (iter (S_spec_SectorText_1 x0 x1 x2) ([], 0)).bind (Sum.elim (fun r => some r) (fun y3 => some (y3, true))) else some ([], false))
noncomputable def F_spec_SegText (x0 : TDisk) (x1 : Int) : Option (List UInt8) :=
  (F_spec_l01In x1 0 10).bind fun v1 => (if v1 then (F_spec_SegFirst x1).bind fun v2 => (F_spec_SectorText x0 v2 8).bind fun v3 => some v3.1 else some [])
noncomputable def S_spec_l01Var_1 (s1 : Int × (List Int)) : Option ((Int × (List Int)) ⊕ (Int × (List Int))) :=
  (if decide (s1.1 > 127) then (app? 1 s1.2 [IntKind.u8.wrap (w64 ((Int.tmod s1.1 128) + 128))]).bind fun v3 => some (.inl (w64 (Int.tdiv s1.1 128), v3)) else some (.inr (s1.1, s1.2)))
noncomputable def F_spec_l01Var (x0 : Int) : Option (List UInt8) :=
  (iter (S_spec_l01Var_1) (x0, ([] : List Int))).bind (fun y4 => (app? 1 y4.2 [IntKind.u8.wrap y4.1]).bind fun v5 => some (v5.map ofI))
noncomputable def S_spec_ReadVar_1 (x0 : List UInt8) (x1 : Int) (s2 : Int × Int × Int) : Option ((Int × Int × Int) ⊕ ((Int × Int × Bool) ⊕ Unit)) :=
  ((if decide (s2.2.2 < (x0.length : Int)) then (if decide (s2.2.2 < (w64 (x1 + 5))) then some true else some false) else some false) : Option Bool).bind (fun y4 => (if y4 then (bt? x0 s2.2.2).bind fun v5 => (bt? x0 s2.2.2).bind fun v6 => (if decide ((v6.toNat : Int) < 128) then ((if decide ((w64 (s2.1 + (w64 ((Int.tmod (w64 (v5.toNat : Int)) 128) * s2.2.1)))) > 1000000000) then some true else (F_spec_l01Var (w64 (s2.1 + (w64 ((Int.tmod (w64 (v5.toNat : Int)) 128) * s2.2.1))))).bind fun v8 => (sub? x0 x1 (w64 (s2.2.2 + 1))).bind fun v9 => (if (!(v8 == v9)) then some true else some false)) : Option Bool).bind (fun y7 => (if y7 then some (.inr (.inl (0, 0, false))) else some (.inr (.inl (w64 (s2.1 + (w64 ((Int.tmod (w64 (v5.toNat : Int)) 128) * s2.2.1))), w64 (s2.2.2 + 1), true))))) else some (.inl (w64 (s2.1 + (w64 ((Int.tmod (w64 (v5.toNat : Int)) 128) * s2.2.1))), w64 (s2.2.1 * 128), w64 (s2.2.2 + 1)))) else some (.inr (.inr ()))))
noncomputable def F_spec_ReadVar (x0 : List UInt8) (x1 : Int) : Option (Int × Int × Bool) :=
  (F_spec_l01In x1 0 (x0.length : Int)).bind fun v1 => (if v1 then (iter (S_spec_ReadVar_1 x0 x1) (0, 1, x1)).bind (Sum.elim (fun r => some r) (fun y3 => some (0, 0, false))) else some (0, 0, false))
noncomputable def F_spec_ReadShort (x0 : List UInt8) (x1 : Int) : Option ((List UInt8) × Int × Bool) :=
  (F_spec_ReadVar x0 x1).bind fun v1 => ((if !v1.2.2 then some true else (if decide (v1.1 > 20000) then some true else (if decide (v1.1 > (w64 ((x0.length : Int) - v1.2.1))) then some true else some false))) : Option Bool).bind (fun y2 => (if y2 then some ([], 0, false) else (sub? x0 v1.2.1 (w64 (v1.2.1 + v1.1))).bind fun v3 => some (v3, w64 (v1.2.1 + v1.1), true)))
noncomputable def F_spec_l02Four (x0 : Int) : Option (List UInt8) :=
  some ([IntKind.u8.wrap (shrv .u32 x0 24), IntKind.u8.wrap (shrv .u32 x0 16), IntKind.u8.wrap (shrv .u32 x0 8), IntKind.u8.wrap x0].map ofI)
noncomputable def S_spec_SumMore_2 (s4 : Int × Int) : Option ((Int × Int) ⊕ Int) :=
  (if decide (s4.2 < 8) then (if ((Int.tmod s4.1 2) == 1) then some (.inl (xorv .u32 (IntKind.u32.wrap (Int.tdiv s4.1 2)) 3558460437, w64 (s4.2 + 1))) else some (.inl (IntKind.u32.wrap (Int.tdiv s4.1 2), w64 (s4.2 + 1)))) else some (.inr s4.1))
noncomputable def S_spec_SumMore_1 (x1 : List UInt8) (s1 : Int × Int) : Option ((Int × Int) ⊕ Int) :=
  (if decide (s1.2 < (x1.length : Int)) then (bt? x1 s1.2).bind fun v3 => (iter (S_spec_SumMore_2) (xorv .u32 s1.1 (IntKind.u32.wrap (v3.toNat : Int)), 0)).bind (fun y6 => some (.inl (y6, w64 (s1.2 + 1)))) else some (.inr s1.1))
noncomputable def F_spec_SumMore (x0 : Int) (x1 : List UInt8) : Option Int :=
  (iter (S_spec_SumMore_1 x1) (x0, 0)).bind (fun y7 => some y7)
noncomputable def F_spec_SumOf (x0 : List UInt8) : Option Int :=
  (F_spec_SumMore 4294967295 x0).bind fun v1 => some v1
noncomputable def F_spec_Sealed (x0 : List UInt8) : Option ((List UInt8) × Bool) :=
  (if decide ((x0.length : Int) > 20000) then some ([], false) else (F_spec_SumOf x0).bind fun v1 => (F_spec_l02Four v1).bind fun v2 => (cat? x0 v2).bind fun v3 => some (v3, true))
noncomputable def F_spec_FrameOk (x0 : TFrame) : Option Bool :=
  ((F_spec_l01In x0.Gen 1 1000000000).bind fun v2 => (if v2 then (F_spec_l01In x0.Seq 1 1000000000).bind fun v3 => (if v3 then (F_spec_l01In (x0.Body.length : Int) 1 180).bind fun v4 => some v4 else some false) else some false) : Option Bool).bind (fun y1 => some y1)
noncomputable def F_spec_FrameText (x0 : TFrame) : Option ((List UInt8) × Bool) :=
  (F_spec_FrameOk x0).bind fun v1 => (if v1 then (F_spec_l01Var x0.Gen).bind fun v2 => (F_spec_l01Var x0.Seq).bind fun v3 => (cat? v2 v3).bind fun v4 => (F_spec_l01Var (x0.Body.length : Int)).bind fun v5 => (cat? v4 v5).bind fun v6 => (cat? v6 x0.Body).bind fun v7 => (F_spec_Sealed v7).bind fun v8 => some (v8.1, v8.2) else some ([], false))
noncomputable def F_spec_ReadFrame (x0 : List UInt8) (x1 : Int) : Option (TFrame × Int × Bool) :=
  (F_spec_ReadVar x0 x1).bind fun v1 => (F_spec_ReadVar x0 v1.2.1).bind fun v2 => (F_spec_ReadShort x0 v2.2.1).bind fun v3 => ((if !v1.2.2 then some true else (if !v2.2.2 then some true else (if !v3.2.2 then some true else (if decide (v3.2.1 > (w64 ((x0.length : Int) - 4))) then some true else (if decide (x1 < 0) then some true else some false))))) : Option Bool).bind (fun y4 => (if y4 then some (({ Gen := 0, Seq := 0, Body := [] } : TFrame), 0, false) else (F_spec_FrameText ({ Gen := v1.1, Seq := v2.1, Body := v3.1 } : TFrame)).bind fun v5 => ((if !v5.2 then some true else (sub? x0 x1 (w64 (v3.2.1 + 4))).bind fun v7 => (if (!(v5.1 == v7)) then some true else some false)) : Option Bool).bind (fun y6 => (if y6 then some (({ Gen := 0, Seq := 0, Body := [] } : TFrame), 0, false) else some (({ Gen := v1.1, Seq := v2.1, Body := v3.1 } : TFrame), w64 (v3.2.1 + 4), true)))))
noncomputable def F_spec_SegGen (x0 : TDisk) (x1 : Int) : Option Int :=
  (F_spec_SegText x0 x1).bind fun v1 => (F_spec_ReadFrame v1 0).bind fun v2 => ((if !v2.2.2 then some true else (if (!(v2.1.Body == [115, 101, 103])) then some true else some false)) : Option Bool).bind (fun y3 => (if y3 then some 0 else some v2.1.Gen))
noncomputable def S_spec_ScanFrames_1 (x0 : List UInt8) (x1 : Int) (s1 : Int × (List TFrame)) : Option ((Int × (List TFrame)) ⊕ (((List TFrame) × Int) ⊕ Empty)) :=
  (F_spec_ReadFrame x0 s1.1).bind fun v3 => ((if !v3.2.2 then some true else (if (v3.1.Gen != x1) then some true else some false)) : Option Bool).bind (fun y4 => (if y4 then some (.inr (.inl (s1.2, s1.1))) else (app? 32 s1.2 [v3.1]).bind fun v5 => some (.inl (v3.2.1, v5))))
noncomputable def F_spec_ScanFrames (x0 : List UInt8) (x1 : Int) : Option ((List TFrame) × Int) :=
  (iter (S_spec_ScanFrames_1 x0 x1) (0, ([] : List TFrame))).bind (Sum.elim (fun r => some r) (fun y => y.elim))
noncomputable def F_spec_SegFrames (x0 : TDisk) (x1 : Int) : Option ((List TFrame) × Int) :=
  (F_spec_SegGen x0 x1).bind fun v1 => (if (v1 == 0) then some ([], 0) else (F_spec_SegText x0 x1).bind fun v2 => (F_spec_ScanFrames v2 v1).bind fun v3 => (sub? v3.1 1 (v3.1.length : Int)).bind fun v4 => (app? 32 ([] : List TFrame) v4).bind fun v5 => some (v5, v3.2))
noncomputable def F_spec_l06Var_w (x0 : TL06Cur) : Option (Int × TL06Cur) :=
  (F_spec_ReadVar x0.mText x0.mAt).bind fun v1 => (if x0.mBad then some (0, ({ mText := x0.mText, mAt := x0.mAt, mBad := true } : TL06Cur)) else (if !v1.2.2 then some (0, ({ mText := x0.mText, mAt := x0.mAt, mBad := true } : TL06Cur)) else some (v1.1, ({ mText := x0.mText, mAt := v1.2.1, mBad := false } : TL06Cur))))
noncomputable def S_spec_WordOk_1 (x0 : List UInt8) (s1 : Int) : Option (Int ⊕ (Bool ⊕ Unit)) :=
  (if decide (s1 < (x0.length : Int)) then ((bt? x0 s1).bind fun v4 => (if decide ((v4.toNat : Int) < 97) then some true else (bt? x0 s1).bind fun v5 => (if decide ((v5.toNat : Int) > 122) then some true else some false)) : Option Bool).bind (fun y3 => (if y3 then some (.inr (.inl false)) else some (.inl (w64 (s1 + 1))))) else some (.inr (.inr ())))
noncomputable def F_spec_WordOk (x0 : List UInt8) : Option Bool :=
  (iter (S_spec_WordOk_1 x0) 0).bind (Sum.elim (fun r => some r) (fun y2 => (F_spec_l01In (x0.length : Int) 1 8).bind fun v7 => some v7))
noncomputable def F_spec_RecOk (x0 : TRec) : Option Bool :=
  ((F_spec_l01In x0.Kind 1 5).bind fun v2 => (if v2 then (F_spec_l01In x0.Valid 1 9999).bind fun v3 => (if v3 then some false else some true) else some true) : Option Bool).bind (fun y1 => (if y1 then some false else (if (x0.Kind == 1) then ((if (x0.Kind == 3) then some true else (if (x0.Kind == 4) then some true else (if (x0.Kind == 5) then some true else some false))) : Option Bool).bind (fun y11 => ((if (x0.Kind == 3) then some true else (if (x0.Kind == 4) then some true else some false)) : Option Bool).bind (fun y12 => ((F_spec_WordOk x0.User).bind fun v14 => (if v14 then (F_spec_WordOk x0.Name).bind fun v15 => (if v15 then (F_spec_l01In x0.Next 1 10000).bind fun v16 => (if v16 then some false else some true) else some true) else some true) : Option Bool).bind (fun y13 => (if y13 then some false else ((if y11 then (F_spec_l01In x0.Uid 1 9999).bind fun v18 => (if v18 then some false else some true) else (if (x0.Uid != 0) then some true else some false)) : Option Bool).bind (fun y17 => (if y17 then some false else ((if y12 then (F_spec_l01In x0.Flags 0 7).bind fun v20 => (if v20 then some false else some true) else (if (x0.Flags != 0) then some true else some false)) : Option Bool).bind (fun y19 => (if y19 then some false else (if (x0.Kind == 3) then some (decide ((x0.Text.length : Int) ≤ 100)) else some (x0.Text == [])))))))))) else ((if (x0.Kind == 3) then some true else (if (x0.Kind == 4) then some true else (if (x0.Kind == 5) then some true else some false))) : Option Bool).bind (fun y4 => ((if (x0.Kind == 3) then some true else (if (x0.Kind == 4) then some true else some false)) : Option Bool).bind (fun y5 => ((if (!(x0.User == [])) then some true else (if (!(x0.Name == [])) then some true else (if (x0.Next != 0) then some true else some false))) : Option Bool).bind (fun y6 => (if y6 then some false else ((if y4 then (F_spec_l01In x0.Uid 1 9999).bind fun v8 => (if v8 then some false else some true) else (if (x0.Uid != 0) then some true else some false)) : Option Bool).bind (fun y7 => (if y7 then some false else ((if y5 then (F_spec_l01In x0.Flags 0 7).bind fun v10 => (if v10 then some false else some true) else (if (x0.Flags != 0) then some true else some false)) : Option Bool).bind (fun y9 => (if y9 then some false else (if (x0.Kind == 3) then some (decide ((x0.Text.length : Int) ≤ 100)) else some (x0.Text == [])))))))))))))
noncomputable def F_spec_l06Short (x0 : List UInt8) : Option (List UInt8) :=
  (F_spec_l01Var (x0.length : Int)).bind fun v1 => (cat? v1 x0).bind fun v2 => some v2
noncomputable def F_spec_RecText (x0 : TRec) : Option ((List UInt8) × Bool) :=
  (F_spec_RecOk x0).bind fun v1 => (if v1 then (F_spec_l01Var x0.Valid).bind fun v2 => (cat? ([IntKind.u8.wrap x0.Kind].map ofI) v2).bind fun v3 => (F_spec_l01Var x0.Uid).bind fun v4 => (cat? v3 v4).bind fun v5 => (F_spec_l01Var x0.Next).bind fun v6 => (cat? v5 v6).bind fun v7 => (F_spec_l01Var x0.Flags).bind fun v8 => (cat? v7 v8).bind fun v9 => (F_spec_l06Short x0.User).bind fun v10 => (cat? v9 v10).bind fun v11 => (F_spec_l06Short x0.Name).bind fun v12 => (cat? v11 v12).bind fun v13 => (F_spec_l06Short x0.Text).bind fun v14 => (cat? v13 v14).bind fun v15 => some (v15, true) else some ([], false))
noncomputable def F_spec_l06ReadShort_w (x0 : TL06Cur) : Option ((List UInt8) × TL06Cur) :=
  (F_spec_ReadShort x0.mText x0.mAt).bind fun v1 => (if x0.mBad then some ([], ({ mText := x0.mText, mAt := x0.mAt, mBad := true } : TL06Cur)) else (if !v1.2.2 then some ([], ({ mText := x0.mText, mAt := x0.mAt, mBad := true } : TL06Cur)) else some (v1.1, ({ mText := x0.mText, mAt := v1.2.1, mBad := false } : TL06Cur))))
noncomputable def F_spec_ReadRec (x0 : List UInt8) : Option (TRec × Bool) :=
  (if (x0 == []) then some (({ Kind := 0, Valid := 0, Uid := 0, Next := 0, Flags := 0, User := [], Name := [], Text := [] } : TRec), false) else (bt? x0 0).bind fun v1 => (F_spec_l06Var_w ({ mText := x0, mAt := 1, mBad := false } : TL06Cur)).bind fun v2 => (F_spec_l06Var_w v2.2).bind fun v3 => (F_spec_l06Var_w v3.2).bind fun v4 => (F_spec_l06Var_w v4.2).bind fun v5 => (F_spec_l06ReadShort_w v5.2).bind fun v6 => (F_spec_l06ReadShort_w v6.2).bind fun v7 => (F_spec_l06ReadShort_w v7.2).bind fun v8 => (F_spec_RecText ({ Kind := w64 (v1.toNat : Int), Valid := v2.1, Uid := v3.1, Next := v4.1, Flags := v5.1, User := v6.1, Name := v7.1, Text := v8.1 } : TRec)).bind fun v9 => ((if v8.2.mBad then some true else (if !v9.2 then some true else (if (!(v9.1 == x0)) then some true else some false))) : Option Bool).bind (fun y10 => (if y10 then some (({ Kind := 0, Valid := 0, Uid := 0, Next := 0, Flags := 0, User := [], Name := [], Text := [] } : TRec), false) else some (({ Kind := w64 (v1.toNat : Int), Valid := v2.1, Uid := v3.1, Next := v4.1, Flags := v5.1, User := v6.1, Name := v7.1, Text := v8.1 } : TRec), true))))
noncomputable def F_spec_FrameItem (x0 : TFrame) : Option (TItem × Bool) :=
  (F_spec_ReadRec x0.Body).bind fun v1 => (F_spec_FrameOk x0).bind fun v2 => (if v2 then (if !v1.2 then some (({ Seq := 0, Rec := ({ Kind := 0, Valid := 0, Uid := 0, Next := 0, Flags := 0, User := [], Name := [], Text := [] } : TRec) } : TItem), false) else some (({ Seq := x0.Seq, Rec := v1.1 } : TItem), true)) else some (({ Seq := 0, Rec := ({ Kind := 0, Valid := 0, Uid := 0, Next := 0, Flags := 0, User := [], Name := [], Text := [] } : TRec) } : TItem), false))
noncomputable def S_spec_l09Seg_1 (v1 : (List TFrame) × Int) (s3 : Int × (List TItem)) : Option ((Int × (List TItem)) ⊕ (List TItem)) :=
  (if decide (s3.1 < (v1.1.length : Int)) then (at? v1.1 s3.1).bind fun v5 => (F_spec_FrameItem v5).bind fun v6 => (if v6.2 then (app? 96 s3.2 [v6.1]).bind fun v7 => some (.inl (w64 (s3.1 + 1), v7)) else some (.inl (w64 (s3.1 + 1), s3.2))) else some (.inr s3.2))
noncomputable def F_spec_l09Seg (x0 : TDisk) (x1 : Int) : Option TSeg :=
  (F_spec_SegFrames x0 x1).bind fun v1 => (F_spec_SegGen x0 x1).bind fun v2 => (iter (S_spec_l09Seg_1 v1) (0, ([] : List TItem))).bind (fun y8 => some ({ No := x1, Gen := v2, End := v1.2, Items := y8 } : TSeg))
noncomputable def F_spec_SegOf (x0 : TDisk) (x1 : Int) : Option TSeg :=
  (F_spec_l09Seg x0 x1).bind fun v1 => some ({ No := v1.No, Gen := v1.Gen, End := v1.End, Items := v1.Items } : TSeg)
noncomputable def F_impl_in (x0 : Int) (x1 : Int) (x2 : Int) : Option Bool :=
  (if decide (x0 ≥ x1) then some (decide (x0 ≤ x2)) else some false)
noncomputable def F_impl_SegFirst (x0 : Int) : Option Int :=
  (F_impl_in x0 0 10).bind fun v1 => (if v1 then some (w64 (8 + (w64 (x0 * 8)))) else some 0)
noncomputable def S_impl_ReadSector_1 (x0 : TDisk) (x1 : Int) (s3 : (List UInt8) × Int) : Option (((List UInt8) × Int) ⊕ (List UInt8)) :=
  (if decide (s3.2 < (x0.Cache.length : Int)) then (at? x0.Cache s3.2).bind fun v5 => (if (v5.At == x1) then some (.inl (v5.Text, w64 (s3.2 + 1))) else some (.inl (s3.1, w64 (s3.2 + 1)))) else some (.inr s3.1))
noncomputable def F_impl_ReadSector (x0 : TDisk) (x1 : Int) : Option ((List UInt8) × Bool) :=
  (F_impl_in x1 0 (w64 ((x0.Sectors.length : Int) - 1))).bind fun v1 => (if v1 then (at? x0.Sectors x1).bind fun v2 => (iter (S_impl_ReadSector_1 x0 x1) (v2, 0)).bind (fun y6 => some (y6, true)) else some ([], false))
noncomputable def S_impl_SectorText_1 (x0 : TDisk) (x1 : Int) (x2 : Int) (s2 : (List UInt8) × Int) : Option (((List UInt8) × Int) ⊕ (((List UInt8) × Bool) ⊕ (List UInt8))) :=
  (if decide (s2.2 < x2) then (F_impl_ReadSector x0 (w64 (x1 + s2.2))).bind fun v4 => (if !v4.2 then some (.inr (.inl ([], false))) else (cat? s2.1 v4.1).bind fun v5 => some (.inl (v5, w64 (s2.2 + 1)))) else some (.inr (.inr s2.1)))
noncomputable def F_impl_SectorText (x0 : TDisk) (x1 : Int) (x2 : Int) : Option ((List UInt8) × Bool) :=
  (F_impl_in x2 0 100).bind fun v1 => (if v1 then (iter (S_impl_SectorText_1 x0 x1 x2) ([], 0)).bind (Sum.elim (fun r => some r) (fun y3 => some (y3, true))) else some ([], false))
noncomputable def F_impl_SegText (x0 : TDisk) (x1 : Int) : Option (List UInt8) :=
  (F_impl_in x1 0 10).bind fun v1 => (if v1 then (F_impl_SegFirst x1).bind fun v2 => (F_impl_SectorText x0 v2 8).bind fun v3 => some v3.1 else some [])
noncomputable def S_impl_ReadVar_1 (x0 : List UInt8) (x1 : Int) (s2 : Int × Int) : Option ((Int × Int) ⊕ ((Int × Int × Bool) ⊕ Unit)) :=
  ((if decide (s2.2 < 5) then (if decide ((w64 (x1 + s2.2)) < (x0.length : Int)) then some true else some false) else some false) : Option Bool).bind (fun y4 => (if y4 then (bt? x0 (w64 (x1 + s2.2))).bind fun v5 => (shl? .i64 (andv .i64 (w64 (v5.toNat : Int)) 127) (w64 (7 * s2.2))).bind fun v6 => (if decide ((w64 (v5.toNat : Int)) > 127) then some (.inl (orv .i64 s2.1 v6, w64 (s2.2 + 1))) else ((if ((w64 (v5.toNat : Int)) == 0) then (if decide (s2.2 > 0) then some true else (if decide ((orv .i64 s2.1 v6) > 1000000000) then some true else some false)) else (if decide ((orv .i64 s2.1 v6) > 1000000000) then some true else some false)) : Option Bool).bind (fun y7 => (if y7 then some (.inr (.inl (0, 0, false))) else some (.inr (.inl (orv .i64 s2.1 v6, w64 ((w64 (x1 + s2.2)) + 1), true)))))) else some (.inr (.inr ()))))
noncomputable def F_impl_ReadVar (x0 : List UInt8) (x1 : Int) : Option (Int × Int × Bool) :=
  (F_impl_in x1 0 (x0.length : Int)).bind fun v1 => (if v1 then (iter (S_impl_ReadVar_1 x0 x1) (0, 0)).bind (Sum.elim (fun r => some r) (fun y3 => some (0, 0, false))) else some (0, 0, false))
noncomputable def F_impl_ReadShort (x0 : List UInt8) (x1 : Int) : Option ((List UInt8) × Int × Bool) :=
  (F_impl_ReadVar x0 x1).bind fun v1 => ((if !v1.2.2 then some true else (if decide (v1.1 > 20000) then some true else (if decide (v1.1 > (w64 ((x0.length : Int) - v1.2.1))) then some true else some false))) : Option Bool).bind (fun y2 => (if y2 then some ([], 0, false) else (sub? x0 v1.2.1 (w64 (v1.2.1 + v1.1))).bind fun v3 => some (v3, w64 (v1.2.1 + v1.1), true)))
noncomputable def F_impl_FrameOk (x0 : TFrame) : Option Bool :=
  ((F_impl_in x0.Gen 1 1000000000).bind fun v2 => (if v2 then (F_impl_in x0.Seq 1 1000000000).bind fun v3 => (if v3 then (F_impl_in (x0.Body.length : Int) 1 180).bind fun v4 => some v4 else some false) else some false) : Option Bool).bind (fun y1 => some y1)
noncomputable def S_impl_varText_1 (s1 : Int × (List Int)) : Option ((Int × (List Int)) ⊕ (Int × (List Int))) :=
  (if decide (s1.1 > 127) then (app? 1 s1.2 [IntKind.u8.wrap (orv .i64 (andv .i64 s1.1 127) 128)]).bind fun v3 => some (.inl (shrv .i64 s1.1 7, v3)) else some (.inr (s1.1, s1.2)))
noncomputable def F_impl_varText (x0 : Int) : Option (List UInt8) :=
  (iter (S_impl_varText_1) (x0, ([] : List Int))).bind (fun y4 => (app? 1 y4.2 [IntKind.u8.wrap y4.1]).bind fun v5 => some (v5.map ofI))
noncomputable def S_impl_SumMore_2 (s4 : Int × Int) : Option ((Int × Int) ⊕ Int) :=
  (if decide (s4.2 < 8) then (if ((andv .u32 s4.1 1) == 1) then some (.inl (xorv .u32 (shrv .u32 s4.1 1) 3558460437, w64 (s4.2 + 1))) else some (.inl (shrv .u32 s4.1 1, w64 (s4.2 + 1)))) else some (.inr s4.1))
noncomputable def S_impl_SumMore_1 (x1 : List UInt8) (s1 : Int × Int) : Option ((Int × Int) ⊕ Int) :=
  (if decide (s1.2 < (x1.length : Int)) then (bt? x1 s1.2).bind fun v3 => (iter (S_impl_SumMore_2) (xorv .u32 s1.1 (IntKind.u32.wrap (v3.toNat : Int)), 0)).bind (fun y6 => some (.inl (y6, w64 (s1.2 + 1)))) else some (.inr s1.1))
noncomputable def F_impl_SumMore (x0 : Int) (x1 : List UInt8) : Option Int :=
  (iter (S_impl_SumMore_1 x1) (x0, 0)).bind (fun y7 => some y7)
noncomputable def F_impl_SumOf (x0 : List UInt8) : Option Int :=
  (F_impl_SumMore 4294967295 x0).bind fun v1 => some v1
noncomputable def F_impl_seal (x0 : List UInt8) : Option (List UInt8) :=
  (F_impl_SumOf x0).bind fun v1 => some ([IntKind.u8.wrap (shrv .u32 v1 24), IntKind.u8.wrap (shrv .u32 v1 16), IntKind.u8.wrap (shrv .u32 v1 8), IntKind.u8.wrap v1].map ofI)
noncomputable def F_impl_Sealed (x0 : List UInt8) : Option ((List UInt8) × Bool) :=
  (if decide ((x0.length : Int) > 20000) then some ([], false) else (F_impl_seal x0).bind fun v1 => (cat? x0 v1).bind fun v2 => some (v2, true))
noncomputable def F_impl_FrameText (x0 : TFrame) : Option ((List UInt8) × Bool) :=
  (F_impl_FrameOk x0).bind fun v1 => (if v1 then (F_impl_varText x0.Gen).bind fun v2 => (F_impl_varText x0.Seq).bind fun v3 => (cat? v2 v3).bind fun v4 => (F_impl_varText (x0.Body.length : Int)).bind fun v5 => (cat? v4 v5).bind fun v6 => (cat? v6 x0.Body).bind fun v7 => (F_impl_Sealed v7).bind fun v8 => some (v8.1, v8.2) else some ([], false))
noncomputable def F_impl_ReadFrame (x0 : List UInt8) (x1 : Int) : Option (TFrame × Int × Bool) :=
  (F_impl_ReadVar x0 x1).bind fun v1 => (F_impl_ReadVar x0 v1.2.1).bind fun v2 => (F_impl_ReadShort x0 v2.2.1).bind fun v3 => ((if !v1.2.2 then some true else (if !v2.2.2 then some true else (if !v3.2.2 then some true else (F_impl_FrameOk ({ Gen := v1.1, Seq := v2.1, Body := v3.1 } : TFrame)).bind fun v5 => (if v5 then (if decide ((w64 ((x0.length : Int) - v3.2.1)) < 4) then some true else some false) else some true)))) : Option Bool).bind (fun y4 => (if y4 then some (({ Gen := 0, Seq := 0, Body := [] } : TFrame), 0, false) else (F_impl_FrameText ({ Gen := v1.1, Seq := v2.1, Body := v3.1 } : TFrame)).bind fun v6 => (sub? x0 x1 (w64 (v3.2.1 + 4))).bind fun v7 => (if (!(v7 == v6.1)) then some (({ Gen := 0, Seq := 0, Body := [] } : TFrame), 0, false) else some (({ Gen := v1.1, Seq := v2.1, Body := v3.1 } : TFrame), w64 (v3.2.1 + 4), true))))
noncomputable def F_impl_SegGen (x0 : TDisk) (x1 : Int) : Option Int :=
  (F_impl_SegText x0 x1).bind fun v1 => (F_impl_ReadFrame v1 0).bind fun v2 => (if (!(v2.1.Body == [115, 101, 103])) then some 0 else some v2.1.Gen)
noncomputable def S_impl_ScanFrames_1 (x0 : List UInt8) (x1 : Int) (s1 : Int × (List TFrame)) : Option ((Int × (List TFrame)) ⊕ (((List TFrame) × Int) ⊕ Empty)) :=
  (F_impl_ReadFrame x0 s1.1).bind fun v3 => ((if !v3.2.2 then some true else (if (v3.1.Gen != x1) then some true else some false)) : Option Bool).bind (fun y4 => (if y4 then some (.inr (.inl (s1.2, s1.1))) else (app? 32 s1.2 [v3.1]).bind fun v5 => some (.inl (v3.2.1, v5))))
noncomputable def F_impl_ScanFrames (x0 : List UInt8) (x1 : Int) : Option ((List TFrame) × Int) :=
  (iter (S_impl_ScanFrames_1 x0 x1) (0, ([] : List TFrame))).bind (Sum.elim (fun r => some r) (fun y => y.elim))
noncomputable def F_impl_SegFrames (x0 : TDisk) (x1 : Int) : Option ((List TFrame) × Int) :=
  (F_impl_SegGen x0 x1).bind fun v1 => (if (v1 == 0) then some ([], 0) else (F_impl_SegText x0 x1).bind fun v2 => (F_impl_ScanFrames v2 v1).bind fun v3 => (sub? v3.1 1 (v3.1.length : Int)).bind fun v4 => some (v4, v3.2))
noncomputable def S_impl_WordOk_1 (x0 : List UInt8) (s2 : Int) : Option (Int ⊕ (Bool ⊕ Unit)) :=
  (if decide (s2 < (x0.length : Int)) then ((bt? x0 s2).bind fun v5 => (if decide ((v5.toNat : Int) < 97) then some true else (bt? x0 s2).bind fun v6 => (if decide ((v6.toNat : Int) > 122) then some true else some false)) : Option Bool).bind (fun y4 => (if y4 then some (.inr (.inl false)) else some (.inl (w64 (s2 + 1))))) else some (.inr (.inr ())))
noncomputable def F_impl_WordOk (x0 : List UInt8) : Option Bool :=
  (F_impl_in (x0.length : Int) 1 8).bind fun v1 => (if v1 then (iter (S_impl_WordOk_1 x0) 0).bind (Sum.elim (fun r => some r) (fun y3 => some true)) else some false)
noncomputable def F_impl_RecOk (x0 : TRec) : Option Bool :=
  (F_impl_in x0.Valid 1 9999).bind fun v1 => (if v1 then ((if (x0.Kind == 3) then some true else (if (x0.Kind == 4) then some true else (if (x0.Kind == 5) then some true else some false))) : Option Bool).bind (fun y2 => ((if y2 then (F_impl_in x0.Uid 1 9999).bind fun v4 => (if v4 then some (true, 0) else some (false, 0)) else some (true, x0.Uid)) : Option (Bool × Int)).bind (fun y3 => ((if (x0.Kind == 3) then some true else (if (x0.Kind == 4) then some true else some false)) : Option Bool).bind (fun y5 => ((if y5 then ((if y3.1 then (F_impl_in x0.Flags 0 7).bind fun v8 => (if v8 then some true else some false) else some false) : Option Bool).bind (fun y7 => some (y7, 0)) else some (y3.1, x0.Flags)) : Option (Bool × Int)).bind (fun y6 => ((if (x0.Kind == 1) then ((F_impl_WordOk x0.User).bind fun v12 => (if v12 then (F_impl_WordOk x0.Name).bind fun v13 => (if v13 then (F_impl_in x0.Next 1 10000).bind fun v14 => (if v14 then some true else some false) else some false) else some false) : Option Bool).bind (fun y11 => some (.inr (y11, 0, [], [], x0.Text))) else (if (x0.Kind == 3) then ((if y6.1 then (if decide ((x0.Text.length : Int) ≤ 100) then some true else some false) else some false) : Option Bool).bind (fun y10 => some (.inr (y10, x0.Next, x0.User, x0.Name, []))) else (if (x0.Kind == 2) then some (.inr (y6.1, x0.Next, x0.User, x0.Name, x0.Text)) else (if (x0.Kind == 4) then some (.inr (y6.1, x0.Next, x0.User, x0.Name, x0.Text)) else (if (x0.Kind == 5) then some (.inr (y6.1, x0.Next, x0.User, x0.Name, x0.Text)) else some (.inl false)))))) : Option (Bool ⊕ (Bool × Int × (List UInt8) × (List UInt8) × (List UInt8)))).bind (Sum.elim (fun r => some r) (fun y9_ => (if y9_.1 then some (0 == 0 && (0 == 0 && (y3.2 == 0 && (y9_.2.1 == 0 && (y6.2 == 0 && (y9_.2.2.1 == [] && (y9_.2.2.2.1 == [] && (y9_.2.2.2.2 == [] && true)))))))) else some false))))))) else some false)
noncomputable def F_impl_ReadRec (x0 : List UInt8) : Option (TRec × Bool) :=
  (if (x0 == []) then some (({ Kind := 0, Valid := 0, Uid := 0, Next := 0, Flags := 0, User := [], Name := [], Text := [] } : TRec), false) else (bt? x0 0).bind fun v1 => (F_impl_ReadVar x0 1).bind fun v2 => (if !v2.2.2 then some (({ Kind := 0, Valid := 0, Uid := 0, Next := 0, Flags := 0, User := [], Name := [], Text := [] } : TRec), false) else (F_impl_ReadVar x0 v2.2.1).bind fun v3 => (if !v3.2.2 then some (({ Kind := 0, Valid := 0, Uid := 0, Next := 0, Flags := 0, User := [], Name := [], Text := [] } : TRec), false) else (F_impl_ReadVar x0 v3.2.1).bind fun v4 => (if !v4.2.2 then some (({ Kind := 0, Valid := 0, Uid := 0, Next := 0, Flags := 0, User := [], Name := [], Text := [] } : TRec), false) else (F_impl_ReadVar x0 v4.2.1).bind fun v5 => (if !v5.2.2 then some (({ Kind := 0, Valid := 0, Uid := 0, Next := 0, Flags := 0, User := [], Name := [], Text := [] } : TRec), false) else (F_impl_ReadShort x0 v5.2.1).bind fun v6 => (if !v6.2.2 then some (({ Kind := 0, Valid := 0, Uid := 0, Next := 0, Flags := 0, User := [], Name := [], Text := [] } : TRec), false) else (F_impl_ReadShort x0 v6.2.1).bind fun v7 => (if !v7.2.2 then some (({ Kind := 0, Valid := 0, Uid := 0, Next := 0, Flags := 0, User := [], Name := [], Text := [] } : TRec), false) else (F_impl_ReadShort x0 v7.2.1).bind fun v8 => (if !v8.2.2 then some (({ Kind := 0, Valid := 0, Uid := 0, Next := 0, Flags := 0, User := [], Name := [], Text := [] } : TRec), false) else ((if (v8.2.1 != (x0.length : Int)) then some true else (F_impl_RecOk ({ Kind := w64 (v1.toNat : Int), Valid := v2.1, Uid := v3.1, Next := v4.1, Flags := v5.1, User := v6.1, Name := v7.1, Text := v8.1 } : TRec)).bind fun v10 => (if v10 then some false else some true)) : Option Bool).bind (fun y9 => (if y9 then some (({ Kind := 0, Valid := 0, Uid := 0, Next := 0, Flags := 0, User := [], Name := [], Text := [] } : TRec), false) else some (({ Kind := w64 (v1.toNat : Int), Valid := v2.1, Uid := v3.1, Next := v4.1, Flags := v5.1, User := v6.1, Name := v7.1, Text := v8.1 } : TRec), true)))))))))))
noncomputable def F_impl_FrameItem (x0 : TFrame) : Option (TItem × Bool) :=
  (F_impl_ReadRec x0.Body).bind fun v1 => ((if !v1.2 then some true else (F_impl_FrameOk x0).bind fun v3 => (if v3 then some false else some true)) : Option Bool).bind (fun y2 => (if y2 then some (({ Seq := 0, Rec := ({ Kind := 0, Valid := 0, Uid := 0, Next := 0, Flags := 0, User := [], Name := [], Text := [] } : TRec) } : TItem), false) else some (({ Seq := x0.Seq, Rec := v1.1 } : TItem), true)))
noncomputable def S_impl_SegOf_1 (v1 : (List TFrame) × Int) (s3 : Int × (List TItem)) : Option ((Int × (List TItem)) ⊕ (List TItem)) :=
  (if decide (s3.1 < (v1.1.length : Int)) then (at? v1.1 s3.1).bind fun v5 => (F_impl_FrameItem v5).bind fun v6 => (if v6.2 then (app? 96 s3.2 [v6.1]).bind fun v7 => some (.inl (w64 (s3.1 + 1), v7)) else some (.inl (w64 (s3.1 + 1), s3.2))) else some (.inr s3.2))
noncomputable def F_impl_SegOf (x0 : TDisk) (x1 : Int) : Option TSeg :=
  (F_impl_SegFrames x0 x1).bind fun v1 => (F_impl_SegGen x0 x1).bind fun v2 => (iter (S_impl_SegOf_1 v1) (0, ([] : List TItem))).bind (fun y8 => some ({ No := x1, Gen := v2, End := v1.2, Items := y8 } : TSeg))
noncomputable def F_laws_eqRec (x0 : TRec) (x1 : TRec) : Option Bool :=
  (if (x0.Kind != x1.Kind) then some false else (if (x0.Valid != x1.Valid) then some false else (if (x0.Uid != x1.Uid) then some false else (if (x0.Next != x1.Next) then some false else (if (x0.Flags != x1.Flags) then some false else (if (!(x0.User == x1.User)) then some false else (if (!(x0.Name == x1.Name)) then some false else (if (!(x0.Text == x1.Text)) then some false else some true))))))))
noncomputable def F_laws_eqItem (x0 : TItem) (x1 : TItem) : Option Bool :=
  (if (x0.Seq != x1.Seq) then some false else (F_laws_eqRec x0.Rec x1.Rec).bind fun v1 => (if v1 then some true else some false))
noncomputable def S_laws_eqItemS_1 (x0 : List TItem) (x1 : List TItem) (s1 : Int) : Option (Int ⊕ (Bool ⊕ Unit)) :=
  (if decide (s1 < (x0.length : Int)) then (at? x0 s1).bind fun v3 => (at? x1 s1).bind fun v4 => (F_laws_eqItem v3 v4).bind fun v5 => (if v5 then some (.inl (w64 (s1 + 1))) else some (.inr (.inl false))) else some (.inr (.inr ())))
noncomputable def F_laws_eqItemS (x0 : List TItem) (x1 : List TItem) : Option Bool :=
  (if ((x0.length : Int) != (x1.length : Int)) then some false else (iter (S_laws_eqItemS_1 x0 x1) 0).bind (Sum.elim (fun r => some r) (fun y2 => some true)))
noncomputable def F_laws_eqSeg (x0 : TSeg) (x1 : TSeg) : Option Bool :=
  (if (x0.No != x1.No) then some false else (if (x0.Gen != x1.Gen) then some false else (if (x0.End != x1.End) then some false else (F_laws_eqItemS x0.Items x1.Items).bind fun v1 => (if v1 then some true else some false))))
noncomputable def S_laws_markItemS_w_1 (s1 : Int × Int × (List TItem)) : Option ((Int × Int × (List TItem)) ⊕ (Int × (List TItem))) :=
  (if decide (s1.2.1 < (s1.2.2.length : Int)) then (at? s1.2.2 s1.2.1).bind fun v3 => (some (set' s1.2.2 s1.2.1 ({ Seq := s1.1, Rec := v3.Rec } : TItem))).bind fun v4 => (at? v4 s1.2.1).bind fun v5 => (some (set' v4 s1.2.1 ({ Seq := v5.Seq, Rec := ({ Kind := w64 (s1.1 + 1), Valid := v5.Rec.Valid, Uid := v5.Rec.Uid, Next := v5.Rec.Next, Flags := v5.Rec.Flags, User := v5.Rec.User, Name := v5.Rec.Name, Text := v5.Rec.Text } : TRec) } : TItem))).bind fun v6 => (at? v6 s1.2.1).bind fun v7 => (some (set' v6 s1.2.1 ({ Seq := v7.Seq, Rec := ({ Kind := v7.Rec.Kind, Valid := w64 ((w64 (s1.1 + 1)) + 1), Uid := v7.Rec.Uid, Next := v7.Rec.Next, Flags := v7.Rec.Flags, User := v7.Rec.User, Name := v7.Rec.Name, Text := v7.Rec.Text } : TRec) } : TItem))).bind fun v8 => (at? v8 s1.2.1).bind fun v9 => (some (set' v8 s1.2.1 ({ Seq := v9.Seq, Rec := ({ Kind := v9.Rec.Kind, Valid := v9.Rec.Valid, Uid := w64 ((w64 ((w64 (s1.1 + 1)) + 1)) + 1), Next := v9.Rec.Next, Flags := v9.Rec.Flags, User := v9.Rec.User, Name := v9.Rec.Name, Text := v9.Rec.Text } : TRec) } : TItem))).bind fun v10 => (at? v10 s1.2.1).bind fun v11 => (some (set' v10 s1.2.1 ({ Seq := v11.Seq, Rec := ({ Kind := v11.Rec.Kind, Valid := v11.Rec.Valid, Uid := v11.Rec.Uid, Next := w64 ((w64 ((w64 ((w64 (s1.1 + 1)) + 1)) + 1)) + 1), Flags := v11.Rec.Flags, User := v11.Rec.User, Name := v11.Rec.Name, Text := v11.Rec.Text } : TRec) } : TItem))).bind fun v12 => (at? v12 s1.2.1).bind fun v13 => (some (set' v12 s1.2.1 ({ Seq := v13.Seq, Rec := ({ Kind := v13.Rec.Kind, Valid := v13.Rec.Valid, Uid := v13.Rec.Uid, Next := v13.Rec.Next, Flags := w64 ((w64 ((w64 ((w64 ((w64 (s1.1 + 1)) + 1)) + 1)) + 1)) + 1), User := v13.Rec.User, Name := v13.Rec.Name, Text := v13.Rec.Text } : TRec) } : TItem))).bind fun v14 => (F_laws_markText (w64 ((w64 ((w64 ((w64 ((w64 ((w64 (s1.1 + 1)) + 1)) + 1)) + 1)) + 1)) + 1))).bind fun v15 => (at? v14 s1.2.1).bind fun v16 => (some (set' v14 s1.2.1 ({ Seq := v16.Seq, Rec := ({ Kind := v16.Rec.Kind, Valid := v16.Rec.Valid, Uid := v16.Rec.Uid, Next := v16.Rec.Next, Flags := v16.Rec.Flags, User := v15, Name := v16.Rec.Name, Text := v16.Rec.Text } : TRec) } : TItem))).bind fun v17 => (F_laws_markText (w64 ((w64 ((w64 ((w64 ((w64 ((w64 ((w64 (s1.1 + 1)) + 1)) + 1)) + 1)) + 1)) + 1)) + 1))).bind fun v18 => (at? v17 s1.2.1).bind fun v19 => (some (set' v17 s1.2.1 ({ Seq := v19.Seq, Rec := ({ Kind := v19.Rec.Kind, Valid := v19.Rec.Valid, Uid := v19.Rec.Uid, Next := v19.Rec.Next, Flags := v19.Rec.Flags, User := v19.Rec.User, Name := v18, Text := v19.Rec.Text } : TRec) } : TItem))).bind fun v20 => (F_laws_markText (w64 ((w64 ((w64 ((w64 ((w64 ((w64 ((w64 ((w64 (s1.1 + 1)) + 1)) + 1)) + 1)) + 1)) + 1)) + 1)) + 1))).bind fun v21 => (at? v20 s1.2.1).bind fun v22 => (some (set' v20 s1.2.1 ({ Seq := v22.Seq, Rec := ({ Kind := v22.Rec.Kind, Valid := v22.Rec.Valid, Uid := v22.Rec.Uid, Next := v22.Rec.Next, Flags := v22.Rec.Flags, User := v22.Rec.User, Name := v22.Rec.Name, Text := v21 } : TRec) } : TItem))).bind fun v23 => some (.inl (w64 ((w64 ((w64 ((w64 ((w64 ((w64 ((w64 ((w64 ((w64 (s1.1 + 1)) + 1)) + 1)) + 1)) + 1)) + 1)) + 1)) + 1)) + 1), w64 (s1.2.1 + 1), v23)) else some (.inr (s1.1, s1.2.2)))
noncomputable def F_laws_markItemS_w (x0 : List TItem) (x1 : Int) : Option (Int × (List TItem)) :=
  (iter (S_laws_markItemS_w_1) (x1, 0, x0)).bind (fun y24 => some (y24.1, y24.2))
noncomputable def F_laws_markSeg_w (x0 : Int) (x1 : Int) (x2 : Int) (x3 : List TItem) (x4 : Int) : Option (Int × (List TItem)) :=
  (guardO (fun r => x3.length = r.2.length) (F_laws_markItemS_w x3 x4)).bind fun v1 => some (v1.1, v1.2)
noncomputable def S_laws_heldItemS_1 (x0 : List TItem) (s1 : Int × Int) : Option ((Int × Int) ⊕ (Int ⊕ Int)) :=
  (if decide (s1.2 < (x0.length : Int)) then (at? x0 s1.2).bind fun v3 => (if (v3.Seq != s1.1) then some (.inr (.inl (-1))) else (at? x0 s1.2).bind fun v4 => (if (v4.Rec.Kind != (w64 (s1.1 + 1))) then some (.inr (.inl (-1))) else (at? x0 s1.2).bind fun v5 => (if (v5.Rec.Valid != (w64 ((w64 (s1.1 + 1)) + 1))) then some (.inr (.inl (-1))) else (at? x0 s1.2).bind fun v6 => (if (v6.Rec.Uid != (w64 ((w64 ((w64 (s1.1 + 1)) + 1)) + 1))) then some (.inr (.inl (-1))) else (at? x0 s1.2).bind fun v7 => (if (v7.Rec.Next != (w64 ((w64 ((w64 ((w64 (s1.1 + 1)) + 1)) + 1)) + 1))) then some (.inr (.inl (-1))) else (at? x0 s1.2).bind fun v8 => (if (v8.Rec.Flags != (w64 ((w64 ((w64 ((w64 ((w64 (s1.1 + 1)) + 1)) + 1)) + 1)) + 1))) then some (.inr (.inl (-1))) else (at? x0 s1.2).bind fun v9 => (F_laws_markText (w64 ((w64 ((w64 ((w64 ((w64 ((w64 (s1.1 + 1)) + 1)) + 1)) + 1)) + 1)) + 1))).bind fun v10 => (if (!(v9.Rec.User == v10)) then some (.inr (.inl (-1))) else (at? x0 s1.2).bind fun v11 => (F_laws_markText (w64 ((w64 ((w64 ((w64 ((w64 ((w64 ((w64 (s1.1 + 1)) + 1)) + 1)) + 1)) + 1)) + 1)) + 1))).bind fun v12 => (if (!(v11.Rec.Name == v12)) then some (.inr (.inl (-1))) else (at? x0 s1.2).bind fun v13 => (F_laws_markText (w64 ((w64 ((w64 ((w64 ((w64 ((w64 ((w64 ((w64 (s1.1 + 1)) + 1)) + 1)) + 1)) + 1)) + 1)) + 1)) + 1))).bind fun v14 => (if (!(v13.Rec.Text == v14)) then some (.inr (.inl (-1))) else some (.inl (w64 ((w64 ((w64 ((w64 ((w64 ((w64 ((w64 ((w64 ((w64 (s1.1 + 1)) + 1)) + 1)) + 1)) + 1)) + 1)) + 1)) + 1)) + 1), w64 (s1.2 + 1)))))))))))) else some (.inr (.inr s1.1)))
noncomputable def F_laws_heldItemS (x0 : List TItem) (x1 : Int) : Option Int :=
  (iter (S_laws_heldItemS_1 x0) (x1, 0)).bind (Sum.elim (fun r => some r) (fun y2 => some y2))
noncomputable def F_laws_heldSeg (x0 : TSeg) (x1 : Int) : Option Int :=
  (F_laws_heldItemS x0.Items x1).bind fun v1 => (if decide (v1 < 0) then some (-1) else some v1)
noncomputable def F_laws_FnExactSegOf (x0 : TDisk) (x1 : Int) : Option Bool :=
  (F_laws_szDisk x0 1048576).bind fun v1 => (if decide (v1 < 0) then some true else (F_laws_toDisk x0).bind fun v2 => (F_spec_SegOf v2 x1).bind fun v3 => (F_laws_toDisk x0).bind fun v4 => (F_impl_SegOf ({ Sectors := v4.Sectors, Cache := v4.Cache } : TDisk) x1).bind fun v5 => (F_laws_eqSeg ({ No := v5.No, Gen := v5.Gen, End := v5.End, Items := v5.Items } : TSeg) v3).bind fun v6 => (if v6 then (F_laws_toDisk x0).bind fun v7 => (F_laws_eqDisk ({ Sectors := v4.Sectors, Cache := v4.Cache } : TDisk) v7).bind fun v8 => (if v8 then (guardO (fun r => v4.Sectors.length = r.2.1.length ∧ v4.Cache.length = r.2.2.length) (F_laws_markDisk_w v4.Sectors v4.Cache 1)).bind fun v9 => ((if decide (v9.1 < 0) then some true else (F_laws_eqSeg ({ No := v5.No, Gen := v5.Gen, End := v5.End, Items := v5.Items } : TSeg) v3).bind fun v11 => (if v11 then some false else some true)) : Option Bool).bind (fun y10 => (if y10 then some false else (guardO (fun r => v5.Items.length = r.2.length) (F_laws_markSeg_w v5.No v5.Gen v5.End v5.Items 1)).bind fun v12 => (F_laws_heldSeg ({ No := v5.No, Gen := v5.Gen, End := v5.End, Items := v12.2 } : TSeg) 1).bind fun v13 => (if decide (v13 < 0) then some false else (if (v13 != v12.1) then some false else (F_laws_toDisk x0).bind fun v14 => (F_impl_SegOf v14 x1).bind fun v15 => (F_laws_eqSeg v15 v3).bind fun v16 => (if v16 then (F_laws_heldSeg ({ No := v5.No, Gen := v5.Gen, End := v5.End, Items := v12.2 } : TSeg) 1).bind fun v17 => (if decide (v17 < 0) then some false else (if (v17 != v12.1) then some false else some true)) else some false))))) else some false) else some false))
end Go.Proofs.Ytgdcbjoaoagbpaa.V
