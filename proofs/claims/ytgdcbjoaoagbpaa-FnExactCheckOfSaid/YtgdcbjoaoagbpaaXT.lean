/- Records, and what the functions compute. -/
import Derived.Test.YtgdcbjoaoagbpaaXE
/- Records, and how they lie in cells. -/
namespace Go.Proofs.Ytgdcbjoaoagbpaa.V
open Go Go.Proofs Go.RowKit
set_option maxRecDepth 100000
structure TWrite where
  At : Int
  Text : List UInt8
def enc_TWrite (_ : Bool) (x : TWrite) : List AV := [.int .i64 x.At, .str x.Text]
theorem sc_TWrite (o : Bool) (x : TWrite) : ∀ v ∈ enc_TWrite o x, Scl v := (fac .int (fac .str fan))
theorem fk_TWrite : FlatOk enc_TWrite 2 := ⟨⟨fun _ _ => rfl, by omega, fun _ _ => (fac .int (fac .str fan)), fun _ => (fac .int (fac .str fan)), fun _ => (.cons .refl (.cons .refl .nil))⟩, fun _ => rfl, fun _ _ => (fac rfl (fac rfl fan)), fun _ _ => (fac rfl (fac rfl fan))⟩
theorem ek_TWrite : EncOk enc_TWrite 2 := fk_TWrite.toEncOk
structure TDisk where
  Sectors : List (List UInt8)
  Cache : List TWrite
def enc_TDisk (o : Bool) (x : TDisk) : List AV := [.lst o 1 (fl (encS o) x.Sectors) x.Sectors.length, .lst o 2 (fl (enc_TWrite o) x.Cache) x.Cache.length]
theorem ek_TDisk : EncOk enc_TDisk 2 := ⟨fun _ _ => rfl, by omega, fun _ _ => (fac (.lst (ekS.fdat _ _)) (fac (.lst (ek_TWrite.fdat _ _)) fan)), fun _ => (fac (.lst (ekS.fown _)) (fac (.lst (ek_TWrite.fown _)) fan)), fun _ => (.cons (ekS.fflag _).lst (.cons (ek_TWrite.fflag _).lst .nil))⟩
structure TRec where
  Kind : Int
  Valid : Int
  Uid : Int
  Next : Int
  Flags : Int
  User : List UInt8
  Name : List UInt8
  Text : List UInt8
def enc_TRec (_ : Bool) (x : TRec) : List AV := [.int .i64 x.Kind, .int .i64 x.Valid, .int .i64 x.Uid, .int .i64 x.Next, .int .i64 x.Flags, .str x.User, .str x.Name, .str x.Text]
theorem sc_TRec (o : Bool) (x : TRec) : ∀ v ∈ enc_TRec o x, Scl v := (fac .int (fac .int (fac .int (fac .int (fac .int (fac .str (fac .str (fac .str fan))))))))
theorem fk_TRec : FlatOk enc_TRec 8 := ⟨⟨fun _ _ => rfl, by omega, fun _ _ => (fac .int (fac .int (fac .int (fac .int (fac .int (fac .str (fac .str (fac .str fan)))))))), fun _ => (fac .int (fac .int (fac .int (fac .int (fac .int (fac .str (fac .str (fac .str fan)))))))), fun _ => (.cons .refl (.cons .refl (.cons .refl (.cons .refl (.cons .refl (.cons .refl (.cons .refl (.cons .refl .nil))))))))⟩, fun _ => rfl, fun _ _ => (fac rfl (fac rfl (fac rfl (fac rfl (fac rfl (fac rfl (fac rfl (fac rfl fan)))))))), fun _ _ => (fac rfl (fac rfl (fac rfl (fac rfl (fac rfl (fac rfl (fac rfl (fac rfl fan))))))))⟩
theorem ek_TRec : EncOk enc_TRec 8 := fk_TRec.toEncOk
structure TItem where
  Seq : Int
  Rec : TRec
def enc_TItem (_ : Bool) (x : TItem) : List AV := [.int .i64 x.Seq, .int .i64 x.Rec.Kind, .int .i64 x.Rec.Valid, .int .i64 x.Rec.Uid, .int .i64 x.Rec.Next, .int .i64 x.Rec.Flags, .str x.Rec.User, .str x.Rec.Name, .str x.Rec.Text]
theorem sc_TItem (o : Bool) (x : TItem) : ∀ v ∈ enc_TItem o x, Scl v := (fac .int (fac .int (fac .int (fac .int (fac .int (fac .int (fac .str (fac .str (fac .str fan)))))))))
theorem fk_TItem : FlatOk enc_TItem 9 := ⟨⟨fun _ _ => rfl, by omega, fun _ _ => (fac .int (fac .int (fac .int (fac .int (fac .int (fac .int (fac .str (fac .str (fac .str fan))))))))), fun _ => (fac .int (fac .int (fac .int (fac .int (fac .int (fac .int (fac .str (fac .str (fac .str fan))))))))), fun _ => (.cons .refl (.cons .refl (.cons .refl (.cons .refl (.cons .refl (.cons .refl (.cons .refl (.cons .refl (.cons .refl .nil)))))))))⟩, fun _ => rfl, fun _ _ => (fac rfl (fac rfl (fac rfl (fac rfl (fac rfl (fac rfl (fac rfl (fac rfl (fac rfl fan))))))))), fun _ _ => (fac rfl (fac rfl (fac rfl (fac rfl (fac rfl (fac rfl (fac rfl (fac rfl (fac rfl fan)))))))))⟩
theorem ek_TItem : EncOk enc_TItem 9 := fk_TItem.toEncOk
structure TSeg where
  No : Int
  Gen : Int
  End : Int
  Items : List TItem
def enc_TSeg (o : Bool) (x : TSeg) : List AV := [.int .i64 x.No, .int .i64 x.Gen, .int .i64 x.End, .lst o 9 (fl (enc_TItem o) x.Items) x.Items.length]
theorem ek_TSeg : EncOk enc_TSeg 4 := ⟨fun _ _ => rfl, by omega, fun _ _ => (fac .int (fac .int (fac .int (fac (.lst (ek_TItem.fdat _ _)) fan)))), fun _ => (fac .int (fac .int (fac .int (fac (.lst (ek_TItem.fown _)) fan)))), fun _ => (.cons .refl (.cons .refl (.cons .refl (.cons (ek_TItem.fflag _).lst .nil))))⟩
structure TLog where
  Disk : TDisk
  Segs : Int
  Used : List TSeg
  NextGen : Int
  NextSeq : Int
  Stamp : Int
  NextValid : Int
def enc_TLog (o : Bool) (x : TLog) : List AV := [.lst o 1 (fl (encS o) x.Disk.Sectors) x.Disk.Sectors.length, .lst o 2 (fl (enc_TWrite o) x.Disk.Cache) x.Disk.Cache.length, .int .i64 x.Segs, .lst o 4 (fl (enc_TSeg o) x.Used) x.Used.length, .int .i64 x.NextGen, .int .i64 x.NextSeq, .int .i64 x.Stamp, .int .i64 x.NextValid]
theorem ek_TLog : EncOk enc_TLog 8 := ⟨fun _ _ => rfl, by omega, fun _ _ => (fac (.lst (ekS.fdat _ _)) (fac (.lst (ek_TWrite.fdat _ _)) (fac .int (fac (.lst (ek_TSeg.fdat _ _)) (fac .int (fac .int (fac .int (fac .int fan)))))))), fun _ => (fac (.lst (ekS.fown _)) (fac (.lst (ek_TWrite.fown _)) (fac .int (fac (.lst (ek_TSeg.fown _)) (fac .int (fac .int (fac .int (fac .int fan)))))))), fun _ => (.cons (ekS.fflag _).lst (.cons (ek_TWrite.fflag _).lst (.cons .refl (.cons (ek_TSeg.fflag _).lst (.cons .refl (.cons .refl (.cons .refl (.cons .refl .nil))))))))⟩
structure TRef where
  No : Int
  Gen : Int
def enc_TRef (_ : Bool) (x : TRef) : List AV := [.int .i64 x.No, .int .i64 x.Gen]
theorem sc_TRef (o : Bool) (x : TRef) : ∀ v ∈ enc_TRef o x, Scl v := (fac .int (fac .int fan))
theorem fk_TRef : FlatOk enc_TRef 2 := ⟨⟨fun _ _ => rfl, by omega, fun _ _ => (fac .int (fac .int fan)), fun _ => (fac .int (fac .int fan)), fun _ => (.cons .refl (.cons .refl .nil))⟩, fun _ => rfl, fun _ _ => (fac rfl (fac rfl fan)), fun _ _ => (fac rfl (fac rfl fan))⟩
theorem ek_TRef : EncOk enc_TRef 2 := fk_TRef.toEncOk
structure TCheck where
  Stamp : Int
  NextGen : Int
  NextSeq : Int
  NextValid : Int
  Refs : List TRef
def enc_TCheck (o : Bool) (x : TCheck) : List AV := [.int .i64 x.Stamp, .int .i64 x.NextGen, .int .i64 x.NextSeq, .int .i64 x.NextValid, .lst o 2 (fl (enc_TRef o) x.Refs) x.Refs.length]
theorem ek_TCheck : EncOk enc_TCheck 5 := ⟨fun _ _ => rfl, by omega, fun _ _ => (fac .int (fac .int (fac .int (fac .int (fac (.lst (ek_TRef.fdat _ _)) fan))))), fun _ => (fac .int (fac .int (fac .int (fac .int (fac (.lst (ek_TRef.fown _)) fan))))), fun _ => (.cons .refl (.cons .refl (.cons .refl (.cons .refl (.cons (ek_TRef.fflag _).lst .nil)))))⟩
structure TL06Cur where
  mText : List UInt8
  mAt : Int
  mBad : Bool
def enc_TL06Cur (_ : Bool) (x : TL06Cur) : List AV := [.str x.mText, .int .i64 x.mAt, .bool x.mBad]
theorem sc_TL06Cur (o : Bool) (x : TL06Cur) : ∀ v ∈ enc_TL06Cur o x, Scl v := (fac .str (fac .int (fac .bool fan)))
theorem fk_TL06Cur : FlatOk enc_TL06Cur 3 := ⟨⟨fun _ _ => rfl, by omega, fun _ _ => (fac .str (fac .int (fac .bool fan))), fun _ => (fac .str (fac .int (fac .bool fan))), fun _ => (.cons .refl (.cons .refl (.cons .refl .nil)))⟩, fun _ => rfl, fun _ _ => (fac rfl (fac rfl (fac rfl fan))), fun _ _ => (fac rfl (fac rfl (fac rfl fan)))⟩
theorem ek_TL06Cur : EncOk enc_TL06Cur 3 := fk_TL06Cur.toEncOk
structure TFrame where
  Gen : Int
  Seq : Int
  Body : List UInt8
def enc_TFrame (_ : Bool) (x : TFrame) : List AV := [.int .i64 x.Gen, .int .i64 x.Seq, .str x.Body]
theorem sc_TFrame (o : Bool) (x : TFrame) : ∀ v ∈ enc_TFrame o x, Scl v := (fac .int (fac .int (fac .str fan)))
theorem fk_TFrame : FlatOk enc_TFrame 3 := ⟨⟨fun _ _ => rfl, by omega, fun _ _ => (fac .int (fac .int (fac .str fan))), fun _ => (fac .int (fac .int (fac .str fan))), fun _ => (.cons .refl (.cons .refl (.cons .refl .nil)))⟩, fun _ => rfl, fun _ _ => (fac rfl (fac rfl (fac rfl fan))), fun _ _ => (fac rfl (fac rfl (fac rfl fan)))⟩
theorem ek_TFrame : EncOk enc_TFrame 3 := fk_TFrame.toEncOk
structure TStore where
  Log : TLog
  Freed : List Int
def enc_TStore (o : Bool) (x : TStore) : List AV := [.lst o 1 (fl (encS o) x.Log.Disk.Sectors) x.Log.Disk.Sectors.length, .lst o 2 (fl (enc_TWrite o) x.Log.Disk.Cache) x.Log.Disk.Cache.length, .int .i64 x.Log.Segs, .lst o 4 (fl (enc_TSeg o) x.Log.Used) x.Log.Used.length, .int .i64 x.Log.NextGen, .int .i64 x.Log.NextSeq, .int .i64 x.Log.Stamp, .int .i64 x.Log.NextValid, .lst o 1 (fl (encI o) x.Freed) x.Freed.length]
theorem ek_TStore : EncOk enc_TStore 9 := ⟨fun _ _ => rfl, by omega, fun _ _ => (fac (.lst (ekS.fdat _ _)) (fac (.lst (ek_TWrite.fdat _ _)) (fac .int (fac (.lst (ek_TSeg.fdat _ _)) (fac .int (fac .int (fac .int (fac .int (fac (.lst (ekI.fdat _ _)) fan))))))))), fun _ => (fac (.lst (ekS.fown _)) (fac (.lst (ek_TWrite.fown _)) (fac .int (fac (.lst (ek_TSeg.fown _)) (fac .int (fac .int (fac .int (fac .int (fac (.lst (ekI.fown _)) fan))))))))), fun _ => (.cons (ekS.fflag _).lst (.cons (ek_TWrite.fflag _).lst (.cons .refl (.cons (ek_TSeg.fflag _).lst (.cons .refl (.cons .refl (.cons .refl (.cons .refl (.cons (ekI.fflag _).lst .nil)))))))))⟩
def wf_TWrite (x : TWrite) : Prop := ((Lit.int .i64 x.At).wf = true) ∧ (x.Text.length ≤ maxLen) ∧ True
def wf_TDisk (x : TDisk) : Prop := (x.Sectors.length ≤ maxLen ∧ ∀ a ∈ x.Sectors, a.length ≤ maxLen) ∧ (x.Cache.length ≤ maxLen ∧ ∀ a ∈ x.Cache, wf_TWrite a) ∧ True
def wf_TRec (x : TRec) : Prop := ((Lit.int .i64 x.Kind).wf = true) ∧ ((Lit.int .i64 x.Valid).wf = true) ∧ ((Lit.int .i64 x.Uid).wf = true) ∧ ((Lit.int .i64 x.Next).wf = true) ∧ ((Lit.int .i64 x.Flags).wf = true) ∧ (x.User.length ≤ maxLen) ∧ (x.Name.length ≤ maxLen) ∧ (x.Text.length ≤ maxLen) ∧ True
def wf_TItem (x : TItem) : Prop := ((Lit.int .i64 x.Seq).wf = true) ∧ (wf_TRec x.Rec) ∧ True
def wf_TSeg (x : TSeg) : Prop := ((Lit.int .i64 x.No).wf = true) ∧ ((Lit.int .i64 x.Gen).wf = true) ∧ ((Lit.int .i64 x.End).wf = true) ∧ (x.Items.length ≤ maxLen ∧ ∀ a ∈ x.Items, wf_TItem a) ∧ True
def wf_TLog (x : TLog) : Prop := (wf_TDisk x.Disk) ∧ ((Lit.int .i64 x.Segs).wf = true) ∧ (x.Used.length ≤ maxLen ∧ ∀ a ∈ x.Used, wf_TSeg a) ∧ ((Lit.int .i64 x.NextGen).wf = true) ∧ ((Lit.int .i64 x.NextSeq).wf = true) ∧ ((Lit.int .i64 x.Stamp).wf = true) ∧ ((Lit.int .i64 x.NextValid).wf = true) ∧ True
def wf_TRef (x : TRef) : Prop := ((Lit.int .i64 x.No).wf = true) ∧ ((Lit.int .i64 x.Gen).wf = true) ∧ True
def wf_TCheck (x : TCheck) : Prop := ((Lit.int .i64 x.Stamp).wf = true) ∧ ((Lit.int .i64 x.NextGen).wf = true) ∧ ((Lit.int .i64 x.NextSeq).wf = true) ∧ ((Lit.int .i64 x.NextValid).wf = true) ∧ (x.Refs.length ≤ maxLen ∧ ∀ a ∈ x.Refs, wf_TRef a) ∧ True
def wf_TL06Cur (x : TL06Cur) : Prop := (x.mText.length ≤ maxLen) ∧ ((Lit.int .i64 x.mAt).wf = true) ∧ (True) ∧ True
def wf_TFrame (x : TFrame) : Prop := ((Lit.int .i64 x.Gen).wf = true) ∧ ((Lit.int .i64 x.Seq).wf = true) ∧ (x.Body.length ≤ maxLen) ∧ True
def wf_TStore (x : TStore) : Prop := (wf_TLog x.Log) ∧ (x.Freed.length ≤ maxLen ∧ ∀ a ∈ x.Freed, (Lit.int .i64 a).wf = true) ∧ True
end Go.Proofs.Ytgdcbjoaoagbpaa.V
/- What the functions compute. -/
namespace Go.Proofs.Ytgdcbjoaoagbpaa.V
open Go Go.Proofs Go.RowKit
set_option maxRecDepth 100000
noncomputable def S_laws_szStringS_1 (x0 : List (List UInt8)) (s1 : Int × Int) : Option ((Int × Int) ⊕ (Int ⊕ Int)) :=
  (if decide (s1.2 < (x0.length : Int)) then (at? x0 s1.2).bind fun v3 => (if decide ((w64 (s1.1 - (v3.length : Int))) < 0) then some (.inr (.inl (-1))) else some (.inl (w64 (s1.1 - (v3.length : Int)), w64 (s1.2 + 1)))) else some (.inr (.inr s1.1)))
noncomputable def F_laws_szStringS (x0 : List (List UInt8)) (x1 : Int) : Option Int :=
  (if decide ((w64 (x1 - (x0.length : Int))) < 0) then some (-1) else (iter (S_laws_szStringS_1 x0) (w64 (x1 - (x0.length : Int)), 0)).bind (Sum.elim (fun r => some r) (fun y2 => some y2)))
noncomputable def F_laws_szWrite (x0 : TWrite) (x1 : Int) : Option Int :=
  (if decide ((w64 (x1 - (x0.Text.length : Int))) < 0) then some (-1) else some (w64 (x1 - (x0.Text.length : Int))))
noncomputable def S_laws_szWriteS_1 (x0 : List TWrite) (s1 : Int × Int) : Option ((Int × Int) ⊕ (Int ⊕ Int)) :=
  (if decide (s1.2 < (x0.length : Int)) then (at? x0 s1.2).bind fun v3 => (F_laws_szWrite v3 s1.1).bind fun v4 => (if decide (v4 < 0) then some (.inr (.inl (-1))) else some (.inl (v4, w64 (s1.2 + 1)))) else some (.inr (.inr s1.1)))
noncomputable def F_laws_szWriteS (x0 : List TWrite) (x1 : Int) : Option Int :=
  (if decide ((w64 (x1 - (x0.length : Int))) < 0) then some (-1) else (iter (S_laws_szWriteS_1 x0) (w64 (x1 - (x0.length : Int)), 0)).bind (Sum.elim (fun r => some r) (fun y2 => some y2)))
noncomputable def F_laws_szDisk (x0 : TDisk) (x1 : Int) : Option Int :=
  (F_laws_szStringS x0.Sectors x1).bind fun v1 => (if decide (v1 < 0) then some (-1) else (F_laws_szWriteS x0.Cache v1).bind fun v2 => (if decide (v2 < 0) then some (-1) else some v2))
noncomputable def F_laws_szRec (x0 : TRec) (x1 : Int) : Option Int :=
  (if decide ((w64 (x1 - (x0.User.length : Int))) < 0) then some (-1) else (if decide ((w64 ((w64 (x1 - (x0.User.length : Int))) - (x0.Name.length : Int))) < 0) then some (-1) else (if decide ((w64 ((w64 ((w64 (x1 - (x0.User.length : Int))) - (x0.Name.length : Int))) - (x0.Text.length : Int))) < 0) then some (-1) else some (w64 ((w64 ((w64 (x1 - (x0.User.length : Int))) - (x0.Name.length : Int))) - (x0.Text.length : Int))))))
noncomputable def F_laws_szItem (x0 : TItem) (x1 : Int) : Option Int :=
  (F_laws_szRec x0.Rec x1).bind fun v1 => (if decide (v1 < 0) then some (-1) else some v1)
noncomputable def S_laws_szItemS_1 (x0 : List TItem) (s1 : Int × Int) : Option ((Int × Int) ⊕ (Int ⊕ Int)) :=
  (if decide (s1.2 < (x0.length : Int)) then (at? x0 s1.2).bind fun v3 => (F_laws_szItem v3 s1.1).bind fun v4 => (if decide (v4 < 0) then some (.inr (.inl (-1))) else some (.inl (v4, w64 (s1.2 + 1)))) else some (.inr (.inr s1.1)))
noncomputable def F_laws_szItemS (x0 : List TItem) (x1 : Int) : Option Int :=
  (if decide ((w64 (x1 - (x0.length : Int))) < 0) then some (-1) else (iter (S_laws_szItemS_1 x0) (w64 (x1 - (x0.length : Int)), 0)).bind (Sum.elim (fun r => some r) (fun y2 => some y2)))
noncomputable def F_laws_szSeg (x0 : TSeg) (x1 : Int) : Option Int :=
  (F_laws_szItemS x0.Items x1).bind fun v1 => (if decide (v1 < 0) then some (-1) else some v1)
noncomputable def S_laws_szSegS_1 (x0 : List TSeg) (s1 : Int × Int) : Option ((Int × Int) ⊕ (Int ⊕ Int)) :=
  (if decide (s1.2 < (x0.length : Int)) then (at? x0 s1.2).bind fun v3 => (F_laws_szSeg v3 s1.1).bind fun v4 => (if decide (v4 < 0) then some (.inr (.inl (-1))) else some (.inl (v4, w64 (s1.2 + 1)))) else some (.inr (.inr s1.1)))
noncomputable def F_laws_szSegS (x0 : List TSeg) (x1 : Int) : Option Int :=
  (if decide ((w64 (x1 - (x0.length : Int))) < 0) then some (-1) else (iter (S_laws_szSegS_1 x0) (w64 (x1 - (x0.length : Int)), 0)).bind (Sum.elim (fun r => some r) (fun y2 => some y2)))
noncomputable def F_laws_szLog (x0 : TLog) (x1 : Int) : Option Int :=
  (F_laws_szDisk x0.Disk x1).bind fun v1 => (if decide (v1 < 0) then some (-1) else (F_laws_szSegS x0.Used v1).bind fun v2 => (if decide (v2 < 0) then some (-1) else some v2))
noncomputable def S_laws_toStringS_1 (x0 : List (List UInt8)) (s2 : Int × (List (List UInt8))) : Option ((Int × (List (List UInt8))) ⊕ (List (List UInt8))) :=
  (if decide (s2.1 < (x0.length : Int)) then (at? x0 s2.1).bind fun v4 => (at? s2.2 s2.1).bind fun v5 => (some (set' s2.2 s2.1 v4)).bind fun v6 => some (.inl (w64 (s2.1 + 1), v6)) else some (.inr s2.2))
noncomputable def F_laws_toStringS (x0 : List (List UInt8)) : Option (List (List UInt8)) :=
  (mk? 16 ([] : List UInt8) (x0.length : Int)).bind fun v1 => (iter (S_laws_toStringS_1 x0) (0, v1)).bind (fun y7 => some y7)
noncomputable def F_laws_toWrite (x0 : TWrite) : Option TWrite :=
  some x0
noncomputable def S_laws_toWriteS_1 (x0 : List TWrite) (s2 : Int × (List TWrite)) : Option ((Int × (List TWrite)) ⊕ (List TWrite)) :=
  (if decide (s2.1 < (x0.length : Int)) then (at? x0 s2.1).bind fun v4 => (F_laws_toWrite v4).bind fun v5 => (at? s2.2 s2.1).bind fun v6 => (some (set' s2.2 s2.1 v5)).bind fun v7 => some (.inl (w64 (s2.1 + 1), v7)) else some (.inr s2.2))
noncomputable def F_laws_toWriteS (x0 : List TWrite) : Option (List TWrite) :=
  (mk? 24 (({ At := 0, Text := [] } : TWrite) : TWrite) (x0.length : Int)).bind fun v1 => (iter (S_laws_toWriteS_1 x0) (0, v1)).bind (fun y8 => some y8)
noncomputable def F_laws_toDisk (x0 : TDisk) : Option TDisk :=
  (F_laws_toStringS x0.Sectors).bind fun v1 => (F_laws_toWriteS x0.Cache).bind fun v2 => some ({ Sectors := v1, Cache := v2 } : TDisk)
noncomputable def F_laws_toRec (x0 : TRec) : Option TRec :=
  some x0
noncomputable def F_laws_toItem (x0 : TItem) : Option TItem :=
  (F_laws_toRec x0.Rec).bind fun v1 => some ({ Seq := x0.Seq, Rec := v1 } : TItem)
noncomputable def S_laws_toItemS_1 (x0 : List TItem) (s2 : Int × (List TItem)) : Option ((Int × (List TItem)) ⊕ (List TItem)) :=
  (if decide (s2.1 < (x0.length : Int)) then (at? x0 s2.1).bind fun v4 => (F_laws_toItem v4).bind fun v5 => (at? s2.2 s2.1).bind fun v6 => (some (set' s2.2 s2.1 v5)).bind fun v7 => some (.inl (w64 (s2.1 + 1), v7)) else some (.inr s2.2))
noncomputable def F_laws_toItemS (x0 : List TItem) : Option (List TItem) :=
  (mk? 96 (({ Seq := 0, Rec := ({ Kind := 0, Valid := 0, Uid := 0, Next := 0, Flags := 0, User := [], Name := [], Text := [] } : TRec) } : TItem) : TItem) (x0.length : Int)).bind fun v1 => (iter (S_laws_toItemS_1 x0) (0, v1)).bind (fun y8 => some y8)
noncomputable def F_laws_toSeg (x0 : TSeg) : Option TSeg :=
  (F_laws_toItemS x0.Items).bind fun v1 => some ({ No := x0.No, Gen := x0.Gen, End := x0.End, Items := v1 } : TSeg)
noncomputable def S_laws_toSegS_1 (x0 : List TSeg) (s2 : Int × (List TSeg)) : Option ((Int × (List TSeg)) ⊕ (List TSeg)) :=
  (if decide (s2.1 < (x0.length : Int)) then (at? x0 s2.1).bind fun v4 => (F_laws_toSeg v4).bind fun v5 => (at? s2.2 s2.1).bind fun v6 => (some (set' s2.2 s2.1 ({ No := v5.No, Gen := v5.Gen, End := v5.End, Items := v5.Items } : TSeg))).bind fun v7 => some (.inl (w64 (s2.1 + 1), v7)) else some (.inr s2.2))
noncomputable def F_laws_toSegS (x0 : List TSeg) : Option (List TSeg) :=
  (mk? 48 (({ No := 0, Gen := 0, End := 0, Items := [] } : TSeg) : TSeg) (x0.length : Int)).bind fun v1 => (iter (S_laws_toSegS_1 x0) (0, v1)).bind (fun y8 => some y8)
noncomputable def F_laws_toLog (x0 : TLog) : Option TLog :=
  (F_laws_toDisk x0.Disk).bind fun v1 => (F_laws_toSegS x0.Used).bind fun v2 => some ({ Disk := ({ Sectors := v1.Sectors, Cache := v1.Cache } : TDisk), Segs := x0.Segs, Used := v2, NextGen := x0.NextGen, NextSeq := x0.NextSeq, Stamp := x0.Stamp, NextValid := x0.NextValid } : TLog)
noncomputable def S_laws_eqStringS_1 (x0 : List (List UInt8)) (x1 : List (List UInt8)) (s1 : Int) : Option (Int ⊕ (Bool ⊕ Unit)) :=
  (if decide (s1 < (x0.length : Int)) then (at? x0 s1).bind fun v3 => (at? x1 s1).bind fun v4 => (if (!(v3 == v4)) then some (.inr (.inl false)) else some (.inl (w64 (s1 + 1)))) else some (.inr (.inr ())))
noncomputable def F_laws_eqStringS (x0 : List (List UInt8)) (x1 : List (List UInt8)) : Option Bool :=
  (if ((x0.length : Int) != (x1.length : Int)) then some false else (iter (S_laws_eqStringS_1 x0 x1) 0).bind (Sum.elim (fun r => some r) (fun y2 => some true)))
noncomputable def F_laws_eqWrite (x0 : TWrite) (x1 : TWrite) : Option Bool :=
  (if (x0.At != x1.At) then some false else (if (!(x0.Text == x1.Text)) then some false else some true))
noncomputable def S_laws_eqWriteS_1 (x0 : List TWrite) (x1 : List TWrite) (s1 : Int) : Option (Int ⊕ (Bool ⊕ Unit)) :=
  (if decide (s1 < (x0.length : Int)) then (at? x0 s1).bind fun v3 => (at? x1 s1).bind fun v4 => (F_laws_eqWrite v3 v4).bind fun v5 => (if v5 then some (.inl (w64 (s1 + 1))) else some (.inr (.inl false))) else some (.inr (.inr ())))
noncomputable def F_laws_eqWriteS (x0 : List TWrite) (x1 : List TWrite) : Option Bool :=
  (if ((x0.length : Int) != (x1.length : Int)) then some false else (iter (S_laws_eqWriteS_1 x0 x1) 0).bind (Sum.elim (fun r => some r) (fun y2 => some true)))
noncomputable def F_laws_eqDisk (x0 : TDisk) (x1 : TDisk) : Option Bool :=
  (F_laws_eqStringS x0.Sectors x1.Sectors).bind fun v1 => (if v1 then (F_laws_eqWriteS x0.Cache x1.Cache).bind fun v2 => (if v2 then some true else some false) else some false)
noncomputable def F_laws_eqRec (x0 : TRec) (x1 : TRec) : Option Bool :=
  (if (x0.Kind != x1.Kind) then some false else (if (x0.Valid != x1.Valid) then some false else (if (x0.Uid != x1.Uid) then some false else (if (x0.Next != x1.Next) then some false else (if (x0.Flags != x1.Flags) then some false else (if (!(x0.User == x1.User)) then some false else (if (!(x0.Name == x1.Name)) then some false else (if (!(x0.Text == x1.Text)) then some false else some true))))))))
noncomputable def F_laws_eqItem (x0 : TItem) (x1 : TItem) : Option Bool :=
  (if (x0.Seq != x1.Seq) then some false else (F_laws_eqRec x0.Rec x1.Rec).bind fun v1 => (if v1 then some true else some false))
noncomputable def S_laws_eqItemS_1 (x0 : List TItem) (x1 : List TItem) (s1 : Int) : Option (Int ⊕ (Bool ⊕ Unit)) :=
  (if decide (s1 < (x0.length : Int)) then (at? x0 s1).bind fun v3 => (at? x1 s1).bind fun v4 => (F_laws_eqItem v3 v4).bind fun v5 => (if v5 then some (.inl (w64 (s1 + 1))) else some (.inr (.inl false))) else some (.inr (.inr ())))
noncomputable def F_laws_eqItemS (x0 : List TItem) (x1 : List TItem) : Option Bool :=
  (if ((x0.length : Int) != (x1.length : Int)) then some false else (iter (S_laws_eqItemS_1 x0 x1) 0).bind (Sum.elim (fun r => some r) (fun y2 => some true)))
noncomputable def F_laws_eqSeg (x0 : TSeg) (x1 : TSeg) : Option Bool :=
  (if (x0.No != x1.No) then some false else (if (x0.Gen != x1.Gen) then some false else (if (x0.End != x1.End) then some false else (F_laws_eqItemS x0.Items x1.Items).bind fun v1 => (if v1 then some true else some false))))
noncomputable def S_laws_eqSegS_1 (x0 : List TSeg) (x1 : List TSeg) (s1 : Int) : Option (Int ⊕ (Bool ⊕ Unit)) :=
  (if decide (s1 < (x0.length : Int)) then (at? x0 s1).bind fun v3 => (at? x1 s1).bind fun v4 => (F_laws_eqSeg v3 v4).bind fun v5 => (if v5 then some (.inl (w64 (s1 + 1))) else some (.inr (.inl false))) else some (.inr (.inr ())))
noncomputable def F_laws_eqSegS (x0 : List TSeg) (x1 : List TSeg) : Option Bool :=
  (if ((x0.length : Int) != (x1.length : Int)) then some false else (iter (S_laws_eqSegS_1 x0 x1) 0).bind (Sum.elim (fun r => some r) (fun y2 => some true)))
noncomputable def F_laws_eqLog (x0 : TLog) (x1 : TLog) : Option Bool :=
  (F_laws_eqDisk x0.Disk x1.Disk).bind fun v1 => (if v1 then (if (x0.Segs != x1.Segs) then some false else (F_laws_eqSegS x0.Used x1.Used).bind fun v2 => (if v2 then (if (x0.NextGen != x1.NextGen) then some false else (if (x0.NextSeq != x1.NextSeq) then some false else (if (x0.Stamp != x1.Stamp) then some false else (if (x0.NextValid != x1.NextValid) then some false else some true)))) else some false)) else some false)
noncomputable def S_laws_markText_1 (s1 : Int × (List UInt8)) : Option ((Int × (List UInt8)) ⊕ (List UInt8)) :=
  (if decide (s1.1 > 0) then (cat? ([IntKind.u8.wrap (w64 (48 + (Int.tmod s1.1 10)))].map ofI) s1.2).bind fun v3 => some (.inl (w64 (Int.tdiv s1.1 10), v3)) else some (.inr s1.2))
noncomputable def F_laws_markText (x0 : Int) : Option (List UInt8) :=
  (if decide (x0 ≤ 0) then some [109, 48] else (iter (S_laws_markText_1) (x0, [])).bind (fun y4 => (cat? [109] y4).bind fun v5 => some v5))
noncomputable def S_laws_markStringS_w_1 (s1 : Int × Int × (List (List UInt8))) : Option ((Int × Int × (List (List UInt8))) ⊕ (Int × (List (List UInt8)))) :=
  (if decide (s1.2.1 < (s1.2.2.length : Int)) then (F_laws_markText s1.1).bind fun v3 => (at? s1.2.2 s1.2.1).bind fun v4 => (some (set' s1.2.2 s1.2.1 v3)).bind fun v5 => some (.inl (w64 (s1.1 + 1), w64 (s1.2.1 + 1), v5)) else some (.inr (s1.1, s1.2.2)))
noncomputable def F_laws_markStringS_w (x0 : List (List UInt8)) (x1 : Int) : Option (Int × (List (List UInt8))) :=
  (iter (S_laws_markStringS_w_1) (x1, 0, x0)).bind (fun y6 => some (y6.1, y6.2))
noncomputable def S_laws_markWriteS_w_1 (s1 : Int × Int × (List TWrite)) : Option ((Int × Int × (List TWrite)) ⊕ (Int × (List TWrite))) :=
  (if decide (s1.2.1 < (s1.2.2.length : Int)) then (at? s1.2.2 s1.2.1).bind fun v3 => (some (set' s1.2.2 s1.2.1 ({ At := s1.1, Text := v3.Text } : TWrite))).bind fun v4 => (F_laws_markText (w64 (s1.1 + 1))).bind fun v5 => (at? v4 s1.2.1).bind fun v6 => (some (set' v4 s1.2.1 ({ At := v6.At, Text := v5 } : TWrite))).bind fun v7 => some (.inl (w64 ((w64 (s1.1 + 1)) + 1), w64 (s1.2.1 + 1), v7)) else some (.inr (s1.1, s1.2.2)))
noncomputable def F_laws_markWriteS_w (x0 : List TWrite) (x1 : Int) : Option (Int × (List TWrite)) :=
  (iter (S_laws_markWriteS_w_1) (x1, 0, x0)).bind (fun y8 => some (y8.1, y8.2))
noncomputable def F_laws_markDisk_w (x0 : List (List UInt8)) (x1 : List TWrite) (x2 : Int) : Option (Int × (List (List UInt8)) × (List TWrite)) :=
  (guardO (fun r => x0.length = r.2.length) (F_laws_markStringS_w x0 x2)).bind fun v1 => (guardO (fun r => x1.length = r.2.length) (F_laws_markWriteS_w x1 v1.1)).bind fun v2 => some (v2.1, v1.2, v2.2)
noncomputable def S_laws_markItemS_w_1 (s1 : Int × Int × (List TItem)) : Option ((Int × Int × (List TItem)) ⊕ (Int × (List TItem))) :=
  (if decide (s1.2.1 < (s1.2.2.length : Int)) then (at? s1.2.2 s1.2.1).bind fun v3 => (some (set' s1.2.2 s1.2.1 ({ Seq := s1.1, Rec := v3.Rec } : TItem))).bind fun v4 => (at? v4 s1.2.1).bind fun v5 => (some (set' v4 s1.2.1 ({ Seq := v5.Seq, Rec := ({ Kind := w64 (s1.1 + 1), Valid := v5.Rec.Valid, Uid := v5.Rec.Uid, Next := v5.Rec.Next, Flags := v5.Rec.Flags, User := v5.Rec.User, Name := v5.Rec.Name, Text := v5.Rec.Text } : TRec) } : TItem))).bind fun v6 => (at? v6 s1.2.1).bind fun v7 => (some (set' v6 s1.2.1 ({ Seq := v7.Seq, Rec := ({ Kind := v7.Rec.Kind, Valid := w64 ((w64 (s1.1 + 1)) + 1), Uid := v7.Rec.Uid, Next := v7.Rec.Next, Flags := v7.Rec.Flags, User := v7.Rec.User, Name := v7.Rec.Name, Text := v7.Rec.Text } : TRec) } : TItem))).bind fun v8 => (at? v8 s1.2.1).bind fun v9 => (some (set' v8 s1.2.1 ({ Seq := v9.Seq, Rec := ({ Kind := v9.Rec.Kind, Valid := v9.Rec.Valid, Uid := w64 ((w64 ((w64 (s1.1 + 1)) + 1)) + 1), Next := v9.Rec.Next, Flags := v9.Rec.Flags, User := v9.Rec.User, Name := v9.Rec.Name, Text := v9.Rec.Text } : TRec) } : TItem))).bind fun v10 => (at? v10 s1.2.1).bind fun v11 => (some (set' v10 s1.2.1 ({ Seq := v11.Seq, Rec := ({ Kind := v11.Rec.Kind, Valid := v11.Rec.Valid, Uid := v11.Rec.Uid, Next := w64 ((w64 ((w64 ((w64 (s1.1 + 1)) + 1)) + 1)) + 1), Flags := v11.Rec.Flags, User := v11.Rec.User, Name := v11.Rec.Name, Text := v11.Rec.Text } : TRec) } : TItem))).bind fun v12 => (at? v12 s1.2.1).bind fun v13 => (some (set' v12 s1.2.1 ({ Seq := v13.Seq, Rec := ({ Kind := v13.Rec.Kind, Valid := v13.Rec.Valid, Uid := v13.Rec.Uid, Next := v13.Rec.Next, Flags := w64 ((w64 ((w64 ((w64 ((w64 (s1.1 + 1)) + 1)) + 1)) + 1)) + 1), User := v13.Rec.User, Name := v13.Rec.Name, Text := v13.Rec.Text } : TRec) } : TItem))).bind fun v14 => (F_laws_markText (w64 ((w64 ((w64 ((w64 ((w64 ((w64 (s1.1 + 1)) + 1)) + 1)) + 1)) + 1)) + 1))).bind fun v15 => (at? v14 s1.2.1).bind fun v16 => (some (set' v14 s1.2.1 ({ Seq := v16.Seq, Rec := ({ Kind := v16.Rec.Kind, Valid := v16.Rec.Valid, Uid := v16.Rec.Uid, Next := v16.Rec.Next, Flags := v16.Rec.Flags, User := v15, Name := v16.Rec.Name, Text := v16.Rec.Text } : TRec) } : TItem))).bind fun v17 => (F_laws_markText (w64 ((w64 ((w64 ((w64 ((w64 ((w64 ((w64 (s1.1 + 1)) + 1)) + 1)) + 1)) + 1)) + 1)) + 1))).bind fun v18 => (at? v17 s1.2.1).bind fun v19 => (some (set' v17 s1.2.1 ({ Seq := v19.Seq, Rec := ({ Kind := v19.Rec.Kind, Valid := v19.Rec.Valid, Uid := v19.Rec.Uid, Next := v19.Rec.Next, Flags := v19.Rec.Flags, User := v19.Rec.User, Name := v18, Text := v19.Rec.Text } : TRec) } : TItem))).bind fun v20 => (F_laws_markText (w64 ((w64 ((w64 ((w64 ((w64 ((w64 ((w64 ((w64 (s1.1 + 1)) + 1)) + 1)) + 1)) + 1)) + 1)) + 1)) + 1))).bind fun v21 => (at? v20 s1.2.1).bind fun v22 => (some (set' v20 s1.2.1 ({ Seq := v22.Seq, Rec := ({ Kind := v22.Rec.Kind, Valid := v22.Rec.Valid, Uid := v22.Rec.Uid, Next := v22.Rec.Next, Flags := v22.Rec.Flags, User := v22.Rec.User, Name := v22.Rec.Name, Text := v21 } : TRec) } : TItem))).bind fun v23 => some (.inl (w64 ((w64 ((w64 ((w64 ((w64 ((w64 ((w64 ((w64 ((w64 (s1.1 + 1)) + 1)) + 1)) + 1)) + 1)) + 1)) + 1)) + 1)) + 1), w64 (s1.2.1 + 1), v23)) else some (.inr (s1.1, s1.2.2)))
noncomputable def F_laws_markItemS_w (x0 : List TItem) (x1 : Int) : Option (Int × (List TItem)) :=
  (iter (S_laws_markItemS_w_1) (x1, 0, x0)).bind (fun y24 => some (y24.1, y24.2))
noncomputable def S_laws_markSegS_w_1 (s1 : Int × Int × (List TSeg)) : Option ((Int × Int × (List TSeg)) ⊕ (Int × (List TSeg))) :=
  (if decide (s1.2.1 < (s1.2.2.length : Int)) then (at? s1.2.2 s1.2.1).bind fun v3 => (some (set' s1.2.2 s1.2.1 ({ No := s1.1, Gen := v3.Gen, End := v3.End, Items := v3.Items } : TSeg))).bind fun v4 => (at? v4 s1.2.1).bind fun v5 => (some (set' v4 s1.2.1 ({ No := v5.No, Gen := w64 (s1.1 + 1), End := v5.End, Items := v5.Items } : TSeg))).bind fun v6 => (at? v6 s1.2.1).bind fun v7 => (some (set' v6 s1.2.1 ({ No := v7.No, Gen := v7.Gen, End := w64 ((w64 (s1.1 + 1)) + 1), Items := v7.Items } : TSeg))).bind fun v8 => (at? v8 s1.2.1).bind fun v9 => (guardO (fun r => v9.Items.length = r.2.length) (F_laws_markItemS_w v9.Items (w64 ((w64 ((w64 (s1.1 + 1)) + 1)) + 1)))).bind fun v10 => (some (set' v8 s1.2.1 ({ No := v9.No, Gen := v9.Gen, End := v9.End, Items := v10.2 } : TSeg))).bind fun v11 => some (.inl (v10.1, w64 (s1.2.1 + 1), v11)) else some (.inr (s1.1, s1.2.2)))
noncomputable def F_laws_markSegS_w (x0 : List TSeg) (x1 : Int) : Option (Int × (List TSeg)) :=
  (iter (S_laws_markSegS_w_1) (x1, 0, x0)).bind (fun y12 => some (y12.1, y12.2))
noncomputable def F_laws_markLog_w (x0 : List (List UInt8)) (x1 : List TWrite) (x2 : Int) (x3 : List TSeg) (x4 : Int) (x5 : Int) (x6 : Int) (x7 : Int) (x8 : Int) : Option (Int × (List (List UInt8)) × (List TWrite) × (List TSeg)) :=
  (guardO (fun r => x0.length = r.2.1.length ∧ x1.length = r.2.2.length) (F_laws_markDisk_w x0 x1 x8)).bind fun v1 => (guardO (fun r => x3.length = r.2.length) (F_laws_markSegS_w x3 v1.1)).bind fun v2 => some (v2.1, v1.2.1, v1.2.2, v2.2)
noncomputable def S_spec_CheckOf_1 (x0 : TLog) (s1 : Int × (List TRef)) : Option ((Int × (List TRef)) ⊕ (List TRef)) :=
  (if decide (s1.1 < (x0.Used.length : Int)) then (at? x0.Used s1.1).bind fun v3 => (at? x0.Used s1.1).bind fun v4 => (app? 16 s1.2 [({ No := v3.No, Gen := v4.Gen } : TRef)]).bind fun v5 => some (.inl (w64 (s1.1 + 1), v5)) else some (.inr s1.2))
noncomputable def F_spec_CheckOf (x0 : TLog) : Option TCheck :=
  (iter (S_spec_CheckOf_1 x0) (0, ([] : List TRef))).bind (fun y6 => some ({ Stamp := w64 (x0.Stamp + 1), NextGen := x0.NextGen, NextSeq := x0.NextSeq, NextValid := x0.NextValid, Refs := y6 } : TCheck))
noncomputable def S_impl_CheckOf_1 (x0 : TLog) (s1 : Int × (List TRef)) : Option ((Int × (List TRef)) ⊕ (List TRef)) :=
  (if decide (s1.1 < (x0.Used.length : Int)) then (at? x0.Used s1.1).bind fun v3 => (app? 16 s1.2 [({ No := v3.No, Gen := v3.Gen } : TRef)]).bind fun v4 => some (.inl (w64 (s1.1 + 1), v4)) else some (.inr s1.2))
noncomputable def F_impl_CheckOf (x0 : TLog) : Option TCheck :=
  (iter (S_impl_CheckOf_1 x0) (0, ([] : List TRef))).bind (fun y5 => some ({ Stamp := w64 (x0.Stamp + 1), NextGen := x0.NextGen, NextSeq := x0.NextSeq, NextValid := x0.NextValid, Refs := y5 } : TCheck))
noncomputable def F_laws_eqRef (x0 : TRef) (x1 : TRef) : Option Bool :=
  (if (x0.No != x1.No) then some false else (if (x0.Gen != x1.Gen) then some false else some true))
noncomputable def S_laws_eqRefS_1 (x0 : List TRef) (x1 : List TRef) (s1 : Int) : Option (Int ⊕ (Bool ⊕ Unit)) :=
  (if decide (s1 < (x0.length : Int)) then (at? x0 s1).bind fun v3 => (at? x1 s1).bind fun v4 => (F_laws_eqRef v3 v4).bind fun v5 => (if v5 then some (.inl (w64 (s1 + 1))) else some (.inr (.inl false))) else some (.inr (.inr ())))
noncomputable def F_laws_eqRefS (x0 : List TRef) (x1 : List TRef) : Option Bool :=
  (if ((x0.length : Int) != (x1.length : Int)) then some false else (iter (S_laws_eqRefS_1 x0 x1) 0).bind (Sum.elim (fun r => some r) (fun y2 => some true)))
noncomputable def F_laws_eqCheck (x0 : TCheck) (x1 : TCheck) : Option Bool :=
  (if (x0.Stamp != x1.Stamp) then some false else (if (x0.NextGen != x1.NextGen) then some false else (if (x0.NextSeq != x1.NextSeq) then some false else (if (x0.NextValid != x1.NextValid) then some false else (F_laws_eqRefS x0.Refs x1.Refs).bind fun v1 => (if v1 then some true else some false)))))
noncomputable def S_laws_markRefS_w_1 (s1 : Int × Int × (List TRef)) : Option ((Int × Int × (List TRef)) ⊕ (Int × (List TRef))) :=
  (if decide (s1.2.1 < (s1.2.2.length : Int)) then (at? s1.2.2 s1.2.1).bind fun v3 => (some (set' s1.2.2 s1.2.1 ({ No := s1.1, Gen := v3.Gen } : TRef))).bind fun v4 => (at? v4 s1.2.1).bind fun v5 => (some (set' v4 s1.2.1 ({ No := v5.No, Gen := w64 (s1.1 + 1) } : TRef))).bind fun v6 => some (.inl (w64 ((w64 (s1.1 + 1)) + 1), w64 (s1.2.1 + 1), v6)) else some (.inr (s1.1, s1.2.2)))
noncomputable def F_laws_markRefS_w (x0 : List TRef) (x1 : Int) : Option (Int × (List TRef)) :=
  (iter (S_laws_markRefS_w_1) (x1, 0, x0)).bind (fun y7 => some (y7.1, y7.2))
noncomputable def F_laws_markCheck_w (x0 : Int) (x1 : Int) (x2 : Int) (x3 : Int) (x4 : List TRef) (x5 : Int) : Option (Int × (List TRef)) :=
  (guardO (fun r => x4.length = r.2.length) (F_laws_markRefS_w x4 x5)).bind fun v1 => some (v1.1, v1.2)
noncomputable def S_laws_heldRefS_1 (x0 : List TRef) (s1 : Int × Int) : Option ((Int × Int) ⊕ (Int ⊕ Int)) :=
  (if decide (s1.2 < (x0.length : Int)) then (at? x0 s1.2).bind fun v3 => (if (v3.No != s1.1) then some (.inr (.inl (-1))) else (at? x0 s1.2).bind fun v4 => (if (v4.Gen != (w64 (s1.1 + 1))) then some (.inr (.inl (-1))) else some (.inl (w64 ((w64 (s1.1 + 1)) + 1), w64 (s1.2 + 1))))) else some (.inr (.inr s1.1)))
noncomputable def F_laws_heldRefS (x0 : List TRef) (x1 : Int) : Option Int :=
  (iter (S_laws_heldRefS_1 x0) (x1, 0)).bind (Sum.elim (fun r => some r) (fun y2 => some y2))
noncomputable def F_laws_heldCheck (x0 : TCheck) (x1 : Int) : Option Int :=
  (F_laws_heldRefS x0.Refs x1).bind fun v1 => (if decide (v1 < 0) then some (-1) else some v1)
noncomputable def F_laws_FnExactCheckOf (x0 : TLog) : Option Bool :=
  (F_laws_szLog x0 1048576).bind fun v1 => (if decide (v1 < 0) then some true else (F_laws_toLog x0).bind fun v2 => (F_spec_CheckOf v2).bind fun v3 => (F_laws_toLog x0).bind fun v4 => (F_impl_CheckOf ({ Disk := ({ Sectors := v4.Disk.Sectors, Cache := v4.Disk.Cache } : TDisk), Segs := v4.Segs, Used := v4.Used, NextGen := v4.NextGen, NextSeq := v4.NextSeq, Stamp := v4.Stamp, NextValid := v4.NextValid } : TLog)).bind fun v5 => (F_laws_eqCheck ({ Stamp := v5.Stamp, NextGen := v5.NextGen, NextSeq := v5.NextSeq, NextValid := v5.NextValid, Refs := v5.Refs } : TCheck) v3).bind fun v6 => (if v6 then (F_laws_toLog x0).bind fun v7 => (F_laws_eqLog ({ Disk := ({ Sectors := v4.Disk.Sectors, Cache := v4.Disk.Cache } : TDisk), Segs := v4.Segs, Used := v4.Used, NextGen := v4.NextGen, NextSeq := v4.NextSeq, Stamp := v4.Stamp, NextValid := v4.NextValid } : TLog) v7).bind fun v8 => (if v8 then (guardO (fun r => v4.Disk.Sectors.length = r.2.1.length ∧ v4.Disk.Cache.length = r.2.2.1.length ∧ v4.Used.length = r.2.2.2.length) (F_laws_markLog_w v4.Disk.Sectors v4.Disk.Cache v4.Segs v4.Used v4.NextGen v4.NextSeq v4.Stamp v4.NextValid 1)).bind fun v9 => ((if decide (v9.1 < 0) then some true else (F_laws_eqCheck ({ Stamp := v5.Stamp, NextGen := v5.NextGen, NextSeq := v5.NextSeq, NextValid := v5.NextValid, Refs := v5.Refs } : TCheck) v3).bind fun v11 => (if v11 then some false else some true)) : Option Bool).bind (fun y10 => (if y10 then some false else (guardO (fun r => v5.Refs.length = r.2.length) (F_laws_markCheck_w v5.Stamp v5.NextGen v5.NextSeq v5.NextValid v5.Refs 1)).bind fun v12 => (F_laws_heldCheck ({ Stamp := v5.Stamp, NextGen := v5.NextGen, NextSeq := v5.NextSeq, NextValid := v5.NextValid, Refs := v12.2 } : TCheck) 1).bind fun v13 => (if decide (v13 < 0) then some false else (if (v13 != v12.1) then some false else (F_laws_toLog x0).bind fun v14 => (F_impl_CheckOf v14).bind fun v15 => (F_laws_eqCheck v15 v3).bind fun v16 => (if v16 then (F_laws_heldCheck ({ Stamp := v5.Stamp, NextGen := v5.NextGen, NextSeq := v5.NextSeq, NextValid := v5.NextValid, Refs := v12.2 } : TCheck) 1).bind fun v17 => (if decide (v17 < 0) then some false else (if (v17 != v12.1) then some false else some true)) else some false))))) else some false) else some false))
end Go.Proofs.Ytgdcbjoaoagbpaa.V
